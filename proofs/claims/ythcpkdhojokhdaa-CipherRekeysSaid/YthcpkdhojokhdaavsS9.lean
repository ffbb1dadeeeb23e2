/- Walks: a cipher used. -/
import Derived.Test.YthcpkdhojokhdaavsS8
set_option linter.unusedVariables false
set_option linter.unusedSimpArgs false
namespace Go.Sy
open Go.Proofs
attribute [local irreducible] atCall HT runOps runD onC onE onO onG goV goA goS onSt onGuard
def useR (has : Bool) (key : List UInt8) (n : UInt64) (b out : List UInt8) (e : Int) : (Bool × List UInt8 × UInt64) × List UInt8 × Int :=
 if cipherFault has key n = 9 then ((false, z32, 0), [], 9) else if has = false then (if 800 < b.length then ((false, z32, 0), [], 1) else ((has, key, n), b, 0)) else if n = 18446744073709551615 then ((false, z32, 0), [], 11) else if e = 0 then ((true, key, n + 1), out, 0) else ((false, z32, 0), [], e)
abbrev useV (r : (Bool × List UInt8 × UInt64) × List UInt8 × Int) : V → List (Nat × Ob) → Prop := cipV r.1.1 r.1.2.1 r.1.2.2 r.2.1 r.2.2
theorem fault_cases (has : Bool) (key : List UInt8) (n : UInt64) : cipherFault has key n = 9 ∨ (has = false ∧ key = z32 ∧ n = 0) ∨ has = true := by
 cases has with
 | true => exact .inr (.inr rfl)
 | false =>
  by_cases h : key = z32 ∧ n = 0
  · exact .inr (.inl ⟨rfl, h⟩)
  · exact .inl (by unfold cipherFault; rw [if_pos ⟨rfl, h⟩])
theorem fault_true (key : List UInt8) (n : UInt64) : cipherFault true key n = 0 := by unfold cipherFault; rw [if_neg (by simp)]
theorem fault_no : cipherFault false z32 0 = 0 := by unfold cipherFault; rw [if_neg fun h => h.2 ⟨rfl, rfl⟩]
theorem z32_length : z32.length = 32 := rfl
theorem last_iff {n : UInt64} : n + 1 = 0 ↔ n = 18446744073709551615 := by
 constructor
 · intro h
   have h2 := congrArg (· - 1) h
   simp only [UInt64.add_sub_cancel] at h2
   exact h2
 · rintro rfl; rfl
set_option maxHeartbeats 400000 in
theorem used_bad (k : Nat) (hgo : ∀ vals w, (callFunc k vals).run Try.prog w = .ok (.enter k vals) w) (has : Bool) (key : List UInt8) (hk : key.length = 32) (n : UInt64) (ad b : List UInt8) (ex1 ex2 : Bool) (h : cipherFault has key n = 9) :
 CtM Try.prog 60 [.w (.agg (cipherC has key n)), .w (.one (.fn k [])), .w (.one (.pl (.R ex1 1 (byteRows ad)))), .w (.one (.pl (.R ex2 1 (byteRows b))))] [] (Told (cipV false z32 0 [] 9)) := by
 refine CtM.k Try.func60 rfl Try.ntmps60 (congrArg Array.toList Try.results60) (by simp) fun w0 ro may fx => ?_
 refine top_k fun zZ zhZ => ?_
 iterate 14 first
  | (refine sr_k fun zK zhK => ?_; simp only [go_sem, cipherC, hk, h]; (repeat' (first | apply And.intro | intro _)))
  | refine zhK _ ?_
  | refine ret_k ?_
  | (refine zhM _ _ ?_; clear zhN zhM)
  | (refine zhZ _ _ ?_; simp only [go_sem, cipherC, hk, h]; (all_goals (exact cip_nil)))
  | ((all_goals (refine call_view (fun k => k) (fun _ _ => rfl) ?_ ((cipher_check has key hk n).plain fun _ _ h => h) ?_; focus (first | rfl | (simp only [go_sem, cipherC, hk, h] <;> rfl)))); (all_goals (rintro v m ⟨hR, hm⟩; subst hR; subst hm)); (all_goals refine And.intro (by first | rfl | simp only [go_sem, cipherC, hk, h]) (And.intro (by first | rfl | simp only [go_sem, cipherC, hk, h]) ?_)); (all_goals simp only [go_sem, cipherC, hk, h]); (all_goals repeat' (first | apply And.intro | intro _)))
  | refine seq_k fun zN zM zhN zhM => ?_
  | (refine condT_k ?_ ?_; focus (first | rfl | (simp [go_sem, cipherC, hk, h]; done)))
set_option maxHeartbeats 400000 in
theorem used_big (k : Nat) (hgo : ∀ vals w, (callFunc k vals).run Try.prog w = .ok (.enter k vals) w) (ad b : List UInt8) (ex1 ex2 : Bool) (h : 800 < b.length) :
 CtM Try.prog 60 [.w (.agg (cipherC false z32 0)), .w (.one (.fn k [])), .w (.one (.pl (.R ex1 1 (byteRows ad)))), .w (.one (.pl (.R ex2 1 (byteRows b))))] [] (Told (cipV false z32 0 [] 1)) := by
 have g : (800 : Int) < ((b.length : Nat) : Int) := by omega
 refine CtM.k Try.func60 rfl Try.ntmps60 (congrArg Array.toList Try.results60) (by simp) fun w0 ro may fx => ?_
 refine top_k fun zZ zhZ => ?_
 iterate 25 first
  | (refine sr_k fun zK zhK => ?_; simp only [go_sem, cipherC, g, fault_no, z32_length]; (repeat' (first | apply And.intro | intro _)))
  | refine zhK _ ?_
  | (refine zhM _ _ ?_; clear zhN zhM)
  | refine skip_k ?_
  | (refine zhN _ ?_; clear zhN zhM)
  | refine ret_k ?_
  | (refine zhZ _ _ ?_; simp only [go_sem, cipherC, g, fault_no, z32_length]; (all_goals (exact cip_nil)))
  | ((all_goals (refine call_view (fun k => k) (fun _ _ => rfl) ?_ ((cipher_check false z32 z32_length 0).plain fun _ _ h => h) ?_; focus (first | rfl | (simp only [go_sem, cipherC, g, fault_no, z32_length] <;> rfl)))); (all_goals (rintro v m ⟨hR, hm⟩; subst hR; subst hm)); (all_goals refine And.intro (by first | rfl | simp only [go_sem, cipherC, g, fault_no, z32_length]) (And.intro (by first | rfl | simp only [go_sem, cipherC, g, fault_no, z32_length]) ?_)); (all_goals simp only [go_sem, cipherC, g, fault_no, z32_length]); (all_goals repeat' (first | apply And.intro | intro _)))
  | refine seq_k fun zN zM zhN zhM => ?_
  | (refine condT_k ?_ ?_; focus (first | rfl | (simp [go_sem, cipherC, g, fault_no, z32_length]; done)))
  | (refine condF_k ?_ ?_; focus (first | rfl | (simp [go_sem, cipherC, g, fault_no, z32_length]; done)))
set_option maxHeartbeats 800000 in
theorem used_copy (k : Nat) (hgo : ∀ vals w, (callFunc k vals).run Try.prog w = .ok (.enter k vals) w) (ad b : List UInt8) (ex1 ex2 : Bool) (h : ¬ 800 < b.length) :
 CtM Try.prog 60 [.w (.agg (cipherC false z32 0)), .w (.one (.fn k [])), .w (.one (.pl (.R ex1 1 (byteRows ad)))), .w (.one (.pl (.R ex2 1 (byteRows b))))] [] (Told (cipV false z32 0 b 0)) := by
 have g : ¬ (800 : Int) < ((b.length : Nat) : Int) := by omega
 have hq : b.length ≤ 140737488355328 := by omega
 refine CtM.k Try.func60 rfl Try.ntmps60 (congrArg Array.toList Try.results60) (by simp) fun w0 ro may fx => ?_
 refine top_k fun zZ zhZ => ?_
 iterate 26 first
  | (refine sr_k fun zK zhK => ?_; simp only [go_sem, cipherC, g, hq, fault_no, z32_length]; (repeat' (first | apply And.intro | intro _)))
  | refine zhK _ ?_
  | refine skip_k ?_
  | (refine zhN _ ?_; clear zhN zhM)
  | (refine sd_k (id := 7) [27, 28, 29, 30, 9, 10] [0, 0, 0, 6, 15, 31, 63] [(0, 3)] mixed (by kernel_rfl) (by simp only [go_sem]) fun zK zhK => ?_; simp only [go_sem, cipherC, g, hq, fault_no, z32_length]; (repeat' (first | apply And.intro | intro _)))
  | (refine zhK _ _ ?_ ?_; (focus (first | trivial | (simp only [go_sem]; done) | (simp only [go_sem]; simp; done) | (simp only [go_sem]; simp; simp only [go_sem]))))
  | refine ret_k ?_
  | (refine zhM _ _ ?_; clear zhN zhM)
  | (refine zhZ _ _ ?_; simp only [go_sem, cipherC, g, hq, fault_no, z32_length]; (all_goals (first | exact cip_same | exact cip_obj (b := true) (by simp [look]) (by simp))))
  | ((all_goals (refine call_view (fun k => k) (fun _ _ => rfl) ?_ ((cipher_check false z32 z32_length 0).plain fun _ _ h => h) ?_; focus (first | rfl | (simp only [go_sem, cipherC, g, hq, fault_no, z32_length] <;> rfl)))); (all_goals (rintro v m ⟨hR, hm⟩; subst hR; subst hm)); (all_goals refine And.intro (by first | rfl | simp only [go_sem, cipherC, g, hq, fault_no, z32_length]) (And.intro (by first | rfl | simp only [go_sem, cipherC, g, hq, fault_no, z32_length]) ?_)); (all_goals simp only [go_sem, cipherC, g, hq, fault_no, z32_length]); (all_goals repeat' (first | apply And.intro | intro _)))
  | refine seq_k fun zN zM zhN zhM => ?_
  | (refine condF_k ?_ ?_; focus (first | rfl | (simp [go_sem, cipherC, g, hq, fault_no, z32_length]; done)))
  | (refine condT_k ?_ ?_; focus (first | rfl | (simp [go_sem, cipherC, g, hq, fault_no, z32_length]; done)))
set_option maxHeartbeats 400000 in
theorem used_over (k : Nat) (hgo : ∀ vals w, (callFunc k vals).run Try.prog w = .ok (.enter k vals) w) (key : List UInt8) (hk : key.length = 32) (n : UInt64) (ad b : List UInt8) (ex1 ex2 : Bool) (h : n = 18446744073709551615) :
 CtM Try.prog 60 [.w (.agg (cipherC true key n)), .w (.one (.fn k [])), .w (.one (.pl (.R ex1 1 (byteRows ad)))), .w (.one (.pl (.R ex2 1 (byteRows b))))] [] (Told (cipV false z32 0 [] 11)) := by
 have h2 : n + 1 = 0 := last_iff.mpr h
 refine CtM.k Try.func60 rfl Try.ntmps60 (congrArg Array.toList Try.results60) (by simp) fun w0 ro may fx => ?_
 refine top_k fun zZ zhZ => ?_
 iterate 26 first
  | (refine sr_k fun zK zhK => ?_; simp only [go_sem, cipherC, hk, h, fault_true]; (repeat' (first | apply And.intro | intro _)))
  | refine zhK _ ?_
  | refine skip_k ?_
  | (refine zhN _ ?_; clear zhN zhM)
  | refine ret_k ?_
  | (refine zhM _ _ ?_; clear zhN zhM)
  | (refine zhZ _ _ ?_; simp only [go_sem, cipherC, hk, h, fault_true]; (all_goals (exact cip_nil)))
  | ((all_goals (refine call_view (fun k => k) (fun _ _ => rfl) ?_ ((cipher_check true key hk n).plain fun _ _ h => h) ?_; focus (first | rfl | (simp only [go_sem, cipherC, hk, h, fault_true] <;> rfl)))); (all_goals (rintro v m ⟨hR, hm⟩; subst hR; subst hm)); (all_goals refine And.intro (by first | rfl | simp only [go_sem, cipherC, hk, h, fault_true]) (And.intro (by first | rfl | simp only [go_sem, cipherC, hk, h, fault_true]) ?_)); (all_goals simp only [go_sem, cipherC, hk, h, fault_true]); (all_goals repeat' (first | apply And.intro | intro _)))
  | refine seq_k fun zN zM zhN zhM => ?_
  | (refine condF_k ?_ ?_; focus (first | rfl | (simp [go_sem, cipherC, hk, h, fault_true]; done)))
  | (refine condT_k ?_ ?_; focus (first | rfl | (simp [go_sem, cipherC, hk, h, fault_true]; done)))
set_option maxHeartbeats 1600000 in
set_option maxRecDepth 100000 in
theorem used_err (k : Nat) (hgo : ∀ vals w, (callFunc k vals).run Try.prog w = .ok (.enter k vals) w) (key : List UInt8) (hk : key.length = 32) (n : UInt64) (ad b : List UInt8) (ex1 ex2 : Bool) (h : ¬ n = 18446744073709551615) (out : List UInt8) (e : Int) (he : ¬ e = 0) (hop : CtM Try.prog k [.w (.agg (bytesC key)), .w (.agg (bytesC (nonceB n))), .w (.one (.pl (.R ex1 1 (byteRows ad)))), .w (.one (.pl (.R ex2 1 (byteRows b))))] [] (byV out e)) :
 CtM Try.prog 60 [.w (.agg (cipherC true key n)), .w (.one (.fn k [])), .w (.one (.pl (.R ex1 1 (byteRows ad)))), .w (.one (.pl (.R ex2 1 (byteRows b))))] [] (Told (cipV false z32 0 [] e)) := by
 have h2 : ¬ n + 1 = 0 := fun q => h (last_iff.mp q)
 have hnl := nonceB_length n
 obtain ⟨nb, hnb⟩ : ∃ q, nonceB n = q := ⟨_, rfl⟩
 rw [hnb] at hnl hop
 have hN := nonce_ n
 rw [hnb] at hN
 have F0 := And.intro hk <| And.intro h <| And.intro h2 <| And.intro hnl <| he
 refine CtM.k Try.func60 rfl Try.ntmps60 (congrArg Array.toList Try.results60) (by simp) fun w0 ro may fx => ?_
 refine top_k fun zZ zhZ => ?_
 iterate 49 first
  | (refine zhN _ ?_; clear zhN zhM)
  | (refine region_k fun zK zhK => ?_; simp only [go_sem, cipherC, fault_true, F0]; (repeat' (first | apply And.intro | intro _)))
  | refine zhK _ ?_
  | refine skip_k ?_
  | refine ret_k ?_
  | (refine zhM _ _ ?_; clear zhN zhM)
  | (refine zhZ _ _ ?_; simp only [go_sem, cipherC, fault_true, F0]; (all_goals (exact cip_nil)))
  | ((all_goals (refine call_view (fun k => k) (fun _ _ => rfl) ?_ ((cipher_check true key hk n).plain fun _ _ h => h) ?_; focus (first | rfl | (simp only [go_sem, cipherC, fault_true, F0] <;> rfl)))); (all_goals (rintro v m ⟨hR, hm⟩; subst hR; subst hm)); (all_goals refine And.intro (by first | rfl | simp only [go_sem, cipherC, fault_true, F0]) (And.intro (by first | rfl | simp only [go_sem, cipherC, fault_true, F0]) ?_)); (all_goals simp only [go_sem, cipherC, fault_true, F0]); (all_goals repeat' (first | apply And.intro | intro _)))
  | (refine dr_k (id := 10) mixed fun zE zhE => ?_; refine dr_piece_k (p := 0) 8 [36, 37, 38, 39, 40, 41, 42, 43] [0, 0, 2, 0, 8, 24, 0, 0, 255, 511, 1023, 1023, 2047, 8191] [] rfl (by kernel_rfl) rfl (by simp only [go_sem]) fun zR zK zhR zhK => ?_; simp only [go_sem, cipherC, fault_true, F0]; (repeat' (first | apply And.intro | intro _)); (all_goals (refine call_draw (fun k => k) (.w (.agg (bytesC nb))) [] (fun _ _ => rfl) ?_ (hN.plain fun _ _ h => h) ?_ ?_; focus (first | rfl | (simp only [go_sem, cipherC, fault_true, F0] <;> rfl)))); (all_goals try (refine And.intro ?_ (And.intro ?_ (And.intro ?_ ?_)) <;> first | rfl | simp only [go_sem])); (all_goals simp only [go_sem, cipherC, fault_true, F0]); (all_goals repeat' (first | apply And.intro | intro _)); refine zhK _ _ trivial (zhR _ ?_); refine dr_runs_k 2 10 rfl (by kernel_rfl) rfl rfl fun zR zhR => ?_; simp only [go_sem, cipherC, fault_true, F0]; (repeat' (first | apply And.intro | intro _)); (all_goals (refine call_fn (caps := []) false [] (fun k => k) ?_ ?_ hgo ?_ (by decide) ?_ (show CtM Try.prog k ([.w (.agg (bytesC key)), .w (.agg (bytesC nb)), .w (.one (.pl (.R ex1 1 (byteRows ad)))), .w (.one (.pl (.R ex2 1 (byteRows b))))] ++ ([] : List Nat).map fun k => V.w (.one (.p k []))) _ _ from hop) ?_; iterate 4 (focus (first | rfl | (simp only [go_sem, cipherC, fault_true, F0] <;> first | done | rfl | simp))))); (all_goals (rintro v m ⟨hR, hm⟩; subst hR; subst hm)); (all_goals (refine And.intro ?_ (And.intro ?_ (And.intro ?_ ?_)); iterate 3 (focus (first | rfl | (simp only [go_sem, cipherC, fault_true, F0]; done) | (simp [go_sem, look, cipherC, fault_true, F0]; done))))); (all_goals (try simp only [go_sem, cipherC, fault_true, F0])); (all_goals (try simp only [go_sem, cipherC, fault_true, F0])); (all_goals repeat' (first | apply And.intro | intro _)); refine zhR _ ?_; refine dr_piece_k (p := 10) 13 [45, 46, 12] [0, 0, 2, 0, 8, 24, 0, 0, 255, 511, 1023, 1023, 2047, 8191] [] rfl (by kernel_rfl) rfl (by simp only [go_sem]) fun zR zK zhR zhK => ?_; simp only [go_sem, cipherC, fault_true, F0]; (repeat' (first | apply And.intro | intro _)); refine zhK _ _ trivial (zhR _ ?_); refine dr_runs_k 1 14 rfl (by kernel_rfl) rfl rfl fun zR zhR => ?_; simp only [go_sem, cipherC, fault_true, F0]; (repeat' (first | apply And.intro | intro _)); refine zhR _ ?_; refine dr_end rfl (zhE _ ?_))
  | refine seq_k fun zN zM zhN zhM => ?_
  | (refine condF_k ?_ ?_; focus (first | rfl | (simp [go_sem, cipherC, fault_true, F0]; done)))
  | (refine condT_k ?_ ?_; focus (first | rfl | (simp [go_sem, cipherC, fault_true, F0]; done)))
set_option maxHeartbeats 1600000 in
set_option maxRecDepth 100000 in
theorem used_ok (k : Nat) (hgo : ∀ vals w, (callFunc k vals).run Try.prog w = .ok (.enter k vals) w) (key : List UInt8) (hk : key.length = 32) (n : UInt64) (ad b : List UInt8) (ex1 ex2 : Bool) (h : ¬ n = 18446744073709551615) (out : List UInt8) (hop : CtM Try.prog k [.w (.agg (bytesC key)), .w (.agg (bytesC (nonceB n))), .w (.one (.pl (.R ex1 1 (byteRows ad)))), .w (.one (.pl (.R ex2 1 (byteRows b))))] [] (byV out 0)) :
 CtM Try.prog 60 [.w (.agg (cipherC true key n)), .w (.one (.fn k [])), .w (.one (.pl (.R ex1 1 (byteRows ad)))), .w (.one (.pl (.R ex2 1 (byteRows b))))] [] (Told (cipV true key (n + 1) out 0)) := by
 have h2 : ¬ n + 1 = 0 := fun q => h (last_iff.mp q)
 have hnl := nonceB_length n
 obtain ⟨nb, hnb⟩ : ∃ q, nonceB n = q := ⟨_, rfl⟩
 rw [hnb] at hnl hop
 have hN := nonce_ n
 rw [hnb] at hN
 have F0 := And.intro hk <| And.intro h <| And.intro h2 <| hnl
 refine CtM.k Try.func60 rfl Try.ntmps60 (congrArg Array.toList Try.results60) (by simp) fun w0 ro may fx => ?_
 refine top_k fun zZ zhZ => ?_
 iterate 54 first
  | (refine zhN _ ?_; clear zhN zhM)
  | (refine region_k fun zK zhK => ?_; simp only [go_sem, cipherC, fault_true, F0]; (repeat' (first | apply And.intro | intro _)))
  | refine zhK _ ?_
  | refine skip_k ?_
  | refine ret_k ?_
  | (refine zhZ _ _ ?_; simp only [go_sem, cipherC, fault_true, F0]; (all_goals (exact cip_same)))
  | ((all_goals (refine call_view (fun k => k) (fun _ _ => rfl) ?_ ((cipher_check true key hk n).plain fun _ _ h => h) ?_; focus (first | rfl | (simp only [go_sem, cipherC, fault_true, F0] <;> rfl)))); (all_goals (rintro v m ⟨hR, hm⟩; subst hR; subst hm)); (all_goals refine And.intro (by first | rfl | simp only [go_sem, cipherC, fault_true, F0]) (And.intro (by first | rfl | simp only [go_sem, cipherC, fault_true, F0]) ?_)); (all_goals simp only [go_sem, cipherC, fault_true, F0]); (all_goals repeat' (first | apply And.intro | intro _)))
  | (refine dr_k (id := 10) mixed fun zE zhE => ?_; refine dr_piece_k (p := 0) 8 [36, 37, 38, 39, 40, 41, 42, 43] [0, 0, 2, 0, 8, 24, 0, 0, 255, 511, 1023, 1023, 2047, 8191] [] rfl (by kernel_rfl) rfl (by simp only [go_sem]) fun zR zK zhR zhK => ?_; simp only [go_sem, cipherC, fault_true, F0]; (repeat' (first | apply And.intro | intro _)); (all_goals (refine call_draw (fun k => k) (.w (.agg (bytesC nb))) [] (fun _ _ => rfl) ?_ (hN.plain fun _ _ h => h) ?_ ?_; focus (first | rfl | (simp only [go_sem, cipherC, fault_true, F0] <;> rfl)))); (all_goals try (refine And.intro ?_ (And.intro ?_ (And.intro ?_ ?_)) <;> first | rfl | simp only [go_sem])); (all_goals simp only [go_sem, cipherC, fault_true, F0]); (all_goals repeat' (first | apply And.intro | intro _)); refine zhK _ _ trivial (zhR _ ?_); refine dr_runs_k 2 10 rfl (by kernel_rfl) rfl rfl fun zR zhR => ?_; simp only [go_sem, cipherC, fault_true, F0]; (repeat' (first | apply And.intro | intro _)); (all_goals (refine call_fn (caps := []) false [] (fun k => k) ?_ ?_ hgo ?_ (by decide) ?_ (show CtM Try.prog k ([.w (.agg (bytesC key)), .w (.agg (bytesC nb)), .w (.one (.pl (.R ex1 1 (byteRows ad)))), .w (.one (.pl (.R ex2 1 (byteRows b))))] ++ ([] : List Nat).map fun k => V.w (.one (.p k []))) _ _ from hop) ?_; iterate 4 (focus (first | rfl | (simp only [go_sem, cipherC, fault_true, F0] <;> first | done | rfl | simp))))); (all_goals (rintro v m ⟨hR, hm⟩; subst hR; subst hm)); (all_goals (refine And.intro ?_ (And.intro ?_ (And.intro ?_ ?_)); iterate 3 (focus (first | rfl | (simp only [go_sem, cipherC, fault_true, F0]; done) | (simp [go_sem, look, cipherC, fault_true, F0]; done))))); (all_goals (try simp only [go_sem, cipherC, fault_true, F0])); (all_goals (try simp only [go_sem, cipherC, fault_true, F0])); (all_goals repeat' (first | apply And.intro | intro _)); refine zhR _ ?_; refine dr_piece_k (p := 10) 13 [45, 46, 12] [0, 0, 2, 0, 8, 24, 0, 0, 255, 511, 1023, 1023, 2047, 8191] [] rfl (by kernel_rfl) rfl (by simp only [go_sem]) fun zR zK zhR zhK => ?_; simp only [go_sem, cipherC, fault_true, F0]; (repeat' (first | apply And.intro | intro _)); refine zhK _ _ trivial (zhR _ ?_); refine dr_runs_k 1 14 rfl (by kernel_rfl) rfl rfl fun zR zhR => ?_; simp only [go_sem, cipherC, fault_true, F0]; (repeat' (first | apply And.intro | intro _)); refine zhR _ ?_; refine dr_end rfl (zhE _ ?_))
  | refine seq_k fun zN zM zhN zhM => ?_
  | (refine condF_k ?_ ?_; focus (first | rfl | (simp [go_sem, cipherC, fault_true, F0]; done)))
set_option maxHeartbeats 400000 in
theorem refu_bad (op : Bool) (has : Bool) (key : List UInt8) (hk : key.length = 32) (n : UInt64) (ad b : List UInt8) (ex1 ex2 : Bool) (h : cipherFault has key n = 9) :
 CtM Try.prog 36 [.w (.one (.pl (.b op))), .w (.agg (cipherC has key n)), .w (.one (.pl (.R ex1 1 (byteRows ad)))), .w (.one (.pl (.R ex2 1 (byteRows b))))] [] (Told (cipV false z32 0 [] 9)) := by
 refine CtM.k Try.func36 rfl Try.ntmps36 (congrArg Array.toList Try.results36) (by simp) fun w0 ro may fx => ?_
 refine top_k fun zZ zhZ => ?_
 iterate 14 first
  | (refine sr_k fun zK zhK => ?_; simp only [go_sem, cipherC, hk, h]; (repeat' (first | apply And.intro | intro _)))
  | refine zhK _ ?_
  | refine ret_k ?_
  | (refine zhM _ _ ?_; clear zhN zhM)
  | (refine zhZ _ _ ?_; simp only [go_sem, cipherC, hk, h]; (all_goals (exact cip_nil)))
  | ((all_goals (refine call_view (fun k => k) (fun _ _ => rfl) ?_ ((cipher_fault has key hk n).plain fun _ _ h => h) ?_; focus (first | rfl | (simp only [go_sem, cipherC, hk, h] <;> rfl)))); (all_goals (rintro v m ⟨hR, hm⟩; subst hR; subst hm)); (all_goals refine And.intro (by first | rfl | simp only [go_sem, cipherC, hk, h]) (And.intro (by first | rfl | simp only [go_sem, cipherC, hk, h]) ?_)); (all_goals simp only [go_sem, cipherC, hk, h]); (all_goals repeat' (first | apply And.intro | intro _)))
  | refine seq_k fun zN zM zhN zhM => ?_
  | (refine condT_k ?_ ?_; focus (first | rfl | (simp [go_sem, cipherC, hk, h]; done)))
set_option maxHeartbeats 400000 in
theorem refu_big (op : Bool) (ad b : List UInt8) (ex1 ex2 : Bool) (h : 800 < b.length) :
 CtM Try.prog 36 [.w (.one (.pl (.b op))), .w (.agg (cipherC false z32 0)), .w (.one (.pl (.R ex1 1 (byteRows ad)))), .w (.one (.pl (.R ex2 1 (byteRows b))))] [] (Told (cipV false z32 0 [] 1)) := by
 have g : (800 : Int) < ((b.length : Nat) : Int) := by omega
 refine CtM.k Try.func36 rfl Try.ntmps36 (congrArg Array.toList Try.results36) (by simp) fun w0 ro may fx => ?_
 refine top_k fun zZ zhZ => ?_
 iterate 25 first
  | (refine sr_k fun zK zhK => ?_; simp only [go_sem, cipherC, g, fault_no, z32_length]; (repeat' (first | apply And.intro | intro _)))
  | refine zhK _ ?_
  | (refine zhM _ _ ?_; clear zhN zhM)
  | refine skip_k ?_
  | (refine zhN _ ?_; clear zhN zhM)
  | refine ret_k ?_
  | (refine zhZ _ _ ?_; simp only [go_sem, cipherC, g, fault_no, z32_length]; (all_goals (exact cip_nil)))
  | ((all_goals (refine call_view (fun k => k) (fun _ _ => rfl) ?_ ((cipher_fault false z32 z32_length 0).plain fun _ _ h => h) ?_; focus (first | rfl | (simp only [go_sem, cipherC, g, fault_no, z32_length] <;> rfl)))); (all_goals (rintro v m ⟨hR, hm⟩; subst hR; subst hm)); (all_goals refine And.intro (by first | rfl | simp only [go_sem, cipherC, g, fault_no, z32_length]) (And.intro (by first | rfl | simp only [go_sem, cipherC, g, fault_no, z32_length]) ?_)); (all_goals simp only [go_sem, cipherC, g, fault_no, z32_length]); (all_goals repeat' (first | apply And.intro | intro _)))
  | refine seq_k fun zN zM zhN zhM => ?_
  | (refine condT_k ?_ ?_; focus (first | rfl | (simp [go_sem, cipherC, g, fault_no, z32_length]; done)))
  | (refine condF_k ?_ ?_; focus (first | rfl | (simp [go_sem, cipherC, g, fault_no, z32_length]; done)))
set_option maxHeartbeats 800000 in
theorem refu_copy (op : Bool) (ad b : List UInt8) (ex1 ex2 : Bool) (h : ¬ 800 < b.length) :
 CtM Try.prog 36 [.w (.one (.pl (.b op))), .w (.agg (cipherC false z32 0)), .w (.one (.pl (.R ex1 1 (byteRows ad)))), .w (.one (.pl (.R ex2 1 (byteRows b))))] [] (Told (cipV false z32 0 b 0)) := by
 have g : ¬ (800 : Int) < ((b.length : Nat) : Int) := by omega
 have hq : b.length ≤ 140737488355328 := by omega
 refine CtM.k Try.func36 rfl Try.ntmps36 (congrArg Array.toList Try.results36) (by simp) fun w0 ro may fx => ?_
 refine top_k fun zZ zhZ => ?_
 iterate 26 first
  | (refine sr_k fun zK zhK => ?_; simp only [go_sem, cipherC, g, hq, fault_no, z32_length]; (repeat' (first | apply And.intro | intro _)))
  | refine zhK _ ?_
  | refine skip_k ?_
  | (refine zhN _ ?_; clear zhN zhM)
  | refine ret_k ?_
  | (refine zhM _ _ ?_; clear zhN zhM)
  | (refine zhZ _ _ ?_; simp only [go_sem, cipherC, g, hq, fault_no, z32_length]; (all_goals (first | exact cip_same | exact cip_obj (b := true) (by simp [look]) (by simp))))
  | ((all_goals (refine call_view (fun k => k) (fun _ _ => rfl) ?_ ((cipher_fault false z32 z32_length 0).plain fun _ _ h => h) ?_; focus (first | rfl | (simp only [go_sem, cipherC, g, hq, fault_no, z32_length] <;> rfl)))); (all_goals (rintro v m ⟨hR, hm⟩; subst hR; subst hm)); (all_goals refine And.intro (by first | rfl | simp only [go_sem, cipherC, g, hq, fault_no, z32_length]) (And.intro (by first | rfl | simp only [go_sem, cipherC, g, hq, fault_no, z32_length]) ?_)); (all_goals simp only [go_sem, cipherC, g, hq, fault_no, z32_length]); (all_goals repeat' (first | apply And.intro | intro _)))
  | refine seq_k fun zN zM zhN zhM => ?_
  | (refine condF_k ?_ ?_; focus (first | rfl | (simp [go_sem, cipherC, g, hq, fault_no, z32_length]; done)))
  | (refine condT_k ?_ ?_; focus (first | rfl | (simp [go_sem, cipherC, g, hq, fault_no, z32_length]; done)))
set_option maxHeartbeats 400000 in
theorem refu_over (op : Bool) (key : List UInt8) (hk : key.length = 32) (n : UInt64) (ad b : List UInt8) (ex1 ex2 : Bool) (h : n = 18446744073709551615) :
 CtM Try.prog 36 [.w (.one (.pl (.b op))), .w (.agg (cipherC true key n)), .w (.one (.pl (.R ex1 1 (byteRows ad)))), .w (.one (.pl (.R ex2 1 (byteRows b))))] [] (Told (cipV false z32 0 [] 11)) := by
 have h2 : n + 1 = 0 := last_iff.mpr h
 have F0 := And.intro hk <| And.intro h <| h2
 refine CtM.k Try.func36 rfl Try.ntmps36 (congrArg Array.toList Try.results36) (by simp) fun w0 ro may fx => ?_
 refine top_k fun zZ zhZ => ?_
 iterate 26 first
  | (refine sr_k fun zK zhK => ?_; simp only [go_sem, cipherC, fault_true, F0]; (repeat' (first | apply And.intro | intro _)))
  | refine zhK _ ?_
  | refine skip_k ?_
  | (refine zhN _ ?_; clear zhN zhM)
  | refine ret_k ?_
  | (refine zhM _ _ ?_; clear zhN zhM)
  | (refine zhZ _ _ ?_; simp only [go_sem, cipherC, fault_true, F0]; (all_goals (exact cip_nil)))
  | ((all_goals (refine call_view (fun k => k) (fun _ _ => rfl) ?_ ((cipher_fault true key hk n).plain fun _ _ h => h) ?_; focus (first | rfl | (simp only [go_sem, cipherC, fault_true, F0] <;> rfl)))); (all_goals (rintro v m ⟨hR, hm⟩; subst hR; subst hm)); (all_goals refine And.intro (by first | rfl | simp only [go_sem, cipherC, fault_true, F0]) (And.intro (by first | rfl | simp only [go_sem, cipherC, fault_true, F0]) ?_)); (all_goals simp only [go_sem, cipherC, fault_true, F0]); (all_goals repeat' (first | apply And.intro | intro _)))
  | refine seq_k fun zN zM zhN zhM => ?_
  | (refine condF_k ?_ ?_; focus (first | rfl | (simp [go_sem, cipherC, fault_true, F0]; done)))
  | (refine condT_k ?_ ?_; focus (first | rfl | (simp [go_sem, cipherC, fault_true, F0]; done)))
set_option maxHeartbeats 1600000 in
set_option maxRecDepth 100000 in
theorem refu_err_s  (key : List UInt8) (hk : key.length = 32) (n : UInt64) (ad b : List UInt8) (ex1 ex2 : Bool) (h : ¬ n = 18446744073709551615) (out : List UInt8) (e : Int) (he : ¬ e = 0) (hop : CtM Try.prog 30 [.w (.agg (bytesC key)), .w (.agg (bytesC (nonceB n))), .w (.one (.pl (.R ex1 1 (byteRows ad)))), .w (.one (.pl (.R ex2 1 (byteRows b))))] [] (byV out e)) :
 CtM Try.prog 36 [.w (.one (.pl (.b false))), .w (.agg (cipherC true key n)), .w (.one (.pl (.R ex1 1 (byteRows ad)))), .w (.one (.pl (.R ex2 1 (byteRows b))))] [] (Told (cipV false z32 0 [] e)) := by
 have h2 : ¬ n + 1 = 0 := fun q => h (last_iff.mp q)
 have hnl := nonceB_length n
 obtain ⟨nb, hnb⟩ : ∃ q, nonceB n = q := ⟨_, rfl⟩
 rw [hnb] at hnl hop
 have hN := nonce_of n
 rw [hnb] at hN
 have F0 := And.intro hk <| And.intro h <| And.intro h2 <| And.intro hnl <| he
 refine CtM.k Try.func36 rfl Try.ntmps36 (congrArg Array.toList Try.results36) (by simp) fun w0 ro may fx => ?_
 refine top_k fun zZ zhZ => ?_
 iterate 62 first
  | (refine zhN _ ?_; clear zhN zhM)
  | (refine region_k fun zK zhK => ?_; simp only [go_sem, cipherC, fault_true, F0]; (repeat' (first | apply And.intro | intro _)))
  | refine zhK _ ?_
  | refine skip_k ?_
  | refine ret_k ?_
  | (refine zhM _ _ ?_; clear zhN zhM)
  | (refine zhZ _ _ ?_; simp only [go_sem, cipherC, fault_true, F0]; (all_goals (exact cip_nil)))
  | ((all_goals (refine call_view (fun k => k) (fun _ _ => rfl) ?_ ((cipher_fault true key hk n).plain fun _ _ h => h) ?_; focus (first | rfl | (simp only [go_sem, cipherC, fault_true, F0] <;> rfl)))); (all_goals (rintro v m ⟨hR, hm⟩; subst hR; subst hm)); (all_goals refine And.intro (by first | rfl | simp only [go_sem, cipherC, fault_true, F0]) (And.intro (by first | rfl | simp only [go_sem, cipherC, fault_true, F0]) ?_)); (all_goals simp only [go_sem, cipherC, fault_true, F0]); (all_goals repeat' (first | apply And.intro | intro _)))
  | (refine dr_k (id := 14) mixed fun zE zhE => ?_; refine dr_piece_k (p := 0) 7 [47, 48, 49, 50, 51, 52, 53] [0, 1, 0, 4, 12, 0, 0, 127, 255, 511, 511, 1023, 4095] [] rfl (by kernel_rfl) rfl (by simp only [go_sem]) fun zR zK zhR zhK => ?_; simp only [go_sem, cipherC, fault_true, F0]; (repeat' (first | apply And.intro | intro _)); (all_goals (refine call_draw (fun k => k) (.w (.agg (bytesC nb))) [] (fun _ _ => rfl) ?_ (hN.plain fun _ _ h => h) ?_ ?_; focus (first | rfl | (simp only [go_sem, cipherC, fault_true, F0] <;> rfl)))); (all_goals try (refine And.intro ?_ (And.intro ?_ (And.intro ?_ ?_)) <;> first | rfl | simp only [go_sem])); (all_goals simp only [go_sem, cipherC, fault_true, F0]); (all_goals repeat' (first | apply And.intro | intro _)); refine zhK _ _ trivial (zhR _ ?_); refine dr_runs_k 2 9 rfl (by kernel_rfl) rfl rfl fun zR zhR => ?_; simp only [go_sem, cipherC, fault_true, F0]; (repeat' (first | apply And.intro | intro _)); (all_goals (refine call_hand false [] (fun k => k) (fun _ _ => rfl) ?_ (by decide) ?_ hop ?_; iterate 2 (focus (first | rfl | (simp only [go_sem, cipherC, fault_true, F0] <;> first | done | rfl | simp))))); (all_goals (rintro v m ⟨hR, hm⟩; subst hR; subst hm)); (all_goals (refine And.intro ?_ (And.intro ?_ (And.intro ?_ ?_)); iterate 3 (focus (first | rfl | (simp only [go_sem, cipherC, fault_true, F0]; done) | (simp [go_sem, look, cipherC, fault_true, F0]; done))))); (all_goals (try simp only [go_sem, cipherC, fault_true, F0])); (all_goals (try simp only [go_sem, cipherC, fault_true, F0])); (all_goals repeat' (first | apply And.intro | intro _)); refine zhR _ ?_; refine dr_piece_k (p := 9) 12 [55, 56, 12] [0, 1, 0, 4, 12, 0, 0, 127, 255, 511, 511, 1023, 4095] [] rfl (by kernel_rfl) rfl (by simp only [go_sem]) fun zR zK zhR zhK => ?_; simp only [go_sem, cipherC, fault_true, F0]; (repeat' (first | apply And.intro | intro _)); refine zhK _ _ trivial (zhR _ ?_); refine dr_runs_k 1 13 rfl (by kernel_rfl) rfl rfl fun zR zhR => ?_; simp only [go_sem, cipherC, fault_true, F0]; (repeat' (first | apply And.intro | intro _)); refine zhR _ ?_; refine dr_end rfl (zhE _ ?_))
  | refine seq_k fun zN zM zhN zhM => ?_
  | (refine condF_k ?_ ?_; focus (first | rfl | (simp [go_sem, cipherC, fault_true, F0]; done)))
  | (refine condT_k ?_ ?_; focus (first | rfl | (simp [go_sem, cipherC, fault_true, F0]; done)))
set_option maxHeartbeats 1600000 in
set_option maxRecDepth 100000 in
theorem refu_err_o  (key : List UInt8) (hk : key.length = 32) (n : UInt64) (ad b : List UInt8) (ex1 ex2 : Bool) (h : ¬ n = 18446744073709551615) (out : List UInt8) (e : Int) (he : ¬ e = 0) (hop : CtM Try.prog 32 [.w (.agg (bytesC key)), .w (.agg (bytesC (nonceB n))), .w (.one (.pl (.R ex1 1 (byteRows ad)))), .w (.one (.pl (.R ex2 1 (byteRows b))))] [] (byV out e)) :
 CtM Try.prog 36 [.w (.one (.pl (.b true))), .w (.agg (cipherC true key n)), .w (.one (.pl (.R ex1 1 (byteRows ad)))), .w (.one (.pl (.R ex2 1 (byteRows b))))] [] (Told (cipV false z32 0 [] e)) := by
 have h2 : ¬ n + 1 = 0 := fun q => h (last_iff.mp q)
 have hnl := nonceB_length n
 obtain ⟨nb, hnb⟩ : ∃ q, nonceB n = q := ⟨_, rfl⟩
 rw [hnb] at hnl hop
 have hN := nonce_of n
 rw [hnb] at hN
 have F0 := And.intro hk <| And.intro h <| And.intro h2 <| And.intro hnl <| he
 refine CtM.k Try.func36 rfl Try.ntmps36 (congrArg Array.toList Try.results36) (by simp) fun w0 ro may fx => ?_
 refine top_k fun zZ zhZ => ?_
 iterate 62 first
  | (refine zhN _ ?_; clear zhN zhM)
  | (refine region_k fun zK zhK => ?_; simp only [go_sem, cipherC, fault_true, F0]; (repeat' (first | apply And.intro | intro _)))
  | refine zhK _ ?_
  | refine skip_k ?_
  | refine ret_k ?_
  | (refine zhM _ _ ?_; clear zhN zhM)
  | (refine zhZ _ _ ?_; simp only [go_sem, cipherC, fault_true, F0]; (all_goals (exact cip_nil)))
  | ((all_goals (refine call_view (fun k => k) (fun _ _ => rfl) ?_ ((cipher_fault true key hk n).plain fun _ _ h => h) ?_; focus (first | rfl | (simp only [go_sem, cipherC, fault_true, F0] <;> rfl)))); (all_goals (rintro v m ⟨hR, hm⟩; subst hR; subst hm)); (all_goals refine And.intro (by first | rfl | simp only [go_sem, cipherC, fault_true, F0]) (And.intro (by first | rfl | simp only [go_sem, cipherC, fault_true, F0]) ?_)); (all_goals simp only [go_sem, cipherC, fault_true, F0]); (all_goals repeat' (first | apply And.intro | intro _)))
  | (refine dr_k (id := 13) mixed fun zE zhE => ?_; refine dr_piece_k (p := 0) 7 [36, 37, 38, 39, 40, 41, 42] [0, 1, 0, 4, 12, 0, 0, 127, 255, 511, 511, 1023, 4095] [] rfl (by kernel_rfl) rfl (by simp only [go_sem]) fun zR zK zhR zhK => ?_; simp only [go_sem, cipherC, fault_true, F0]; (repeat' (first | apply And.intro | intro _)); (all_goals (refine call_draw (fun k => k) (.w (.agg (bytesC nb))) [] (fun _ _ => rfl) ?_ (hN.plain fun _ _ h => h) ?_ ?_; focus (first | rfl | (simp only [go_sem, cipherC, fault_true, F0] <;> rfl)))); (all_goals try (refine And.intro ?_ (And.intro ?_ (And.intro ?_ ?_)) <;> first | rfl | simp only [go_sem])); (all_goals simp only [go_sem, cipherC, fault_true, F0]); (all_goals repeat' (first | apply And.intro | intro _)); refine zhK _ _ trivial (zhR _ ?_); refine dr_runs_k 2 9 rfl (by kernel_rfl) rfl rfl fun zR zhR => ?_; simp only [go_sem, cipherC, fault_true, F0]; (repeat' (first | apply And.intro | intro _)); (all_goals (refine call_hand false [] (fun k => k) (fun _ _ => rfl) ?_ (by decide) ?_ hop ?_; iterate 2 (focus (first | rfl | (simp only [go_sem, cipherC, fault_true, F0] <;> first | done | rfl | simp))))); (all_goals (rintro v m ⟨hR, hm⟩; subst hR; subst hm)); (all_goals (refine And.intro ?_ (And.intro ?_ (And.intro ?_ ?_)); iterate 3 (focus (first | rfl | (simp only [go_sem, cipherC, fault_true, F0]; done) | (simp [go_sem, look, cipherC, fault_true, F0]; done))))); (all_goals (try simp only [go_sem, cipherC, fault_true, F0])); (all_goals (try simp only [go_sem, cipherC, fault_true, F0])); (all_goals repeat' (first | apply And.intro | intro _)); refine zhR _ ?_; refine dr_piece_k (p := 9) 12 [44, 45, 12] [0, 1, 0, 4, 12, 0, 0, 127, 255, 511, 511, 1023, 4095] [] rfl (by kernel_rfl) rfl (by simp only [go_sem]) fun zR zK zhR zhK => ?_; simp only [go_sem, cipherC, fault_true, F0]; (repeat' (first | apply And.intro | intro _)); refine zhK _ _ trivial (zhR _ ?_); refine dr_runs_k 1 13 rfl (by kernel_rfl) rfl rfl fun zR zhR => ?_; simp only [go_sem, cipherC, fault_true, F0]; (repeat' (first | apply And.intro | intro _)); refine zhR _ ?_; refine dr_end rfl (zhE _ ?_))
  | refine seq_k fun zN zM zhN zhM => ?_
  | (refine condF_k ?_ ?_; focus (first | rfl | (simp [go_sem, cipherC, fault_true, F0]; done)))
  | (refine condT_k ?_ ?_; focus (first | rfl | (simp [go_sem, cipherC, fault_true, F0]; done)))
set_option maxHeartbeats 1600000 in
set_option maxRecDepth 100000 in
theorem refu_ok_s  (key : List UInt8) (hk : key.length = 32) (n : UInt64) (ad b : List UInt8) (ex1 ex2 : Bool) (h : ¬ n = 18446744073709551615) (out : List UInt8) (hop : CtM Try.prog 30 [.w (.agg (bytesC key)), .w (.agg (bytesC (nonceB n))), .w (.one (.pl (.R ex1 1 (byteRows ad)))), .w (.one (.pl (.R ex2 1 (byteRows b))))] [] (byV out 0)) :
 CtM Try.prog 36 [.w (.one (.pl (.b false))), .w (.agg (cipherC true key n)), .w (.one (.pl (.R ex1 1 (byteRows ad)))), .w (.one (.pl (.R ex2 1 (byteRows b))))] [] (Told (cipV true key (n + 1) out 0)) := by
 have h2 : ¬ n + 1 = 0 := fun q => h (last_iff.mp q)
 have hnl := nonceB_length n
 obtain ⟨nb, hnb⟩ : ∃ q, nonceB n = q := ⟨_, rfl⟩
 rw [hnb] at hnl hop
 have hN := nonce_of n
 rw [hnb] at hN
 have F0 := And.intro hk <| And.intro h <| And.intro h2 <| hnl
 refine CtM.k Try.func36 rfl Try.ntmps36 (congrArg Array.toList Try.results36) (by simp) fun w0 ro may fx => ?_
 refine top_k fun zZ zhZ => ?_
 iterate 63 first
  | (refine zhN _ ?_; clear zhN zhM)
  | (refine region_k fun zK zhK => ?_; simp only [go_sem, cipherC, fault_true, F0]; (repeat' (first | apply And.intro | intro _)))
  | refine zhK _ ?_
  | refine skip_k ?_
  | refine ret_k ?_
  | (refine zhZ _ _ ?_; simp only [go_sem, cipherC, fault_true, F0]; (all_goals (exact cip_same)))
  | ((all_goals (refine call_view (fun k => k) (fun _ _ => rfl) ?_ ((cipher_fault true key hk n).plain fun _ _ h => h) ?_; focus (first | rfl | (simp only [go_sem, cipherC, fault_true, F0] <;> rfl)))); (all_goals (rintro v m ⟨hR, hm⟩; subst hR; subst hm)); (all_goals refine And.intro (by first | rfl | simp only [go_sem, cipherC, fault_true, F0]) (And.intro (by first | rfl | simp only [go_sem, cipherC, fault_true, F0]) ?_)); (all_goals simp only [go_sem, cipherC, fault_true, F0]); (all_goals repeat' (first | apply And.intro | intro _)))
  | (refine dr_k (id := 14) mixed fun zE zhE => ?_; refine dr_piece_k (p := 0) 7 [47, 48, 49, 50, 51, 52, 53] [0, 1, 0, 4, 12, 0, 0, 127, 255, 511, 511, 1023, 4095] [] rfl (by kernel_rfl) rfl (by simp only [go_sem]) fun zR zK zhR zhK => ?_; simp only [go_sem, cipherC, fault_true, F0]; (repeat' (first | apply And.intro | intro _)); (all_goals (refine call_draw (fun k => k) (.w (.agg (bytesC nb))) [] (fun _ _ => rfl) ?_ (hN.plain fun _ _ h => h) ?_ ?_; focus (first | rfl | (simp only [go_sem, cipherC, fault_true, F0] <;> rfl)))); (all_goals try (refine And.intro ?_ (And.intro ?_ (And.intro ?_ ?_)) <;> first | rfl | simp only [go_sem])); (all_goals simp only [go_sem, cipherC, fault_true, F0]); (all_goals repeat' (first | apply And.intro | intro _)); refine zhK _ _ trivial (zhR _ ?_); refine dr_runs_k 2 9 rfl (by kernel_rfl) rfl rfl fun zR zhR => ?_; simp only [go_sem, cipherC, fault_true, F0]; (repeat' (first | apply And.intro | intro _)); (all_goals (refine call_hand false [] (fun k => k) (fun _ _ => rfl) ?_ (by decide) ?_ hop ?_; iterate 2 (focus (first | rfl | (simp only [go_sem, cipherC, fault_true, F0] <;> first | done | rfl | simp))))); (all_goals (rintro v m ⟨hR, hm⟩; subst hR; subst hm)); (all_goals (refine And.intro ?_ (And.intro ?_ (And.intro ?_ ?_)); iterate 3 (focus (first | rfl | (simp only [go_sem, cipherC, fault_true, F0]; done) | (simp [go_sem, look, cipherC, fault_true, F0]; done))))); (all_goals (try simp only [go_sem, cipherC, fault_true, F0])); (all_goals (try simp only [go_sem, cipherC, fault_true, F0])); (all_goals repeat' (first | apply And.intro | intro _)); refine zhR _ ?_; refine dr_piece_k (p := 9) 12 [55, 56, 12] [0, 1, 0, 4, 12, 0, 0, 127, 255, 511, 511, 1023, 4095] [] rfl (by kernel_rfl) rfl (by simp only [go_sem]) fun zR zK zhR zhK => ?_; simp only [go_sem, cipherC, fault_true, F0]; (repeat' (first | apply And.intro | intro _)); refine zhK _ _ trivial (zhR _ ?_); refine dr_runs_k 1 13 rfl (by kernel_rfl) rfl rfl fun zR zhR => ?_; simp only [go_sem, cipherC, fault_true, F0]; (repeat' (first | apply And.intro | intro _)); refine zhR _ ?_; refine dr_end rfl (zhE _ ?_))
  | refine seq_k fun zN zM zhN zhM => ?_
  | (refine condF_k ?_ ?_; focus (first | rfl | (simp [go_sem, cipherC, fault_true, F0]; done)))
set_option maxHeartbeats 1600000 in
set_option maxRecDepth 100000 in
theorem refu_ok_o  (key : List UInt8) (hk : key.length = 32) (n : UInt64) (ad b : List UInt8) (ex1 ex2 : Bool) (h : ¬ n = 18446744073709551615) (out : List UInt8) (hop : CtM Try.prog 32 [.w (.agg (bytesC key)), .w (.agg (bytesC (nonceB n))), .w (.one (.pl (.R ex1 1 (byteRows ad)))), .w (.one (.pl (.R ex2 1 (byteRows b))))] [] (byV out 0)) :
 CtM Try.prog 36 [.w (.one (.pl (.b true))), .w (.agg (cipherC true key n)), .w (.one (.pl (.R ex1 1 (byteRows ad)))), .w (.one (.pl (.R ex2 1 (byteRows b))))] [] (Told (cipV true key (n + 1) out 0)) := by
 have h2 : ¬ n + 1 = 0 := fun q => h (last_iff.mp q)
 have hnl := nonceB_length n
 obtain ⟨nb, hnb⟩ : ∃ q, nonceB n = q := ⟨_, rfl⟩
 rw [hnb] at hnl hop
 have hN := nonce_of n
 rw [hnb] at hN
 have F0 := And.intro hk <| And.intro h <| And.intro h2 <| hnl
 refine CtM.k Try.func36 rfl Try.ntmps36 (congrArg Array.toList Try.results36) (by simp) fun w0 ro may fx => ?_
 refine top_k fun zZ zhZ => ?_
 iterate 63 first
  | (refine zhN _ ?_; clear zhN zhM)
  | (refine region_k fun zK zhK => ?_; simp only [go_sem, cipherC, fault_true, F0]; (repeat' (first | apply And.intro | intro _)))
  | refine zhK _ ?_
  | refine skip_k ?_
  | refine ret_k ?_
  | (refine zhZ _ _ ?_; simp only [go_sem, cipherC, fault_true, F0]; (all_goals (exact cip_same)))
  | ((all_goals (refine call_view (fun k => k) (fun _ _ => rfl) ?_ ((cipher_fault true key hk n).plain fun _ _ h => h) ?_; focus (first | rfl | (simp only [go_sem, cipherC, fault_true, F0] <;> rfl)))); (all_goals (rintro v m ⟨hR, hm⟩; subst hR; subst hm)); (all_goals refine And.intro (by first | rfl | simp only [go_sem, cipherC, fault_true, F0]) (And.intro (by first | rfl | simp only [go_sem, cipherC, fault_true, F0]) ?_)); (all_goals simp only [go_sem, cipherC, fault_true, F0]); (all_goals repeat' (first | apply And.intro | intro _)))
  | (refine dr_k (id := 13) mixed fun zE zhE => ?_; refine dr_piece_k (p := 0) 7 [36, 37, 38, 39, 40, 41, 42] [0, 1, 0, 4, 12, 0, 0, 127, 255, 511, 511, 1023, 4095] [] rfl (by kernel_rfl) rfl (by simp only [go_sem]) fun zR zK zhR zhK => ?_; simp only [go_sem, cipherC, fault_true, F0]; (repeat' (first | apply And.intro | intro _)); (all_goals (refine call_draw (fun k => k) (.w (.agg (bytesC nb))) [] (fun _ _ => rfl) ?_ (hN.plain fun _ _ h => h) ?_ ?_; focus (first | rfl | (simp only [go_sem, cipherC, fault_true, F0] <;> rfl)))); (all_goals try (refine And.intro ?_ (And.intro ?_ (And.intro ?_ ?_)) <;> first | rfl | simp only [go_sem])); (all_goals simp only [go_sem, cipherC, fault_true, F0]); (all_goals repeat' (first | apply And.intro | intro _)); refine zhK _ _ trivial (zhR _ ?_); refine dr_runs_k 2 9 rfl (by kernel_rfl) rfl rfl fun zR zhR => ?_; simp only [go_sem, cipherC, fault_true, F0]; (repeat' (first | apply And.intro | intro _)); (all_goals (refine call_hand false [] (fun k => k) (fun _ _ => rfl) ?_ (by decide) ?_ hop ?_; iterate 2 (focus (first | rfl | (simp only [go_sem, cipherC, fault_true, F0] <;> first | done | rfl | simp))))); (all_goals (rintro v m ⟨hR, hm⟩; subst hR; subst hm)); (all_goals (refine And.intro ?_ (And.intro ?_ (And.intro ?_ ?_)); iterate 3 (focus (first | rfl | (simp only [go_sem, cipherC, fault_true, F0]; done) | (simp [go_sem, look, cipherC, fault_true, F0]; done))))); (all_goals (try simp only [go_sem, cipherC, fault_true, F0])); (all_goals (try simp only [go_sem, cipherC, fault_true, F0])); (all_goals repeat' (first | apply And.intro | intro _)); refine zhR _ ?_; refine dr_piece_k (p := 9) 12 [44, 45, 12] [0, 1, 0, 4, 12, 0, 0, 127, 255, 511, 511, 1023, 4095] [] rfl (by kernel_rfl) rfl (by simp only [go_sem]) fun zR zK zhR zhK => ?_; simp only [go_sem, cipherC, fault_true, F0]; (repeat' (first | apply And.intro | intro _)); refine zhK _ _ trivial (zhR _ ?_); refine dr_runs_k 1 13 rfl (by kernel_rfl) rfl rfl fun zR zhR => ?_; simp only [go_sem, cipherC, fault_true, F0]; (repeat' (first | apply And.intro | intro _)); refine zhR _ ?_; refine dr_end rfl (zhE _ ?_))
  | refine seq_k fun zN zM zhN zhM => ?_
  | (refine condF_k ?_ ?_; focus (first | rfl | (simp [go_sem, cipherC, fault_true, F0]; done)))
  | (refine condT_k ?_ ?_; focus (first | rfl | (simp [go_sem, cipherC, fault_true, F0]; done)))
theorem used_ (k : Nat) (hgo : ∀ vals w, (callFunc k vals).run Try.prog w = .ok (.enter k vals) w) (has : Bool) (key : List UInt8) (hk : key.length = 32) (n : UInt64) (ad b : List UInt8) (ex1 ex2 : Bool) (out : List UInt8) (e : Int) (hop : CtM Try.prog k [.w (.agg (bytesC key)), .w (.agg (bytesC (nonceB n))), .w (.one (.pl (.R ex1 1 (byteRows ad)))), .w (.one (.pl (.R ex2 1 (byteRows b))))] [] (byV out e)) : CtM Try.prog 60 [.w (.agg (cipherC has key n)), .w (.one (.fn k [])), .w (.one (.pl (.R ex1 1 (byteRows ad)))), .w (.one (.pl (.R ex2 1 (byteRows b))))] [] (useV (useR has key n b out e)) := by
 rcases fault_cases has key n with h | ⟨rfl, rfl, rfl⟩ | rfl
 · rw [useR, if_pos h]
   exact (used_bad k hgo has key hk n ad b ex1 ex2 h).told
 · rw [useR, if_neg (by rw [fault_no]; decide), if_pos rfl]
   by_cases g : 800 < b.length
   · rw [if_pos g]; exact (used_big k hgo ad b ex1 ex2 g).told
   · rw [if_neg g]; exact (used_copy k hgo ad b ex1 ex2 g).told
 · rw [useR, if_neg (by rw [fault_true]; decide), if_neg (by decide)]
   by_cases g : n = 18446744073709551615
   · rw [if_pos g]; exact (used_over k hgo key hk n ad b ex1 ex2 g).told
   · rw [if_neg g]
     by_cases he : e = 0
     · subst he; rw [if_pos rfl]; exact (used_ok k hgo key hk n ad b ex1 ex2 g out hop).told
     · rw [if_neg he]; exact (used_err k hgo key hk n ad b ex1 ex2 g out e he hop).told
theorem refu_s  (has : Bool) (key : List UInt8) (hk : key.length = 32) (n : UInt64) (ad b : List UInt8) (ex1 ex2 : Bool) (out : List UInt8) (e : Int) (hop : CtM Try.prog 30 [.w (.agg (bytesC key)), .w (.agg (bytesC (nonceB n))), .w (.one (.pl (.R ex1 1 (byteRows ad)))), .w (.one (.pl (.R ex2 1 (byteRows b))))] [] (byV out e)) : CtM Try.prog 36 [.w (.one (.pl (.b false))), .w (.agg (cipherC has key n)), .w (.one (.pl (.R ex1 1 (byteRows ad)))), .w (.one (.pl (.R ex2 1 (byteRows b))))] [] (useV (useR has key n b out e)) := by
 rcases fault_cases has key n with h | ⟨rfl, rfl, rfl⟩ | rfl
 · rw [useR, if_pos h]
   exact (refu_bad false has key hk n ad b ex1 ex2 h).told
 · rw [useR, if_neg (by rw [fault_no]; decide), if_pos rfl]
   by_cases g : 800 < b.length
   · rw [if_pos g]; exact (refu_big false ad b ex1 ex2 g).told
   · rw [if_neg g]; exact (refu_copy false ad b ex1 ex2 g).told
 · rw [useR, if_neg (by rw [fault_true]; decide), if_neg (by decide)]
   by_cases g : n = 18446744073709551615
   · rw [if_pos g]; exact (refu_over false key hk n ad b ex1 ex2 g).told
   · rw [if_neg g]
     by_cases he : e = 0
     · subst he; rw [if_pos rfl]; exact (refu_ok_s  key hk n ad b ex1 ex2 g out hop).told
     · rw [if_neg he]; exact (refu_err_s  key hk n ad b ex1 ex2 g out e he hop).told
theorem refu_o  (has : Bool) (key : List UInt8) (hk : key.length = 32) (n : UInt64) (ad b : List UInt8) (ex1 ex2 : Bool) (out : List UInt8) (e : Int) (hop : CtM Try.prog 32 [.w (.agg (bytesC key)), .w (.agg (bytesC (nonceB n))), .w (.one (.pl (.R ex1 1 (byteRows ad)))), .w (.one (.pl (.R ex2 1 (byteRows b))))] [] (byV out e)) : CtM Try.prog 36 [.w (.one (.pl (.b true))), .w (.agg (cipherC has key n)), .w (.one (.pl (.R ex1 1 (byteRows ad)))), .w (.one (.pl (.R ex2 1 (byteRows b))))] [] (useV (useR has key n b out e)) := by
 rcases fault_cases has key n with h | ⟨rfl, rfl, rfl⟩ | rfl
 · rw [useR, if_pos h]
   exact (refu_bad true has key hk n ad b ex1 ex2 h).told
 · rw [useR, if_neg (by rw [fault_no]; decide), if_pos rfl]
   by_cases g : 800 < b.length
   · rw [if_pos g]; exact (refu_big true ad b ex1 ex2 g).told
   · rw [if_neg g]; exact (refu_copy true ad b ex1 ex2 g).told
 · rw [useR, if_neg (by rw [fault_true]; decide), if_neg (by decide)]
   by_cases g : n = 18446744073709551615
   · rw [if_pos g]; exact (refu_over true key hk n ad b ex1 ex2 g).told
   · rw [if_neg g]
     by_cases he : e = 0
     · subst he; rw [if_pos rfl]; exact (refu_ok_o  key hk n ad b ex1 ex2 g out hop).told
     · rw [if_neg he]; exact (refu_err_o  key hk n ad b ex1 ex2 g out e he hop).told
end Go.Sy

