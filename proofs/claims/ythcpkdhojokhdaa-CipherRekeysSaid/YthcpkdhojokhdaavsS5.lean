/- Walks: a text sealed, and opened. -/
import Derived.Test.YthcpkdhojokhdaavsS4
set_option linter.unusedVariables false
set_option linter.unusedSimpArgs false
namespace Go.Sy
open Go.Proofs
attribute [local irreducible] atCall HT runOps runD onC onE onO onG goV goA goS onSt onGuard
def slE (ad text : List UInt8) : Int := if 200 < ad.length then 1 else if 800 < text.length then 1 else 0
def slV (key nonce ad text : List UInt8) : List UInt8 := strV key 1 nonce text ++ tagS key nonce ad (strV key 1 nonce text)
def slB (key nonce ad text : List UInt8) : List UInt8 := if slE ad text = 0 then slV key nonce ad text else []
theorem strV_length (key : List UInt8) (c : UInt32) (nonce b : List UInt8) : (strV key c nonce b).length = b.length := xorF_length _ _ _
theorem ho1 {n : Nat} (h : n ≤ 1600) : ¬ 64 * (4294967296 - (1 : UInt32).toNat) < n := by rw [show (1 : UInt32).toNat = 1 from rfl]; omega
set_option maxHeartbeats 400000 in
theorem seal_ad (key nonce ad text : List UInt8) (hk : key.length = 32) (hn : nonce.length = 12) (ex1 ex2 : Bool) (h1 : 200 < ad.length) :
 CtM Try.prog 29 [.w (.agg (bytesC key)), .w (.agg (bytesC nonce)), .w (.one (.pl (.R ex1 1 (byteRows ad)))), .w (.one (.pl (.R ex2 1 (byteRows text))))] [] (Told (byV [] 1)) := by
 have g1 : (200 : Int) < ((ad.length : Nat) : Int) := by omega
 have F0 := And.intro hk <| And.intro hn <| g1
 refine CtM.k Try.func29 rfl Try.ntmps29 (congrArg Array.toList Try.results29) (by simp) fun w0 ro may fx => ?_
 refine top_k fun zZ zhZ => ?_
 iterate 11 first
  | (refine sr_k fun zK zhK => ?_; simp only [go_sem, F0]; (repeat' (first | apply And.intro | intro _)))
  | refine zhK _ ?_
  | refine ret_k ?_
  | (refine zhM _ _ ?_; clear zhN zhM)
  | (refine zhZ _ _ ?_; simp only [go_sem, F0]; (all_goals (exact by_nil)))
  | refine seq_k fun zN zM zhN zhM => ?_
  | (refine condT_k ?_ ?_; focus (first | rfl | (simp [go_sem, F0]; done)))
set_option maxHeartbeats 400000 in
theorem seal_text (key nonce ad text : List UInt8) (hk : key.length = 32) (hn : nonce.length = 12) (ex1 ex2 : Bool) (h1 : ad.length ≤ 200) (h2 : 800 < text.length) :
 CtM Try.prog 29 [.w (.agg (bytesC key)), .w (.agg (bytesC nonce)), .w (.one (.pl (.R ex1 1 (byteRows ad)))), .w (.one (.pl (.R ex2 1 (byteRows text))))] [] (Told (byV [] 1)) := by
 have g1 : ¬ (200 : Int) < ((ad.length : Nat) : Int) := by omega
 have g2 : (800 : Int) < ((text.length : Nat) : Int) := by omega
 have F0 := And.intro hk <| And.intro hn <| And.intro g1 <| g2
 refine CtM.k Try.func29 rfl Try.ntmps29 (congrArg Array.toList Try.results29) (by simp) fun w0 ro may fx => ?_
 refine top_k fun zZ zhZ => ?_
 iterate 11 first
  | (refine sr_k fun zK zhK => ?_; simp only [go_sem, F0]; (repeat' (first | apply And.intro | intro _)))
  | refine zhK _ ?_
  | refine ret_k ?_
  | (refine zhM _ _ ?_; clear zhN zhM)
  | (refine zhZ _ _ ?_; simp only [go_sem, F0]; (all_goals (exact by_nil)))
  | refine seq_k fun zN zM zhN zhM => ?_
  | (refine condT_k ?_ ?_; focus (first | rfl | (simp [go_sem, F0]; done)))
set_option maxHeartbeats 400000 in
theorem seald_ad (key nonce ad text : List UInt8) (hk : key.length = 32) (hn : nonce.length = 12) (ex1 ex2 : Bool) (h1 : 200 < ad.length) :
 CtM Try.prog 30 [.w (.agg (bytesC key)), .w (.agg (bytesC nonce)), .w (.one (.pl (.R ex1 1 (byteRows ad)))), .w (.one (.pl (.R ex2 1 (byteRows text))))] [] (Told (byV [] 1)) := by
 have g1 : (200 : Int) < ((ad.length : Nat) : Int) := by omega
 have F0 := And.intro hk <| And.intro hn <| g1
 refine CtM.k Try.func30 rfl Try.ntmps30 (congrArg Array.toList Try.results30) (by simp) fun w0 ro may fx => ?_
 refine top_k fun zZ zhZ => ?_
 iterate 11 first
  | (refine sr_k fun zK zhK => ?_; simp only [go_sem, F0]; (repeat' (first | apply And.intro | intro _)))
  | refine zhK _ ?_
  | refine ret_k ?_
  | (refine zhM _ _ ?_; clear zhN zhM)
  | (refine zhZ _ _ ?_; simp only [go_sem, F0]; (all_goals (exact by_nil)))
  | refine seq_k fun zN zM zhN zhM => ?_
  | (refine condT_k ?_ ?_; focus (first | rfl | (simp [go_sem, F0]; done)))
set_option maxHeartbeats 400000 in
theorem seald_text (key nonce ad text : List UInt8) (hk : key.length = 32) (hn : nonce.length = 12) (ex1 ex2 : Bool) (h1 : ad.length ≤ 200) (h2 : 800 < text.length) :
 CtM Try.prog 30 [.w (.agg (bytesC key)), .w (.agg (bytesC nonce)), .w (.one (.pl (.R ex1 1 (byteRows ad)))), .w (.one (.pl (.R ex2 1 (byteRows text))))] [] (Told (byV [] 1)) := by
 have g1 : ¬ (200 : Int) < ((ad.length : Nat) : Int) := by omega
 have g2 : (800 : Int) < ((text.length : Nat) : Int) := by omega
 have F0 := And.intro hk <| And.intro hn <| And.intro g1 <| g2
 refine CtM.k Try.func30 rfl Try.ntmps30 (congrArg Array.toList Try.results30) (by simp) fun w0 ro may fx => ?_
 refine top_k fun zZ zhZ => ?_
 iterate 11 first
  | (refine sr_k fun zK zhK => ?_; simp only [go_sem, F0]; (repeat' (first | apply And.intro | intro _)))
  | refine zhK _ ?_
  | refine ret_k ?_
  | (refine zhM _ _ ?_; clear zhN zhM)
  | (refine zhZ _ _ ?_; simp only [go_sem, F0]; (all_goals (exact by_nil)))
  | refine seq_k fun zN zM zhN zhM => ?_
  | (refine condT_k ?_ ?_; focus (first | rfl | (simp [go_sem, F0]; done)))
set_option maxHeartbeats 1600000 in
set_option maxRecDepth 100000 in
theorem seal_own (key nonce ad text : List UInt8) (hk : key.length = 32) (hn : nonce.length = 12) (ex1 ex2 : Bool) (h1 : ad.length ≤ 200) (h2 : text.length ≤ 800) :
 CtM Try.prog 29 [.w (.agg (bytesC key)), .w (.agg (bytesC nonce)), .w (.one (.pl (.R ex1 1 (byteRows ad)))), .w (.one (.pl (.R ex2 1 (byteRows text))))] [] (Told (byO (slV key nonce ad text) 0)) := by
 have g1 : ¬ (200 : Int) < ((ad.length : Nat) : Int) := by omega
 have g2 : ¬ (800 : Int) < ((text.length : Nat) : Int) := by omega
 have ht := tagS_length key nonce ad (strV key 1 nonce text)
 have hcl := strV_length key 1 nonce text
 have hT := tag_ key nonce ad (strV key 1 nonce text) hk hn h1 (by rw [strV_length]; exact h2) ex1 false
 have hS := (strm_own key hk 1 nonce hn text ex2 (by omega) (ho1 (by omega))).told
 have hfin : slV key nonce ad text = strV key 1 nonce text ++ tagS key nonce ad (strV key 1 nonce text) := rfl
 obtain ⟨c, hc⟩ : ∃ q, strV key 1 nonce text = q := ⟨_, rfl⟩
 rw [hc] at ht hcl hT hS hfin
 obtain ⟨tg, htg⟩ : ∃ q, tagS key nonce ad c = q := ⟨_, rfl⟩
 rw [htg] at ht hT hfin
 have hch : chunks 1 text.length (c.map PL.u8) = byteRows c := chunks_bytes' hcl
 have hq : text.length + 16 ≤ 140737488355328 := by omega
 have hq2 : text.length + 16 ≤ 9223372036854775807 := by omega
 have htk : List.take 16 tg = tg := List.take_of_length_le (by omega)
 have F0 := And.intro hk <| And.intro hn <| And.intro g1 <| And.intro g2 <| And.intro hcl <| And.intro ht <| And.intro hch <| And.intro hq <| And.intro hq2 <| htk
 refine CtM.k Try.func29 rfl Try.ntmps29 (congrArg Array.toList Try.results29) (by simp) fun w0 ro may fx => ?_
 refine top_k fun zZ zhZ => ?_
 iterate 24 first
  | (refine sr_k fun zK zhK => ?_; simp only [go_sem, Nat.sub_zero, F0]; (repeat' (first | apply And.intro | intro _)))
  | refine zhK _ ?_
  | refine skip_k ?_
  | (refine zhN _ ?_; clear zhN zhM)
  | refine ret_k ?_
  | (refine zhZ _ _ ?_; simp only [go_sem, Nat.sub_zero, F0]; (all_goals (rw [hfin]; exact byO_told (by simp [ht, hcl]) (by simp [look]))))
  | ((all_goals (refine call_hand false [] (fun _ => 25) (fun _ _ => rfl) ?_ (by decide) ?_ hS.hands ?_; iterate 2 (focus (first | rfl | (simp only [go_sem, Nat.sub_zero, F0] <;> first | done | rfl | simp))))); (all_goals (rintro v m ⟨hR, hm⟩; subst hR; subst hm)); (all_goals (refine And.intro ?_ (And.intro ?_ (And.intro ?_ ?_)); iterate 3 (focus (first | rfl | (simp only [go_sem, Nat.sub_zero, F0]; done) | (simp [go_sem, look, Nat.sub_zero, F0]; done))))); (all_goals (try simp only [go_sem, Nat.sub_zero, F0])); (all_goals (try simp only [go_sem, Nat.sub_zero, F0])); (all_goals repeat' (first | apply And.intro | intro _)))
  | ((all_goals (refine call_hand true [] (fun k => k) (fun _ _ => rfl) ?_ (by decide) ?_ hT ?_; iterate 2 (focus (first | rfl | (simp only [go_sem, Nat.sub_zero, F0] <;> first | done | rfl | simp))))); (all_goals (rintro v m ⟨hR, hm⟩; subst hR; subst hm)); (all_goals (refine And.intro ?_ (And.intro ?_ (And.intro ?_ ?_)); iterate 3 (focus (first | rfl | (simp only [go_sem, Nat.sub_zero, F0]; done) | (simp [go_sem, look, Nat.sub_zero, F0]; done))))); (all_goals (try simp only [go_sem, Nat.sub_zero, F0])); (all_goals (try simp only [go_sem, Nat.sub_zero, F0])); (all_goals repeat' (first | apply And.intro | intro _)))
  | refine seq_k fun zN zM zhN zhM => ?_
  | (refine condF_k ?_ ?_; focus (first | rfl | (simp [go_sem, Nat.sub_zero, F0]; done)))
set_option maxHeartbeats 1600000 in
set_option maxRecDepth 100000 in
theorem seald_own (key nonce ad text : List UInt8) (hk : key.length = 32) (hn : nonce.length = 12) (ex1 ex2 : Bool) (h1 : ad.length ≤ 200) (h2 : text.length ≤ 800) :
 CtM Try.prog 30 [.w (.agg (bytesC key)), .w (.agg (bytesC nonce)), .w (.one (.pl (.R ex1 1 (byteRows ad)))), .w (.one (.pl (.R ex2 1 (byteRows text))))] [] (Told (byO (slV key nonce ad text) 0)) := by
 have g1 : ¬ (200 : Int) < ((ad.length : Nat) : Int) := by omega
 have g2 : ¬ (800 : Int) < ((text.length : Nat) : Int) := by omega
 have ht := tagS_length key nonce ad (strV key 1 nonce text)
 have hcl := strV_length key 1 nonce text
 have hT := tag_of key nonce ad (strV key 1 nonce text) hk hn h1 (by rw [strV_length]; exact h2)
 have hS := (strd_ok key hk 1 nonce hn text ex2 (by omega) (ho1 (by omega))).told
 have hfin : slV key nonce ad text = strV key 1 nonce text ++ tagS key nonce ad (strV key 1 nonce text) := rfl
 obtain ⟨c, hc⟩ : ∃ q, strV key 1 nonce text = q := ⟨_, rfl⟩
 rw [hc] at ht hcl hT hS hfin
 obtain ⟨tg, htg⟩ : ∃ q, tagS key nonce ad c = q := ⟨_, rfl⟩
 rw [htg] at ht hT hfin
 have hch : chunks 1 text.length (c.map PL.u8) = byteRows c := chunks_bytes' hcl
 have hq : text.length + 16 ≤ 140737488355328 := by omega
 have hq2 : text.length + 16 ≤ 9223372036854775807 := by omega
 have htk : List.take 16 tg = tg := List.take_of_length_le (by omega)
 have F0 := And.intro hk <| And.intro hn <| And.intro g1 <| And.intro g2 <| And.intro hcl <| And.intro ht <| And.intro hch <| And.intro hq <| And.intro hq2 <| htk
 refine CtM.k Try.func30 rfl Try.ntmps30 (congrArg Array.toList Try.results30) (by simp) fun w0 ro may fx => ?_
 refine top_k fun zZ zhZ => ?_
 refine sr_k fun zK zhK => ?_
 simp only [go_sem, Nat.sub_zero, F0]
 repeat' (first | apply And.intro | intro _)
 refine zhK _ ?_
 refine seq_k fun zN zM zhN zhM => ?_
 refine sr_k fun zK zhK => ?_
 simp only [go_sem, Nat.sub_zero, F0]
 repeat' (first | apply And.intro | intro _)
 refine zhK _ ?_
 (refine condF_k ?_ ?_; focus (first | rfl | (simp [go_sem, Nat.sub_zero, F0]; done)))
 refine skip_k ?_
 refine zhN _ ?_; clear zhN zhM
 refine sr_k fun zK zhK => ?_
 simp only [go_sem, Nat.sub_zero, F0]
 repeat' (first | apply And.intro | intro _)
 all_goals (refine call_hand false [] (fun k => k) (fun _ _ => rfl) ?_ (by decide) ?_ hS.hands ?_; iterate 2 (focus (first | rfl | (simp only [go_sem, Nat.sub_zero, F0] <;> first | done | rfl | simp))))
 all_goals (rintro v m ⟨hR, hm⟩; subst hR; subst hm)
 all_goals (refine And.intro ?_ (And.intro ?_ (And.intro ?_ ?_)); iterate 3 (focus (first | rfl | (simp only [go_sem, Nat.sub_zero, F0]; done) | (simp [go_sem, look, Nat.sub_zero, F0]; done))))
 all_goals (try simp only [go_sem, Nat.sub_zero, F0])
 all_goals (try simp only [go_sem, Nat.sub_zero, F0])
 all_goals repeat' (first | apply And.intro | intro _)
 refine zhK _ ?_
 refine seq_k fun zN zM zhN zhM => ?_
 refine dr_k (id := 4) mixed fun zE zhE => ?_
 refine dr_piece_k (p := 0) 9 [27, 28, 29, 30, 31, 32, 33, 34, 35] [0, 1, 0, 0, 0, 16, 0, 64, 252, 511, 1023, 2047, 4095] [] rfl (by kernel_rfl) rfl (by simp only [go_sem]) fun zR zK zhR zhK => ?_
 simp only [go_sem, Nat.sub_zero, F0]
 repeat' (first | apply And.intro | intro _)
 all_goals (refine call_draw (fun k => k) (.w (.one (.pl (.str tg)))) [] (fun _ _ => rfl) ?_ (hT.plain fun _ _ h => h) ?_ ?_; focus (first | rfl | (simp only [go_sem, Nat.sub_zero, F0] <;> rfl)))
 all_goals try (refine And.intro ?_ (And.intro ?_ (And.intro ?_ ?_)) <;> first | rfl | simp only [go_sem])
 all_goals simp only [go_sem, Nat.sub_zero, F0]
 all_goals repeat' (first | apply And.intro | intro _)
 refine zhK _ _ trivial (zhR _ ?_)
 refine dr_runs_k 4 13 rfl (by kernel_rfl) rfl rfl fun zR zhR => ?_
 simp only [go_sem, Nat.sub_zero, F0]
 repeat' (first | apply And.intro | intro _)
 refine zhR _ ?_
 refine dr_end rfl (zhE _ ?_)
 refine zhN _ ?_; clear zhN zhM
 refine ret_k ?_
 refine zhZ _ _ ?_
 simp only [go_sem, Nat.sub_zero, F0]
 all_goals (rw [hfin]; exact byO_told (by simp [ht, hcl]) (by simp [look]))
theorem seal_ok (key nonce ad text : List UInt8) (hk : key.length = 32) (hn : nonce.length = 12) (ex1 ex2 : Bool) (h1 : ad.length ≤ 200) (h2 : text.length ≤ 800) : CtM Try.prog 29 [.w (.agg (bytesC key)), .w (.agg (bytesC nonce)), .w (.one (.pl (.R ex1 1 (byteRows ad)))), .w (.one (.pl (.R ex2 1 (byteRows text))))] [] (Told (byV (slV key nonce ad text) 0)) :=
 (seal_own key nonce ad text hk hn ex1 ex2 h1 h2).told.mono fun v m ⟨hv, hm⟩ => by subst hv; subst hm; exact by_obj (b := true) rfl rfl
theorem seal_ (key nonce ad text : List UInt8) (hk : key.length = 32) (hn : nonce.length = 12) (ex1 ex2 : Bool) : CtM Try.prog 29 [.w (.agg (bytesC key)), .w (.agg (bytesC nonce)), .w (.one (.pl (.R ex1 1 (byteRows ad)))), .w (.one (.pl (.R ex2 1 (byteRows text))))] [] (byV (slB key nonce ad text) (slE ad text)) := by
 by_cases h1 : 200 < ad.length
 · have e : slE ad text = 1 := if_pos h1
   rw [slB, e, if_neg (by decide)]
   exact (seal_ad key nonce ad text hk hn ex1 ex2 h1).told
 · by_cases h2 : 800 < text.length
   · have e : slE ad text = 1 := by unfold slE; rw [if_neg h1, if_pos h2]
     rw [slB, e, if_neg (by decide)]
     exact (seal_text key nonce ad text hk hn ex1 ex2 (by omega) h2).told
   · have e : slE ad text = 0 := by unfold slE; rw [if_neg h1, if_neg h2]
     rw [slB, e, if_pos rfl]
     exact (seal_ok key nonce ad text hk hn ex1 ex2 (by omega) (by omega)).told
theorem seald_ok (key nonce ad text : List UInt8) (hk : key.length = 32) (hn : nonce.length = 12) (ex1 ex2 : Bool) (h1 : ad.length ≤ 200) (h2 : text.length ≤ 800) : CtM Try.prog 30 [.w (.agg (bytesC key)), .w (.agg (bytesC nonce)), .w (.one (.pl (.R ex1 1 (byteRows ad)))), .w (.one (.pl (.R ex2 1 (byteRows text))))] [] (Told (byV (slV key nonce ad text) 0)) :=
 (seald_own key nonce ad text hk hn ex1 ex2 h1 h2).told.mono fun v m ⟨hv, hm⟩ => by subst hv; subst hm; exact by_obj (b := true) rfl rfl
theorem seald_ (key nonce ad text : List UInt8) (hk : key.length = 32) (hn : nonce.length = 12) (ex1 ex2 : Bool) : CtM Try.prog 30 [.w (.agg (bytesC key)), .w (.agg (bytesC nonce)), .w (.one (.pl (.R ex1 1 (byteRows ad)))), .w (.one (.pl (.R ex2 1 (byteRows text))))] [] (byV (slB key nonce ad text) (slE ad text)) := by
 by_cases h1 : 200 < ad.length
 · have e : slE ad text = 1 := if_pos h1
   rw [slB, e, if_neg (by decide)]
   exact (seald_ad key nonce ad text hk hn ex1 ex2 h1).told
 · by_cases h2 : 800 < text.length
   · have e : slE ad text = 1 := by unfold slE; rw [if_neg h1, if_pos h2]
     rw [slB, e, if_neg (by decide)]
     exact (seald_text key nonce ad text hk hn ex1 ex2 (by omega) h2).told
   · have e : slE ad text = 0 := by unfold slE; rw [if_neg h1, if_neg h2]
     rw [slB, e, if_pos rfl]
     exact (seald_ok key nonce ad text hk hn ex1 ex2 (by omega) (by omega)).told
end Go.Sy

