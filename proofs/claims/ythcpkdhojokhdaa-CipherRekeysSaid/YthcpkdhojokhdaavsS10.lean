/- Walks: ciphers that seal, open, are rekeyed; their laws. -/
import Derived.Test.YthcpkdhojokhdaavsS7
import Derived.Test.YthcpkdhojokhdaavsS9
set_option linter.unusedVariables false
set_option linter.unusedSimpArgs false
namespace Go.Sy
open Go.Proofs
attribute [local irreducible] atCall HT runOps runD onC onE onO onG goV goA goS onSt onGuard
theorem useR_len {has : Bool} {key : List UInt8} {n : UInt64} {b out : List UInt8} {e : Int} (hk : key.length = 32) : (useR has key n b out e).1.2.1.length = 32 := by
 unfold useR
 repeat' split
 all_goals first | exact z32_length | exact hk
theorem cipherC_length {has : Bool} {key : List UInt8} {n : UInt64} (hk : key.length = 32) : (cipherC has key n).length = 34 := by simp [cipherC, bytesC, hk]
theorem kinds_cip {has : Bool} {key : List UInt8} {n : UInt64} (hk : key.length = 32) : (cipherC has key n).map kindL = ((Kd.b :: List.replicate 32 (Kd.int .u8) ++ (Kd.int .u64 :: []) : List Kd)).map some := by
 have e := kinds_bytes hk
 simp only [cipherC, List.map_cons, List.map_append, e, List.map_replicate, List.map_nil, List.cons_append]; rfl
theorem same_cip {has : Bool} {key : List UInt8} {n : UInt64} (hk : key.length = 32) : aggEq Try.prog 56 (cipherC has key n) (cipherC has key n) = some true := by
 rw [ae56 (kinds_cip hk) (kinds_cip hk), cipherC, eqC_cons, eqC_seg rfl, eqC_cons]; simp [eqL, eqC]
def rkKey (key : List UInt8) : List UInt8 := (slV key (nonceB 18446744073709551615) [] z32).take 32
theorem slV_len {key nonce ad text : List UInt8} : (slV key nonce ad text).length = text.length + 16 := by rw [slV, List.length_append, strV_length, tagS_length]
theorem rkKey_len {key : List UInt8} : (rkKey key).length = 32 := by rw [rkKey, List.length_take, slV_len, z32_length]; rfl
def rkR (has : Bool) (key : List UInt8) (n : UInt64) : (Bool × List UInt8 × UInt64) × Int := if has = true then ((true, rkKey key, n), 0) else ((false, z32, 0), 9)
theorem rkR_len {has : Bool} {key : List UInt8} {n : UInt64} : (rkR has key n).1.2.1.length = 32 := by
 unfold rkR
 split
 · exact rkKey_len
 · exact z32_length
def rkV (r : (Bool × List UInt8 × UInt64) × Int) (v : V) (m : List (Nat × Ob)) : Prop := v = .tup [.agg (cipherC r.1.1 r.1.2.1 r.1.2.2), .one (.pl (.i r.2))] ∧ m = []
theorem rk_told {has : Bool} {key : List UInt8} {n : UInt64} {e : Int} {m : List (Nat × Ob)} : Told (rkV ((has, key, n), e)) (.tup [.agg (cipherC has key n), .one (.pl (.i e))]) m := told_plain (by simp [plainV, plainW, cipherC, bytesC]) ⟨rfl, rfl⟩
theorem fault_false {key : List UInt8} {n : UInt64} (h : ¬ cipherFault false key n = 9) : key = z32 ∧ n = 0 := by
 rcases fault_cases false key n with g | ⟨_, g⟩ | g
 · exact absurd g h
 · exact g
 · cases g
set_option maxHeartbeats 800000 in
theorem cseal_ (has : Bool) (key : List UInt8) (hk : key.length = 32) (n : UInt64) (ad b : List UInt8) (ex1 ex2 : Bool) :
 CtM Try.prog 35 [.w (.agg (cipherC has key n)), .w (.one (.pl (.R ex1 1 (byteRows ad)))), .w (.one (.pl (.R ex2 1 (byteRows b))))] [] (Told (useV (useR has key n b (slB key (nonceB n) ad b) (slE ad b)))) := by
 have hU := used_ 29 (fun _ _ => rfl) has key hk n ad b ex1 ex2 _ _ (seal_ key (nonceB n) ad b hk (nonceB_length n) ex1 ex2)
 have hl : (useR has key n b (slB key (nonceB n) ad b) (slE ad b)).1.2.1.length = 32 := useR_len hk
 obtain ⟨⟨⟨h2, k2, n2⟩, o2, e2⟩, hr⟩ : ∃ r, useR has key n b (slB key (nonceB n) ad b) (slE ad b) = r := ⟨_, rfl⟩
 rw [hr] at hU hl
 rw [hr]
 simp only [useV] at hU hl
 simp only [useV]
 have hc1 := cipherC_length (has := has) (n := n) hk
 have hc2 := cipherC_length (has := h2) (n := n2) hl
 refine CtM.k Try.func35 rfl Try.ntmps35 (congrArg Array.toList Try.results35) (by simp) fun w0 ro may fx => ?_
 refine top_k fun zZ zhZ => ?_
 refine sr_k fun zK zhK => ?_
 simp only [go_sem, hk, hl, cipherC]
 repeat' (first | apply And.intro | intro _)
 refine zhK _ ?_
 refine sr_k fun zK zhK => ?_
 simp only [go_sem, hk, hl, cipherC]
 repeat' (first | apply And.intro | intro _)
 all_goals (refine call_hand false [] (fun k => k) (fun _ _ => rfl) ?_ (by decide) ?_ hU ?_; iterate 2 (focus (first | rfl | (simp only [go_sem, hk, hl, cipherC] <;> first | done | rfl | simp))))
 all_goals (rintro v m ⟨hR, hm⟩; subst hR; subst hm)
 all_goals (refine And.intro ?_ (And.intro ?_ (And.intro ?_ ?_)); iterate 3 (focus (first | rfl | (simp only [go_sem, hk, hl, cipherC]; done) | (simp [go_sem, look, hk, hl, cipherC]; done))))
 all_goals (try simp only [go_sem, hk, hl, cipherC])
 all_goals (try simp only [go_sem, hk, hl, cipherC])
 all_goals repeat' (first | apply And.intro | intro _)
 refine zhK _ ?_
 refine ret_k ?_
 refine zhZ _ _ ?_
 simp only [go_sem, hk, hl, cipherC]
 all_goals (exact cip_same)
set_option maxHeartbeats 800000 in
theorem law_cseal (has : Bool) (key : List UInt8) (hk : key.length = 32) (n : UInt64) (ad b : List UInt8) (ex1 ex2 : Bool) :
 Ct Try.prog 12 [.w (.agg (cipherC has key n)), .w (.one (.pl (.R ex1 1 (byteRows ad)))), .w (.one (.pl (.R ex2 1 (byteRows b))))] (fun v m => v = .w (.one (.pl (.b true)))) := by
 have hW := refu_s has key hk n ad b ex1 ex2 _ _ (seald_ key (nonceB n) ad b hk (nonceB_length n) ex1 ex2)
 have hU := (cseal_ has key hk n ad b ex1 ex2).told
 have hl : (useR has key n b (slB key (nonceB n) ad b) (slE ad b)).1.2.1.length = 32 := useR_len hk
 obtain ⟨⟨⟨h2, k2, n2⟩, o2, e2⟩, hr⟩ : ∃ r, useR has key n b (slB key (nonceB n) ad b) (slE ad b) = r := ⟨_, rfl⟩
 rw [hr] at hU hW hl
 simp only [useV] at hU hW hl
 have hc1 := cipherC_length (has := has) (n := n) hk
 have hc2 := cipherC_length (has := h2) (n := n2) hl
 have hse := same_cip (has := h2) (n := n2) hl
 simp only [cipherC] at hse
 have F0 := And.intro hk <| And.intro hl <| hse
 refine Ct.k Try.func12 rfl Try.ntmps12 (congrArg Array.toList Try.results12) (by simp) fun w0 ro => ?_
 refine top_k fun zZ zhZ => ?_
 refine sr_k fun zK zhK => ?_
 simp only [go_sem, cipherC, F0]
 repeat' (first | apply And.intro | intro _)
 refine zhK _ ?_
 refine sr_k fun zK zhK => ?_
 simp only [go_sem, cipherC, F0]
 repeat' (first | apply And.intro | intro _)
 all_goals (refine call_hand false [] (fun k => k) (fun _ _ => rfl) ?_ (by decide) ?_ hU ?_; iterate 2 (focus (first | rfl | (simp only [go_sem, cipherC, F0] <;> first | done | rfl | simp))))
 all_goals (rintro v m ⟨hR, hm⟩; subst hR; subst hm)
 all_goals (refine And.intro ?_ (And.intro ?_ (And.intro ?_ ?_)); iterate 3 (focus (first | rfl | (simp only [go_sem, cipherC, F0]; done) | (simp [go_sem, look, cipherC, F0]; done))))
 all_goals (try simp only [go_sem, cipherC, F0])
 all_goals (try simp only [go_sem, cipherC, F0])
 all_goals repeat' (first | apply And.intro | intro _)
 refine zhK _ ?_
 refine sr_k fun zK zhK => ?_
 simp only [go_sem, cipherC, F0]
 repeat' (first | apply And.intro | intro _)
 all_goals (refine call_hand false [] (fun k => k) (fun _ _ => rfl) ?_ (by decide) ?_ hW ?_; iterate 2 (focus (first | rfl | (simp only [go_sem, cipherC, F0] <;> first | done | rfl | simp))))
 all_goals (rintro v m ⟨hR, hm⟩; subst hR; subst hm)
 all_goals (refine And.intro ?_ (And.intro ?_ (And.intro ?_ ?_)); iterate 3 (focus (first | rfl | (simp only [go_sem, cipherC, F0]; done) | (simp [go_sem, look, cipherC, F0]; done))))
 all_goals (try simp only [go_sem, cipherC, F0])
 all_goals (try simp only [go_sem, cipherC, F0])
 all_goals repeat' (first | apply And.intro | intro _)
 refine zhK _ ?_
 refine sr_k fun zK zhK => ?_
 simp only [go_sem, cipherC, F0]
 repeat' (first | apply And.intro | intro _)
 all_goals refine call_view (fun k => k) (fun _ _ => rfl) (by first | rfl | (simp only [go_sem, cipherC, F0] <;> rfl)) ((same_bytesE false false _ _).plain fun _ _ h => h) ?_
 all_goals (rintro v m ⟨hR, hm⟩; subst hR; subst hm)
 all_goals refine And.intro (by first | rfl | simp only [go_sem, cipherC, F0]) (And.intro (by first | rfl | simp only [go_sem, cipherC, F0]) ?_)
 all_goals simp only [go_sem, cipherC, F0]
 all_goals repeat' (first | apply And.intro | intro _)
 refine zhK _ ?_
 refine ret_k ?_
 refine zhZ _ _ ?_
 simp only [go_sem, cipherC, F0]
 all_goals (first | rfl | simp)
set_option maxHeartbeats 800000 in
theorem copen_ (has : Bool) (key : List UInt8) (hk : key.length = 32) (n : UInt64) (ad b : List UInt8) (ex1 ex2 : Bool) (hcap : b.length ≤ 9223372036854775807) :
 CtM Try.prog 37 [.w (.agg (cipherC has key n)), .w (.one (.pl (.R ex1 1 (byteRows ad)))), .w (.one (.pl (.R ex2 1 (byteRows b))))] [] (Told (useV (useR has key n b (openB key (nonceB n) ad b) (openE key (nonceB n) ad b)))) := by
 have hU := used_ 31 (fun _ _ => rfl) has key hk n ad b ex1 ex2 _ _ (open_ key (nonceB n) ad b hk (nonceB_length n) ex1 ex2 hcap)
 have hl : (useR has key n b (openB key (nonceB n) ad b) (openE key (nonceB n) ad b)).1.2.1.length = 32 := useR_len hk
 obtain ⟨⟨⟨h2, k2, n2⟩, o2, e2⟩, hr⟩ : ∃ r, useR has key n b (openB key (nonceB n) ad b) (openE key (nonceB n) ad b) = r := ⟨_, rfl⟩
 rw [hr] at hU hl
 rw [hr]
 simp only [useV] at hU hl
 simp only [useV]
 have hc1 := cipherC_length (has := has) (n := n) hk
 have hc2 := cipherC_length (has := h2) (n := n2) hl
 refine CtM.k Try.func37 rfl Try.ntmps37 (congrArg Array.toList Try.results37) (by simp) fun w0 ro may fx => ?_
 refine top_k fun zZ zhZ => ?_
 refine sr_k fun zK zhK => ?_
 simp only [go_sem, hk, hl, cipherC]
 repeat' (first | apply And.intro | intro _)
 refine zhK _ ?_
 refine sr_k fun zK zhK => ?_
 simp only [go_sem, hk, hl, cipherC]
 repeat' (first | apply And.intro | intro _)
 all_goals (refine call_hand false [] (fun k => k) (fun _ _ => rfl) ?_ (by decide) ?_ hU ?_; iterate 2 (focus (first | rfl | (simp only [go_sem, hk, hl, cipherC] <;> first | done | rfl | simp))))
 all_goals (rintro v m ⟨hR, hm⟩; subst hR; subst hm)
 all_goals (refine And.intro ?_ (And.intro ?_ (And.intro ?_ ?_)); iterate 3 (focus (first | rfl | (simp only [go_sem, hk, hl, cipherC]; done) | (simp [go_sem, look, hk, hl, cipherC]; done))))
 all_goals (try simp only [go_sem, hk, hl, cipherC])
 all_goals (try simp only [go_sem, hk, hl, cipherC])
 all_goals repeat' (first | apply And.intro | intro _)
 refine zhK _ ?_
 refine ret_k ?_
 refine zhZ _ _ ?_
 simp only [go_sem, hk, hl, cipherC]
 all_goals (exact cip_same)
set_option maxHeartbeats 800000 in
theorem law_copen (has : Bool) (key : List UInt8) (hk : key.length = 32) (n : UInt64) (ad b : List UInt8) (ex1 ex2 : Bool) (hcap : b.length ≤ 9223372036854775807) :
 Ct Try.prog 13 [.w (.agg (cipherC has key n)), .w (.one (.pl (.R ex1 1 (byteRows ad)))), .w (.one (.pl (.R ex2 1 (byteRows b))))] (fun v m => v = .w (.one (.pl (.b true)))) := by
 have hW := refu_o has key hk n ad b ex1 ex2 _ _ (unsd_ key (nonceB n) ad b hk (nonceB_length n) ex1 ex2 hcap)
 have hU := (copen_ has key hk n ad b ex1 ex2 hcap).told
 have hl : (useR has key n b (openB key (nonceB n) ad b) (openE key (nonceB n) ad b)).1.2.1.length = 32 := useR_len hk
 obtain ⟨⟨⟨h2, k2, n2⟩, o2, e2⟩, hr⟩ : ∃ r, useR has key n b (openB key (nonceB n) ad b) (openE key (nonceB n) ad b) = r := ⟨_, rfl⟩
 rw [hr] at hU hW hl
 simp only [useV] at hU hW hl
 have hc1 := cipherC_length (has := has) (n := n) hk
 have hc2 := cipherC_length (has := h2) (n := n2) hl
 have hse := same_cip (has := h2) (n := n2) hl
 simp only [cipherC] at hse
 have F0 := And.intro hk <| And.intro hl <| hse
 refine Ct.k Try.func13 rfl Try.ntmps13 (congrArg Array.toList Try.results13) (by simp) fun w0 ro => ?_
 refine top_k fun zZ zhZ => ?_
 refine sr_k fun zK zhK => ?_
 simp only [go_sem, cipherC, F0]
 repeat' (first | apply And.intro | intro _)
 refine zhK _ ?_
 refine sr_k fun zK zhK => ?_
 simp only [go_sem, cipherC, F0]
 repeat' (first | apply And.intro | intro _)
 all_goals (refine call_hand false [] (fun k => k) (fun _ _ => rfl) ?_ (by decide) ?_ hU ?_; iterate 2 (focus (first | rfl | (simp only [go_sem, cipherC, F0] <;> first | done | rfl | simp))))
 all_goals (rintro v m ⟨hR, hm⟩; subst hR; subst hm)
 all_goals (refine And.intro ?_ (And.intro ?_ (And.intro ?_ ?_)); iterate 3 (focus (first | rfl | (simp only [go_sem, cipherC, F0]; done) | (simp [go_sem, look, cipherC, F0]; done))))
 all_goals (try simp only [go_sem, cipherC, F0])
 all_goals (try simp only [go_sem, cipherC, F0])
 all_goals repeat' (first | apply And.intro | intro _)
 refine zhK _ ?_
 refine sr_k fun zK zhK => ?_
 simp only [go_sem, cipherC, F0]
 repeat' (first | apply And.intro | intro _)
 all_goals (refine call_hand false [] (fun k => k) (fun _ _ => rfl) ?_ (by decide) ?_ hW ?_; iterate 2 (focus (first | rfl | (simp only [go_sem, cipherC, F0] <;> first | done | rfl | simp))))
 all_goals (rintro v m ⟨hR, hm⟩; subst hR; subst hm)
 all_goals (refine And.intro ?_ (And.intro ?_ (And.intro ?_ ?_)); iterate 3 (focus (first | rfl | (simp only [go_sem, cipherC, F0]; done) | (simp [go_sem, look, cipherC, F0]; done))))
 all_goals (try simp only [go_sem, cipherC, F0])
 all_goals (try simp only [go_sem, cipherC, F0])
 all_goals repeat' (first | apply And.intro | intro _)
 refine zhK _ ?_
 refine sr_k fun zK zhK => ?_
 simp only [go_sem, cipherC, F0]
 repeat' (first | apply And.intro | intro _)
 all_goals refine call_view (fun k => k) (fun _ _ => rfl) (by first | rfl | (simp only [go_sem, cipherC, F0] <;> rfl)) ((same_bytesE false false _ _).plain fun _ _ h => h) ?_
 all_goals (rintro v m ⟨hR, hm⟩; subst hR; subst hm)
 all_goals refine And.intro (by first | rfl | simp only [go_sem, cipherC, F0]) (And.intro (by first | rfl | simp only [go_sem, cipherC, F0]) ?_)
 all_goals simp only [go_sem, cipherC, F0]
 all_goals repeat' (first | apply And.intro | intro _)
 refine zhK _ ?_
 refine ret_k ?_
 refine zhZ _ _ ?_
 simp only [go_sem, cipherC, F0]
 all_goals (first | rfl | simp)
set_option maxHeartbeats 400000 in
theorem rkey_bad (has : Bool) (key : List UInt8) (hk : key.length = 32) (n : UInt64) (h : cipherFault has key n = 9) :
 CtM Try.prog 33 [.w (.agg (cipherC has key n))] [] (Told (rkV ((false, z32, 0), 9))) := by
 refine CtM.k Try.func33 rfl Try.ntmps33 (congrArg Array.toList Try.results33) (by simp) fun w0 ro may fx => ?_
 refine top_k fun zZ zhZ => ?_
 iterate 14 first
  | (refine sr_k fun zK zhK => ?_; simp only [go_sem, hk, cipherC, h]; (repeat' (first | apply And.intro | intro _)))
  | refine zhK _ ?_
  | refine ret_k ?_
  | (refine zhM _ _ ?_; clear zhN zhM)
  | (refine zhZ _ _ ?_; simp only [go_sem, hk, cipherC, h]; (all_goals (exact rk_told)))
  | ((all_goals (refine call_view (fun k => k) (fun _ _ => rfl) ?_ ((cipher_check has key hk n).plain fun _ _ h => h) ?_; focus (first | rfl | (simp only [go_sem, hk, cipherC, h] <;> rfl)))); (all_goals (rintro v m ⟨hR, hm⟩; subst hR; subst hm)); (all_goals refine And.intro (by first | rfl | simp only [go_sem, hk, cipherC, h]) (And.intro (by first | rfl | simp only [go_sem, hk, cipherC, h]) ?_)); (all_goals simp only [go_sem, hk, cipherC, h]); (all_goals repeat' (first | apply And.intro | intro _)))
  | refine seq_k fun zN zM zhN zhM => ?_
  | (refine condT_k ?_ ?_; focus (first | rfl | (simp [go_sem, hk, cipherC, h]; done)))
set_option maxHeartbeats 400000 in
theorem rkey_no  :
 CtM Try.prog 33 [.w (.agg (cipherC false z32 0))] [] (Told (rkV ((false, z32, 0), 9))) := by
 refine CtM.k Try.func33 rfl Try.ntmps33 (congrArg Array.toList Try.results33) (by simp) fun w0 ro may fx => ?_
 refine top_k fun zZ zhZ => ?_
 iterate 20 first
  | (refine sr_k fun zK zhK => ?_; simp only [go_sem, z32_length, cipherC, fault_no]; (repeat' (first | apply And.intro | intro _)))
  | refine zhK _ ?_
  | refine skip_k ?_
  | (refine zhN _ ?_; clear zhN zhM)
  | refine ret_k ?_
  | (refine zhM _ _ ?_; clear zhN zhM)
  | (refine zhZ _ _ ?_; simp only [go_sem, z32_length, cipherC, fault_no]; (all_goals (exact rk_told)))
  | ((all_goals (refine call_view (fun k => k) (fun _ _ => rfl) ?_ ((cipher_check false z32 z32_length 0).plain fun _ _ h => h) ?_; focus (first | rfl | (simp only [go_sem, z32_length, cipherC, fault_no] <;> rfl)))); (all_goals (rintro v m ⟨hR, hm⟩; subst hR; subst hm)); (all_goals refine And.intro (by first | rfl | simp only [go_sem, z32_length, cipherC, fault_no]) (And.intro (by first | rfl | simp only [go_sem, z32_length, cipherC, fault_no]) ?_)); (all_goals simp only [go_sem, z32_length, cipherC, fault_no]); (all_goals repeat' (first | apply And.intro | intro _)))
  | refine seq_k fun zN zM zhN zhM => ?_
  | (refine condF_k ?_ ?_; focus (first | rfl | (simp [go_sem, z32_length, cipherC, fault_no]; done)))
  | (refine condT_k ?_ ?_; focus (first | rfl | (simp [go_sem, z32_length, cipherC, fault_no]; done)))
set_option maxHeartbeats 1600000 in
set_option maxRecDepth 100000 in
theorem rkey_ok (key : List UInt8) (hk : key.length = 32) (n : UInt64) :
 CtM Try.prog 33 [.w (.agg (cipherC true key n))] [] (Told (rkV ((true, rkKey key, n), 0))) := by
 have hN := nonce_ 18446744073709551615
 have hS := (seal_own key (nonceB 18446744073709551615) [] z32 hk (nonceB_length _) true false (Nat.zero_le _) (by rw [z32_length]; omega)).told
 rw [byteRows_nil] at hS
 have hrk : rkKey key = (slV key (nonceB 18446744073709551615) [] z32).take 32 := rfl
 have hsl := slV_len (key := key) (nonce := nonceB 18446744073709551615) (ad := []) (text := z32)
 rw [z32_length] at hsl
 rw [hrk]
 obtain ⟨c, hc⟩ : ∃ q, slV key (nonceB 18446744073709551615) [] z32 = q := ⟨_, rfl⟩
 have hnl := nonceB_length 18446744073709551615
 obtain ⟨nb, hnb⟩ : ∃ q, nonceB 18446744073709551615 = q := ⟨_, rfl⟩
 rw [hc] at hS hsl
 rw [hc]
 rw [hnb] at hN hS hnl
 have hsl : c.length = 48 := hsl
 obtain ⟨k2, hk2⟩ : ∃ q, c.take 32 = q := ⟨_, rfl⟩
 rw [hk2]
 have hkl : k2.length = 32 := by rw [← hk2, List.length_take]; omega
 have hch : chunks 1 32 (z32.map PL.u8) = byteRows z32 := chunks_bytes' rfl
 have hm1 : min 32 48 = 32 := rfl
 have hm2 : min 48 32 = 32 := rfl
 have hm3 : min 32 32 = 32 := rfl
 have htk : List.take 32 k2 = k2 := List.take_of_length_le (by omega)
 have hdk : List.drop 32 key = [] := List.drop_of_length_le (by omega)
 have htk2 : List.take 32 key = key := List.take_of_length_le (by omega)
 have F0 := And.intro hk <| And.intro hnl <| And.intro hsl <| And.intro hk2 <| And.intro hkl <| And.intro hch <| And.intro hm1 <| And.intro hm2 <| And.intro hm3 <| And.intro htk <| And.intro hdk <| htk2
 refine CtM.k Try.func33 rfl Try.ntmps33 (congrArg Array.toList Try.results33) (by simp) fun w0 ro may fx => ?_
 refine top_k fun zZ zhZ => ?_
 refine seq_k fun zN zM zhN zhM => ?_
 refine region_k fun zK zhK => ?_
 simp only [go_sem, cipherC, fault_true, rep_zero, Nat.sub_zero, F0]
 repeat' (first | apply And.intro | intro _)
 refine zhK _ ?_
 refine zhN _ ?_; clear zhN zhM
 refine seq_k fun zN zM zhN zhM => ?_
 refine seq_k fun zN zM zhN zhM => ?_
 refine region_k fun zK zhK => ?_
 simp only [go_sem, cipherC, fault_true, rep_zero, Nat.sub_zero, F0]
 repeat' (first | apply And.intro | intro _)
 all_goals (refine call_view (fun k => k) (fun _ _ => rfl) ?_ ((cipher_check true key hk n).plain fun _ _ h => h) ?_; focus (first | rfl | (simp only [go_sem, cipherC, fault_true, rep_zero, Nat.sub_zero, F0] <;> rfl)))
 all_goals (rintro v m ⟨hR, hm⟩; subst hR; subst hm)
 all_goals refine And.intro (by first | rfl | simp only [go_sem, cipherC, fault_true, rep_zero, Nat.sub_zero, F0]) (And.intro (by first | rfl | simp only [go_sem, cipherC, fault_true, rep_zero, Nat.sub_zero, F0]) ?_)
 all_goals simp only [go_sem, cipherC, fault_true, rep_zero, Nat.sub_zero, F0]
 all_goals repeat' (first | apply And.intro | intro _)
 refine zhK _ ?_
 refine zhN _ ?_; clear zhN zhM
 refine seq_k fun zN zM zhN zhM => ?_
 refine region_k fun zK zhK => ?_
 simp only [go_sem, cipherC, fault_true, rep_zero, Nat.sub_zero, F0]
 repeat' (first | apply And.intro | intro _)
 refine zhK _ ?_
 refine zhN _ ?_; clear zhN zhM
 (refine condF_k ?_ ?_; focus (first | rfl | (simp [go_sem, cipherC, fault_true, rep_zero, Nat.sub_zero, F0]; done)))
 refine skip_k ?_
 refine zhN _ ?_; clear zhN zhM
 refine seq_k fun zN zM zhN zhM => ?_
 refine seq_k fun zN zM zhN zhM => ?_
 refine region_k fun zK zhK => ?_
 simp only [go_sem, cipherC, fault_true, rep_zero, Nat.sub_zero, F0]
 repeat' (first | apply And.intro | intro _)
 refine zhK _ ?_
 refine zhN _ ?_; clear zhN zhM
 (refine condF_k ?_ ?_; focus (first | rfl | (simp [go_sem, cipherC, fault_true, rep_zero, Nat.sub_zero, F0]; done)))
 refine skip_k ?_
 refine zhN _ ?_; clear zhN zhM
 refine seq_k fun zN zM zhN zhM => ?_
 refine dr_k (id := 6) mixed fun zE zhE => ?_
 refine dr_piece_k (p := 0) 4 [18, 19, 20, 21] [0, 1, 0, 0, 15, 31, 63, 63, 127, 511] [] rfl (by kernel_rfl) rfl (by simp only [go_sem]) fun zR zK zhR zhK => ?_
 simp only [go_sem, cipherC, fault_true, rep_zero, Nat.sub_zero, F0]
 repeat' (first | apply And.intro | intro _)
 all_goals (refine call_draw (fun k => k) (.w (.agg (bytesC nb))) [] (fun _ _ => rfl) ?_ (hN.plain fun _ _ h => h) ?_ ?_; focus (first | rfl | (simp only [go_sem, cipherC, fault_true, rep_zero, Nat.sub_zero, F0] <;> rfl)))
 all_goals try (refine And.intro ?_ (And.intro ?_ (And.intro ?_ ?_)) <;> first | rfl | simp only [go_sem])
 all_goals simp only [go_sem, cipherC, fault_true, rep_zero, Nat.sub_zero, F0]
 all_goals repeat' (first | apply And.intro | intro _)
 refine zhK _ _ trivial (zhR _ ?_)
 refine dr_runs_k 2 6 rfl (by kernel_rfl) rfl rfl fun zR zhR => ?_
 simp only [go_sem, cipherC, fault_true, rep_zero, Nat.sub_zero, F0]
 repeat' (first | apply And.intro | intro _)
 all_goals (refine call_hand true [] (fun _ => 22) (fun _ _ => rfl) ?_ (by decide) ?_ hS ?_; iterate 2 (focus (first | rfl | (simp only [go_sem, cipherC, fault_true, rep_zero, Nat.sub_zero, F0] <;> first | done | rfl | simp))))
 all_goals (rintro v m ⟨hR, hm⟩; subst hR; subst hm)
 all_goals (refine And.intro ?_ (And.intro ?_ (And.intro ?_ ?_)); iterate 3 (focus (first | rfl | (simp only [go_sem, cipherC, fault_true, rep_zero, Nat.sub_zero, F0]; done) | (simp [go_sem, look, cipherC, fault_true, rep_zero, Nat.sub_zero, F0]; done))))
 all_goals (try simp only [go_sem, cipherC, fault_true, rep_zero, Nat.sub_zero, F0])
 all_goals (try simp only [go_sem, cipherC, fault_true, rep_zero, Nat.sub_zero, F0])
 all_goals repeat' (first | apply And.intro | intro _)
 refine zhR _ ?_
 refine dr_piece_k (p := 6) 9 [23, 24, 5] [0, 1, 0, 0, 15, 31, 63, 63, 127, 511] [] rfl (by kernel_rfl) rfl (by simp only [go_sem]) fun zR zK zhR zhK => ?_
 simp only [go_sem, cipherC, fault_true, rep_zero, Nat.sub_zero, F0]
 repeat' (first | apply And.intro | intro _)
 refine zhK _ _ trivial (zhR _ ?_)
 refine dr_runs_k 1 10 rfl (by kernel_rfl) rfl rfl fun zR zhR => ?_
 simp only [go_sem, cipherC, fault_true, rep_zero, Nat.sub_zero, F0]
 repeat' (first | apply And.intro | intro _)
 refine zhR _ ?_
 refine dr_end rfl (zhE _ ?_)
 refine zhN _ ?_; clear zhN zhM
 refine seq_k fun zN zM zhN zhM => ?_
 refine text_k (id := 7) [25, 26, 27, 28] (by simp only [go_sem]) fun zK zhK => ?_
 simp only [go_sem, cipherC, fault_true, rep_zero, Nat.sub_zero, F0]
 repeat' (first | apply And.intro | intro _)
 refine zhK _ _ ?_
 refine zhN _ ?_; clear zhN zhM
 refine seq_k fun zN zM zhN zhM => ?_
 refine region_k fun zK zhK => ?_
 simp only [go_sem, cipherC, fault_true, rep_zero, Nat.sub_zero, F0]
 repeat' (first | apply And.intro | intro _)
 refine zhK _ ?_
 refine zhN _ ?_; clear zhN zhM
 refine ret_k ?_
 refine zhZ _ _ ?_
 simp only [go_sem, cipherC, fault_true, rep_zero, Nat.sub_zero, F0]
 all_goals (exact rk_told)
theorem rkey_ (has : Bool) (key : List UInt8) (hk : key.length = 32) (n : UInt64) : CtM Try.prog 33 [.w (.agg (cipherC has key n))] [] (rkV (rkR has key n)) := by
 by_cases h : cipherFault has key n = 9
 · rcases has with _ | _
   · exact (rkey_bad false key hk n h).told
   · rw [fault_true] at h; cases h
 · rcases has with _ | _
   · obtain ⟨rfl, rfl⟩ := fault_false h
     exact rkey_no.told
   · exact (rkey_ok key hk n).told
set_option maxHeartbeats 400000 in
theorem rkyd_bad (has : Bool) (key : List UInt8) (hk : key.length = 32) (n : UInt64) (h : cipherFault has key n = 9) :
 CtM Try.prog 34 [.w (.agg (cipherC has key n))] [] (Told (rkV ((false, z32, 0), 9))) := by
 refine CtM.k Try.func34 rfl Try.ntmps34 (congrArg Array.toList Try.results34) (by simp) fun w0 ro may fx => ?_
 refine top_k fun zZ zhZ => ?_
 iterate 12 first
  | (refine sr_k fun zK zhK => ?_; simp only [go_sem, hk, cipherC, h]; (repeat' (first | apply And.intro | intro _)))
  | refine zhK _ ?_
  | refine ret_k ?_
  | (refine zhM _ _ ?_; clear zhN zhM)
  | (refine zhZ _ _ ?_; simp only [go_sem, hk, cipherC, h]; (all_goals (exact rk_told)))
  | ((all_goals (refine call_view (fun k => k) (fun _ _ => rfl) ?_ ((cipher_fault has key hk n).plain fun _ _ h => h) ?_; focus (first | rfl | (simp only [go_sem, hk, cipherC, h] <;> rfl)))); (all_goals (rintro v m ⟨hR, hm⟩; subst hR; subst hm)); (all_goals refine And.intro (by first | rfl | simp only [go_sem, hk, cipherC, h]) (And.intro (by first | rfl | simp only [go_sem, hk, cipherC, h]) ?_)); (all_goals simp only [go_sem, hk, cipherC, h]); (all_goals repeat' (first | apply And.intro | intro _)))
  | refine seq_k fun zN zM zhN zhM => ?_
  | (refine condT_k ?_ ?_; focus (first | rfl | (simp [go_sem, hk, cipherC, h]; done)))
set_option maxHeartbeats 400000 in
theorem rkyd_no  :
 CtM Try.prog 34 [.w (.agg (cipherC false z32 0))] [] (Told (rkV ((false, z32, 0), 9))) := by
 refine CtM.k Try.func34 rfl Try.ntmps34 (congrArg Array.toList Try.results34) (by simp) fun w0 ro may fx => ?_
 refine top_k fun zZ zhZ => ?_
 iterate 12 first
  | (refine sr_k fun zK zhK => ?_; simp only [go_sem, z32_length, cipherC, fault_no]; (repeat' (first | apply And.intro | intro _)))
  | refine zhK _ ?_
  | refine ret_k ?_
  | (refine zhM _ _ ?_; clear zhN zhM)
  | (refine zhZ _ _ ?_; simp only [go_sem, z32_length, cipherC, fault_no]; (all_goals (exact rk_told)))
  | ((all_goals (refine call_view (fun k => k) (fun _ _ => rfl) ?_ ((cipher_fault false z32 z32_length 0).plain fun _ _ h => h) ?_; focus (first | rfl | (simp only [go_sem, z32_length, cipherC, fault_no] <;> rfl)))); (all_goals (rintro v m ⟨hR, hm⟩; subst hR; subst hm)); (all_goals refine And.intro (by first | rfl | simp only [go_sem, z32_length, cipherC, fault_no]) (And.intro (by first | rfl | simp only [go_sem, z32_length, cipherC, fault_no]) ?_)); (all_goals simp only [go_sem, z32_length, cipherC, fault_no]); (all_goals repeat' (first | apply And.intro | intro _)))
  | refine seq_k fun zN zM zhN zhM => ?_
  | (refine condT_k ?_ ?_; focus (first | rfl | (simp [go_sem, z32_length, cipherC, fault_no]; done)))
set_option maxHeartbeats 400000 in
theorem key_ (s : List UInt8) (hs : s.length = 32) :
 Ct Try.prog 59 [.w (.one (.pl (.str s)))] (fun v m => v = .w (.agg (bytesC s))) := by
 have hm3 : min 32 32 = 32 := rfl
 have htk : List.take 32 s = s := List.take_of_length_le (by omega)
 have hd : List.drop 32 (List.replicate 32 (0 : UInt8)) = [] := rfl
 have F0 := And.intro hs <| And.intro hm3 <| And.intro htk <| hd
 refine Ct.k Try.func59 rfl Try.ntmps59 (congrArg Array.toList Try.results59) (by simp) fun w0 ro => ?_
 refine top_k fun zZ zhZ => ?_
 iterate 11 first
  | (refine seq_k fun zN zM zhN zhM => ?_; refine text_k (id := 2) [4, 5, 6] (by simp only [go_sem]) fun zK zhK => ?_; simp only [go_sem, F0]; (repeat' (first | apply And.intro | intro _)))
  | (refine sr_k fun zK zhK => ?_; simp only [go_sem, F0]; (repeat' (first | apply And.intro | intro _)))
  | refine zhK _ ?_
  | refine zhK _ _ ?_
  | (refine zhN _ ?_; clear zhN zhM)
  | refine ret_k ?_
  | (refine zhZ _ _ ?_; simp only [go_sem, F0]; (all_goals (rfl)))
set_option maxHeartbeats 1600000 in
set_option maxRecDepth 100000 in
theorem rkyd_ok (key : List UInt8) (hk : key.length = 32) (n : UInt64) :
 CtM Try.prog 34 [.w (.agg (cipherC true key n))] [] (Told (rkV ((true, rkKey key, n), 0))) := by
 have hN := nonce_of 18446744073709551615
 have hS := (seald_own key (nonceB 18446744073709551615) [] z32 hk (nonceB_length _) true false (Nat.zero_le _) (by rw [z32_length]; omega)).told
 rw [byteRows_nil] at hS
 have hrk : rkKey key = (slV key (nonceB 18446744073709551615) [] z32).take 32 := rfl
 have hsl := slV_len (key := key) (nonce := nonceB 18446744073709551615) (ad := []) (text := z32)
 rw [z32_length] at hsl
 rw [hrk]
 obtain ⟨c, hc⟩ : ∃ q, slV key (nonceB 18446744073709551615) [] z32 = q := ⟨_, rfl⟩
 have hnl := nonceB_length 18446744073709551615
 obtain ⟨nb, hnb⟩ : ∃ q, nonceB 18446744073709551615 = q := ⟨_, rfl⟩
 rw [hc] at hS hsl
 rw [hc]
 rw [hnb] at hN hS hnl
 have hsl : c.length = 48 := hsl
 obtain ⟨k2, hk2⟩ : ∃ q, c.take 32 = q := ⟨_, rfl⟩
 rw [hk2]
 have hkl : k2.length = 32 := by rw [← hk2, List.length_take]; omega
 have hch : chunks 1 32 (z32.map PL.u8) = byteRows z32 := chunks_bytes' rfl
 have hm1 : min 32 48 = 32 := rfl
 have hm2 : min 48 32 = 32 := rfl
 have hm3 : min 32 32 = 32 := rfl
 have htk : List.take 32 k2 = k2 := List.take_of_length_le (by omega)
 have hdk : List.drop 32 key = [] := List.drop_of_length_le (by omega)
 have htk2 : List.take 32 key = key := List.take_of_length_le (by omega)
 have F0 := And.intro hk <| And.intro hnl <| And.intro hsl <| And.intro hk2 <| And.intro hkl <| And.intro hch <| And.intro hm1 <| And.intro hm2 <| And.intro hm3 <| And.intro htk <| And.intro hdk <| htk2
 refine CtM.k Try.func34 rfl Try.ntmps34 (congrArg Array.toList Try.results34) (by simp) fun w0 ro may fx => ?_
 refine top_k fun zZ zhZ => ?_
 refine seq_k fun zN zM zhN zhM => ?_
 refine region_k fun zK zhK => ?_
 simp only [go_sem, cipherC, fault_true, rep_zero, Nat.sub_zero, F0]
 repeat' (first | apply And.intro | intro _)
 refine zhK _ ?_
 refine zhN _ ?_; clear zhN zhM
 refine seq_k fun zN zM zhN zhM => ?_
 refine seq_k fun zN zM zhN zhM => ?_
 refine region_k fun zK zhK => ?_
 simp only [go_sem, cipherC, fault_true, rep_zero, Nat.sub_zero, F0]
 repeat' (first | apply And.intro | intro _)
 all_goals (refine call_view (fun k => k) (fun _ _ => rfl) ?_ ((cipher_fault true key hk n).plain fun _ _ h => h) ?_; focus (first | rfl | (simp only [go_sem, cipherC, fault_true, rep_zero, Nat.sub_zero, F0] <;> rfl)))
 all_goals (rintro v m ⟨hR, hm⟩; subst hR; subst hm)
 all_goals refine And.intro (by first | rfl | simp only [go_sem, cipherC, fault_true, rep_zero, Nat.sub_zero, F0]) (And.intro (by first | rfl | simp only [go_sem, cipherC, fault_true, rep_zero, Nat.sub_zero, F0]) ?_)
 all_goals simp only [go_sem, cipherC, fault_true, rep_zero, Nat.sub_zero, F0]
 all_goals repeat' (first | apply And.intro | intro _)
 refine zhK _ ?_
 refine zhN _ ?_; clear zhN zhM
 (refine condF_k ?_ ?_; focus (first | rfl | (simp [go_sem, cipherC, fault_true, rep_zero, Nat.sub_zero, F0]; done)))
 refine skip_k ?_
 refine zhN _ ?_; clear zhN zhM
 refine seq_k fun zN zM zhN zhM => ?_
 refine dr_k (id := 3) mixed fun zE zhE => ?_
 refine dr_piece_k (p := 0) 5 [16, 17, 18, 19, 20] [0, 1, 0, 4, 12, 31, 63, 127, 127, 255, 1023] [] rfl (by kernel_rfl) rfl (by simp only [go_sem]) fun zR zK zhR zhK => ?_
 simp only [go_sem, cipherC, fault_true, rep_zero, Nat.sub_zero, F0]
 repeat' (first | apply And.intro | intro _)
 all_goals (refine call_draw (fun k => k) (.w (.agg (bytesC nb))) [] (fun _ _ => rfl) ?_ (hN.plain fun _ _ h => h) ?_ ?_; focus (first | rfl | (simp only [go_sem, cipherC, fault_true, rep_zero, Nat.sub_zero, F0] <;> rfl)))
 all_goals try (refine And.intro ?_ (And.intro ?_ (And.intro ?_ ?_)) <;> first | rfl | simp only [go_sem])
 all_goals simp only [go_sem, cipherC, fault_true, rep_zero, Nat.sub_zero, F0]
 all_goals repeat' (first | apply And.intro | intro _)
 all_goals (refine call_draw (fun k => k) (.w (.one (.pl (.str z32)))) [] (fun _ _ => rfl) ?_ ((noughts_ 32 (by omega)).plain fun _ _ h => h) ?_ ?_; focus (first | rfl | (simp only [go_sem, cipherC, fault_true, rep_zero, Nat.sub_zero, F0] <;> rfl)))
 all_goals try (refine And.intro ?_ (And.intro ?_ (And.intro ?_ ?_)) <;> first | rfl | simp only [go_sem])
 all_goals simp only [go_sem, cipherC, fault_true, rep_zero, Nat.sub_zero, F0]
 all_goals repeat' (first | apply And.intro | intro _)
 refine zhK _ _ trivial (zhR _ ?_)
 refine dr_runs_k 2 7 rfl (by kernel_rfl) rfl rfl fun zR zhR => ?_
 simp only [go_sem, cipherC, fault_true, rep_zero, Nat.sub_zero, F0]
 repeat' (first | apply And.intro | intro _)
 all_goals (refine call_hand true [] (fun _ => 21) (fun _ _ => rfl) ?_ (by decide) ?_ hS ?_; iterate 2 (focus (first | rfl | (simp only [go_sem, cipherC, fault_true, rep_zero, Nat.sub_zero, F0] <;> first | done | rfl | simp))))
 all_goals (rintro v m ⟨hR, hm⟩; subst hR; subst hm)
 all_goals (refine And.intro ?_ (And.intro ?_ (And.intro ?_ ?_)); iterate 3 (focus (first | rfl | (simp only [go_sem, cipherC, fault_true, rep_zero, Nat.sub_zero, F0]; done) | (simp [go_sem, look, cipherC, fault_true, rep_zero, Nat.sub_zero, F0]; done))))
 all_goals (try simp only [go_sem, cipherC, fault_true, rep_zero, Nat.sub_zero, F0])
 all_goals (try simp only [go_sem, cipherC, fault_true, rep_zero, Nat.sub_zero, F0])
 all_goals repeat' (first | apply And.intro | intro _)
 refine zhR _ ?_
 refine dr_piece_k (p := 7) 10 [22, 23, 4] [0, 1, 0, 4, 12, 31, 63, 127, 127, 255, 1023] [] rfl (by kernel_rfl) rfl (by simp only [go_sem]) fun zR zK zhR zhK => ?_
 simp only [go_sem, cipherC, fault_true, rep_zero, Nat.sub_zero, F0]
 repeat' (first | apply And.intro | intro _)
 refine zhK _ _ trivial (zhR _ ?_)
 refine dr_runs_k 1 11 rfl (by kernel_rfl) rfl rfl fun zR zhR => ?_
 simp only [go_sem, cipherC, fault_true, rep_zero, Nat.sub_zero, F0]
 repeat' (first | apply And.intro | intro _)
 refine zhR _ ?_
 refine dr_end rfl (zhE _ ?_)
 refine zhN _ ?_; clear zhN zhM
 refine seq_k fun zN zM zhN zhM => ?_
 refine region_k fun zK zhK => ?_
 simp only [go_sem, cipherC, fault_true, rep_zero, Nat.sub_zero, F0]
 repeat' (first | apply And.intro | intro _)
 all_goals (refine call_view (fun k => k) (fun _ _ => rfl) ?_ ((key_ k2 hkl).plain fun _ _ h => h) ?_; focus (first | rfl | (simp only [go_sem, cipherC, fault_true, rep_zero, Nat.sub_zero, F0] <;> rfl)))
 all_goals (rintro v m ⟨hR, hm⟩; subst hR; subst hm)
 all_goals refine And.intro (by first | rfl | simp only [go_sem, cipherC, fault_true, rep_zero, Nat.sub_zero, F0]) (And.intro (by first | rfl | simp only [go_sem, cipherC, fault_true, rep_zero, Nat.sub_zero, F0]) ?_)
 all_goals simp only [go_sem, cipherC, fault_true, rep_zero, Nat.sub_zero, F0]
 all_goals repeat' (first | apply And.intro | intro _)
 refine zhK _ ?_
 refine zhN _ ?_; clear zhN zhM
 refine seq_k fun zN zM zhN zhM => ?_
 refine region_k fun zK zhK => ?_
 simp only [go_sem, cipherC, fault_true, rep_zero, Nat.sub_zero, F0]
 repeat' (first | apply And.intro | intro _)
 refine zhK _ ?_
 refine zhN _ ?_; clear zhN zhM
 refine ret_k ?_
 refine zhZ _ _ ?_
 simp only [go_sem, cipherC, fault_true, rep_zero, Nat.sub_zero, F0]
 all_goals (exact rk_told)
theorem rkyd_ (has : Bool) (key : List UInt8) (hk : key.length = 32) (n : UInt64) : CtM Try.prog 34 [.w (.agg (cipherC has key n))] [] (rkV (rkR has key n)) := by
 by_cases h : cipherFault has key n = 9
 · rcases has with _ | _
   · exact (rkyd_bad false key hk n h).told
   · rw [fault_true] at h; cases h
 · rcases has with _ | _
   · obtain ⟨rfl, rfl⟩ := fault_false h
     exact rkyd_no.told
   · exact (rkyd_ok key hk n).told
set_option maxHeartbeats 800000 in
theorem law_rkey (has : Bool) (key : List UInt8) (hk : key.length = 32) (n : UInt64) :
 Ct Try.prog 11 [.w (.agg (cipherC has key n))] (fun v m => v = .w (.one (.pl (.b true)))) := by
 have hU := rkey_ has key hk n
 have hW := rkyd_ has key hk n
 have hl := rkR_len (has := has) (key := key) (n := n)
 obtain ⟨⟨⟨h2, k2, n2⟩, e2⟩, hr⟩ : ∃ r, rkR has key n = r := ⟨_, rfl⟩
 rw [hr] at hU hW hl
 simp only [rkV] at hU hW hl
 have hc1 := cipherC_length (has := has) (n := n) hk
 have hc2 := cipherC_length (has := h2) (n := n2) hl
 have hse := same_cip (has := h2) (n := n2) hl
 simp only [cipherC] at hse
 have F0 := And.intro hk <| And.intro hl <| hse
 refine Ct.k Try.func11 rfl Try.ntmps11 (congrArg Array.toList Try.results11) (by simp) fun w0 ro => ?_
 refine top_k fun zZ zhZ => ?_
 iterate 12 first
  | (refine sr_k fun zK zhK => ?_; simp only [go_sem, cipherC, F0]; (repeat' (first | apply And.intro | intro _)))
  | refine zhK _ ?_
  | refine ret_k ?_
  | (refine zhZ _ _ ?_; simp only [go_sem, cipherC, F0]; (all_goals (first | rfl | simp)))
  | ((all_goals (refine call_hand false [] (fun k => k) (fun _ _ => rfl) ?_ (by decide) ?_ hU ?_; iterate 2 (focus (first | rfl | (simp only [go_sem, cipherC, F0] <;> first | done | rfl | simp))))); (all_goals (rintro v m ⟨hR, hm⟩; subst hR; subst hm)); (all_goals (refine And.intro ?_ (And.intro ?_ (And.intro ?_ ?_)); iterate 3 (focus (first | rfl | (simp only [go_sem, cipherC, F0]; done) | (simp [go_sem, look, cipherC, F0]; done))))); (all_goals (try simp only [go_sem, cipherC, F0])); (all_goals (try simp only [go_sem, cipherC, F0])); (all_goals repeat' (first | apply And.intro | intro _)))
  | ((all_goals (refine call_hand false [] (fun k => k) (fun _ _ => rfl) ?_ (by decide) ?_ hW ?_; iterate 2 (focus (first | rfl | (simp only [go_sem, cipherC, F0] <;> first | done | rfl | simp))))); (all_goals (rintro v m ⟨hR, hm⟩; subst hR; subst hm)); (all_goals (refine And.intro ?_ (And.intro ?_ (And.intro ?_ ?_)); iterate 3 (focus (first | rfl | (simp only [go_sem, cipherC, F0]; done) | (simp [go_sem, look, cipherC, F0]; done))))); (all_goals (try simp only [go_sem, cipherC, F0])); (all_goals (try simp only [go_sem, cipherC, F0])); (all_goals repeat' (first | apply And.intro | intro _)))
end Go.Sy

