/- Walks: frames, fed, as the document tells it. -/
import Derived.Test.YtmopmlnpoeeomaavaF2
set_option linter.unusedVariables false
set_option linter.unusedSimpArgs false
namespace Go.Sy
open Go.Proofs
attribute [local irreducible] atCall HT runOps runD onC onE onO onG goV goA goS onSt onGuard
set_option maxHeartbeats 1600000 in
theorem fed_loop (held b : List UInt8) (ex ex2 : Bool) (hh : ¬ 903 < held.length) (all : List UInt8) (hall : held ++ b = all) (hb : all.length ≤ 1048576) :
    Ct Try.prog 21 [.w (.one (.pl (.R ex 1 (byteRows held)))), .w (.one (.pl (.R ex2 1 (byteRows b))))] (Told (feedV (feedP held b))) := by
  have hfp : feedP held b = feedR all.length [] all := by rw [feedP, if_neg hh, hall]
  have h9 : ¬ (903 : Int) < ((held.length : Nat) : Int) := by omega
  have hal : held.length + b.length = all.length := by rw [← hall, List.length_append]
  have hs15 : ∀ n, n = all.length → sealL 15 (all.map .u8) (.s 15 [] n 1) = .pl (.R false 1 (byteRows all)) := fun n h => seal_bytes h
  have hs15 := hs15 _ rfl
  obtain ⟨hcap0, hcap1⟩ : held.length ≤ 140737488355328 ∧ all.length ≤ 140737488355328 := ⟨by omega, by omega⟩
  have hmx : all.length ≤ 9223372036854775807 := by omega
  have hmx2 : held.length + b.length ≤ 9223372036854775807 := by omega
  refine Ct.k Try.func21 rfl Try.ntmps21 (congrArg Array.toList Try.results21) (by simp) fun w0 ro => ?_
  refine seq_k fun N1 M1 hN1 hM1 => ?_
  refine region_k fun K2 hK2 => ?_
  simp only [go_sem, decide_false, decide_true, Bool.not_true, Bool.not_false, h9, hcap0, hcap1, Nat.zero_add, hal, hall, hmx, hmx2, bytesR_rows]
  all_goals repeat' (first | apply And.intro | intro _)
  all_goals
    refine hK2 _ ?_
    refine hN1 _ ?_
    refine seq_k fun N3 M3 hN3 hM3 => ?_
    refine seq_k fun N4 M4 hN4 hM4 => ?_
    refine region_k fun K5 hK5 => ?_
    simp only [go_sem, decide_false, decide_true, Bool.not_true, Bool.not_false, h9, hcap0, hcap1, Nat.zero_add, hal, hall, hmx, hmx2, bytesR_rows]
    all_goals repeat' (first | apply And.intro | intro _)
    all_goals
      refine hK5 _ ?_
      refine hN4 _ ?_
      refine cond_k rfl (fun hc => ?_) (fun hc => ?_)
      · exfalso; revert hc; simp [go_sem, decide_false, decide_true, Bool.not_true, Bool.not_false, h9, hcap0, hcap1, Nat.zero_add, hal, hall, hmx, hmx2, bytesR_rows]
      · try simp only [go_sem, decide_false, decide_true, Bool.not_true, Bool.not_false, h9, hcap0, hcap1, Nat.zero_add, hal, hall, hmx, hmx2, bytesR_rows] at hc
        all_goals
          refine skip_k ?_
          refine hN3 _ ?_
          refine seq_k fun N6 M6 hN6 hM6 => ?_
          refine region_k fun K7 hK7 => ?_
          simp only [go_sem, decide_false, decide_true, Bool.not_true, Bool.not_false, h9, hcap0, hcap1, Nat.zero_add, hal, hall, hmx, hmx2, bytesR_rows]
          all_goals repeat' (first | apply And.intro | intro _)
          all_goals
            refine hK7 _ ?_
            refine hN6 _ ?_
            refine seq_k fun N8 M8 hN8 hM8 => ?_
            refine region_k fun K9 hK9 => ?_
            simp only [go_sem, decide_false, decide_true, Bool.not_true, Bool.not_false, h9, hcap0, hcap1, Nat.zero_add, hal, hall, hmx, hmx2, bytesR_rows]
            all_goals repeat' (first | apply And.intro | intro _)
            all_goals
              refine hK9 _ ?_
              refine hN8 _ ?_
              refine seq_k fun N10 M10 hN10 hM10 => ?_
              refine block_k fun B11 bn11 bx11 br11 bi11 => ?_
              refine ht_dropE [0, 1, 10, 11, 12, 13, 14, 15, 16, 17] ?_
              simp only [dropE_mk, fgt_nil, fgt_cons, List.contains_cons, List.contains_nil, Nat.reduceBEq, beq_self_eq_true, Bool.or_false, Bool.or_true, Bool.true_or, Bool.false_or, Bool.false_eq_true, reduceIte]
              refine loop_k (fun y => [(7, .w (.one (.pl (.str y.1.2.2)))), (8, fV 68 y.1.2.1)]) (fun y => fM 68 y.1.2.1) (fun y => y.1.1) (⟨(all.length, [], all), rfl, Nat.le_refl _, by simp⟩ : {y : Nat × List FrD × List UInt8 // FInv all y}) ?_ ?_ ?_
              · (simp only [go_sem, fV_nil, leX, List.cons_append, List.nil_append]; try simp)
              · (simp only [go_sem, fM_nil, leX, List.cons_append, List.nil_append]; try simp)
              intro yy N12 M12 hN12 hM12
              simp only [List.cons_append, List.nil_append]
              obtain ⟨⟨c, l, bt⟩, hv⟩ := yy
              rcases Classical.em (l = []) with rfl | hl0
              all_goals rcases feed_cases bt with hs | ⟨hs, hk⟩ | ⟨hs, hk⟩ | ⟨hs, hk1, hk2, hnz⟩ | ⟨hs, hk, hn1, hnz⟩ | ⟨hs, hk1, hk2, hnz, hw⟩ | ⟨hs, hk1, hk2, hnz, hw⟩ | ⟨hs, hk, hnz⟩
              · simp only [fV_nil, fM_nil, List.cons_append, List.nil_append]
                have hge : ¬ (4 : Int) ≤ ((bt.length : Nat) : Int) := by omega
                have hgt3 : ¬ (3 : Int) < ((bt.length : Nat) : Int) := by omega
                have hfe := feed_short hv hs
                have hbc : bt.length ≤ 140737488355328 := by omega
                
                refine seq_k fun N13 M13 hN13 hM13 => ?_
                refine seq_k fun N14 M14 hN14 hM14 => ?_
                refine region_k fun K15 hK15 => ?_
                simp only [go_sem, decide_false, decide_true, Bool.not_true, Bool.not_false, h9, hcap0, hcap1, Nat.zero_add, hal, hall, hmx, hmx2, bytesR_rows, hge, hgt3, hbc]
                all_goals repeat' (first | apply And.intro | intro _)
                all_goals
                  refine hK15 _ ?_
                  refine hN14 _ ?_
                  refine cond_k rfl (fun hc => ?_) (fun hc => ?_)
                  · exfalso; revert hc; simp [go_sem, decide_false, decide_true, Bool.not_true, Bool.not_false, h9, hcap0, hcap1, Nat.zero_add, hal, hall, hmx, hmx2, bytesR_rows, hge, hgt3, hbc]
                  · try simp only [go_sem, decide_false, decide_true, Bool.not_true, Bool.not_false, h9, hcap0, hcap1, Nat.zero_add, hal, hall, hmx, hmx2, bytesR_rows, hge, hgt3, hbc] at hc
                    all_goals
                      refine exit_k ?_
                      refine hM13 _ _ ?_
                      refine hM12 _ _ ?_
                      refine bx11 _ ?_
                      refine hN10 _ ?_
                      refine seq_k fun N16 M16 hN16 hM16 => ?_
                      refine region_k fun K17 hK17 => ?_
                      simp only [go_sem, decide_false, decide_true, Bool.not_true, Bool.not_false, h9, hcap0, hcap1, Nat.zero_add, hal, hall, hmx, hmx2, bytesR_rows, hge, hgt3, hbc]
                      all_goals repeat' (first | apply And.intro | intro _)
                      all_goals
                        refine hK17 _ ?_
                        refine hN16 _ ?_
                        refine ret_k ?_
                        simp only [go_sem, decide_false, decide_true, Bool.not_true, Bool.not_false, h9, hcap0, hcap1, Nat.zero_add, hal, hall, hmx, hmx2, bytesR_rows, hge, hgt3, hbc]
                        all_goals (rw [hfp, hfe]; exact feed_end_nil (b := true) (by simp [look]) rfl)
              · simp only [fV_nil, fM_nil, List.cons_append, List.nil_append]
                have hfe := feed_fault hv hs (hf_kind (.inl hk)) (by decide)
                obtain ⟨b0, hb0⟩ : ∃ b, bt.getD 0 0 = b := ⟨_, rfl⟩
                obtain ⟨b1, hb1⟩ : ∃ b, bt.getD 1 0 = b := ⟨_, rfl⟩
                obtain ⟨b2, hb2⟩ : ∃ b, bt.getD 2 0 = b := ⟨_, rfl⟩
                obtain ⟨b3, hb3⟩ : ∃ b, bt.getD 3 0 = b := ⟨_, rfl⟩
                have hg0 := rowG (bs := bt) (i := 0) (by omega) hb0
                have hg1 := rowG (bs := bt) (i := 1) (by omega) hb1
                have hg2 := rowG (bs := bt) (i := 2) (by omega) hb2
                have hg3 := rowG (bs := bt) (i := 3) (by omega) hb3
                obtain ⟨n, hn⟩ : ∃ x, nOf bt = x := ⟨_, rfl⟩
                have hk0 : kOf bt = b0.toNat := by rw [kOf, hb0]
                have hn0 : 256 * b2.toNat + b3.toNat = n := by rw [← hn, nOf, hb2, hb3]
                have hnl : n < 65536 := hn ▸ nOf_lt bt
                have hl0 := b0.toNat_lt
                have hl1 := b1.toNat_lt
                have hl2 := b2.toNat_lt
                have hl3 := b3.toNat_lt
                have hid : b1.toNat ≤ 255 := by omega
                have hge : (4 : Int) ≤ ((bt.length : Nat) : Int) := by omega
                have hgt3 : (3 : Int) < ((bt.length : Nat) : Int) := by omega
                have hp0 : (0 : Int) < ((bt.length : Nat) : Int) := by omega
                have hp1 : (1 : Int) < ((bt.length : Nat) : Int) := by omega
                have hp2 : (2 : Int) < ((bt.length : Nat) : Int) := by omega
                have hlo : bt.length ≤ all.length := by have := hv.2.2; simp only at this; omega
                rw [hk0] at hk
                have hq1 : (b0 < 1) = True := eq_true (UInt8.lt_iff_toNat_lt.mpr hk)
                obtain ⟨hnn, hnn2, hw1, hw2, hcap⟩ : ior (ishl ((b2.toNat : Nat) : Int) (UInt64.toNat 8)) ((b3.toNat : Nat) : Int) = ((n : Nat) : Int) ∧ Go.RowKit.wrap64 (Go.RowKit.wrap64 (((b2.toNat : Nat) : Int) * 256) + ((b3.toNat : Nat) : Int)) = ((n : Nat) : Int) ∧ Go.RowKit.wrap64 (4 + ((n : Nat) : Int)) = ((n + 4 : Nat) : Int) ∧ Go.RowKit.wrap64 (((bt.length : Nat) : Int) - 4) = ((bt.length - 4 : Nat) : Int) ∧ (0 + 1) * 40 ≤ 140737488355328 := ⟨n_shl hl2 hl3 hn0, n_mul hl2 hl3 hn0, wnat (by omega) (by omega), wnat (by omega) (by omega), by omega⟩
                have hbc : bt.length ≤ 140737488355328 := by clear hnn hnn2 hw1 hw2 hcap; omega
                
                refine seq_k fun N18 M18 hN18 hM18 => ?_
                refine seq_k fun N19 M19 hN19 hM19 => ?_
                refine region_k fun K20 hK20 => ?_
                simp only [go_sem, decide_false, decide_true, Bool.not_true, Bool.not_false, h9, hcap0, hcap1, Nat.zero_add, hal, hall, hmx, hmx2, bytesR_rows, hb0, hb1, hb2, hb3, hg0, hg1, hg2, hg3, hge, hgt3, hp0, hp1, hp2, Int.toNat_zero, Int.toNat_one, Int.reduceToNat, Int.toNat_natCast, hnn, hnn2, hw1, hw2, hbc, hq1]
                all_goals repeat' (first | apply And.intro | intro _)
                all_goals
                  refine hK20 _ ?_
                  refine hN19 _ ?_
                  refine cond_k rfl (fun hc => ?_) (fun hc => ?_)
                  · try simp only [go_sem, decide_false, decide_true, Bool.not_true, Bool.not_false, h9, hcap0, hcap1, Nat.zero_add, hal, hall, hmx, hmx2, bytesR_rows, hb0, hb1, hb2, hb3, hg0, hg1, hg2, hg3, hge, hgt3, hp0, hp1, hp2, Int.toNat_zero, Int.toNat_one, Int.reduceToNat, Int.toNat_natCast, hnn, hnn2, hw1, hw2, hbc, hq1] at hc
                    all_goals
                      refine skip_k ?_
                      refine hN18 _ ?_
                      refine block_k fun B21 bn21 bx21 br21 bi21 => ?_
                      refine seq_k fun N22 M22 hN22 hM22 => ?_
                      refine draw_k [21, 22, 23, 24, 25, 26, 27, 28, 9] [0, 1, 3, 7, 0, 16, 48, 127, 255] [] mixed (by kernel_rfl) (by simp only [go_sem]) fun K23 hK23 => ?_
                      simp only [go_sem, decide_false, decide_true, Bool.not_true, Bool.not_false, h9, hcap0, hcap1, Nat.zero_add, hal, hall, hmx, hmx2, bytesR_rows, hb0, hb1, hb2, hb3, hg0, hg1, hg2, hg3, hge, hgt3, hp0, hp1, hp2, Int.toNat_zero, Int.toNat_one, Int.reduceToNat, Int.toNat_natCast, hnn, hnn2, hw1, hw2, hbc, hq1]
                      all_goals repeat' (first | apply And.intro | intro _)
                      all_goals
                        refine hK23 _ _ ?_ ?_
                        · first | trivial | (simp only [go_sem]; done) | (simp only [go_sem]; simp; done) | (simp only [go_sem]; simp; simp only [go_sem])
                        refine hN22 _ ?_
                        refine seq_k fun N24 M24 hN24 hM24 => ?_
                        refine block_k fun B25 bn25 bx25 br25 bi25 => ?_
                        refine seq_k fun N26 M26 hN26 hM26 => ?_
                        refine region_k fun K27 hK27 => ?_
                        simp only [go_sem, decide_false, decide_true, Bool.not_true, Bool.not_false, h9, hcap0, hcap1, Nat.zero_add, hal, hall, hmx, hmx2, bytesR_rows, hb0, hb1, hb2, hb3, hg0, hg1, hg2, hg3, hge, hgt3, hp0, hp1, hp2, Int.toNat_zero, Int.toNat_one, Int.reduceToNat, Int.toNat_natCast, hnn, hnn2, hw1, hw2, hbc, hq1]
                        all_goals repeat' (first | apply And.intro | intro _)
                        all_goals
                          refine hK27 _ ?_
                          refine hN26 _ ?_
                          refine cond_k rfl (fun hc => ?_) (fun hc => ?_)
                          · try simp only [go_sem, decide_false, decide_true, Bool.not_true, Bool.not_false, h9, hcap0, hcap1, Nat.zero_add, hal, hall, hmx, hmx2, bytesR_rows, hb0, hb1, hb2, hb3, hg0, hg1, hg2, hg3, hge, hgt3, hp0, hp1, hp2, Int.toNat_zero, Int.toNat_one, Int.reduceToNat, Int.toNat_natCast, hnn, hnn2, hw1, hw2, hbc, hq1] at hc
                            all_goals
                              refine seq_k fun N28 M28 hN28 hM28 => ?_
                              refine region_k fun K29 hK29 => ?_
                              simp only [go_sem, decide_false, decide_true, Bool.not_true, Bool.not_false, h9, hcap0, hcap1, Nat.zero_add, hal, hall, hmx, hmx2, bytesR_rows, hb0, hb1, hb2, hb3, hg0, hg1, hg2, hg3, hge, hgt3, hp0, hp1, hp2, Int.toNat_zero, Int.toNat_one, Int.reduceToNat, Int.toNat_natCast, hnn, hnn2, hw1, hw2, hbc, hq1]
                              all_goals repeat' (first | apply And.intro | intro _)
                              all_goals
                                refine hK29 _ ?_
                                refine hN28 _ ?_
                                refine ret_k ?_
                                refine br25 _ ?_
                                refine hM24 _ _ ?_
                                refine br21 _ ?_
                                refine hM12 _ _ ?_
                                refine br11 _ ?_
                                refine hM10 _ _ ?_
                                simp only [go_sem, decide_false, decide_true, Bool.not_true, Bool.not_false, h9, hcap0, hcap1, Nat.zero_add, hal, hall, hmx, hmx2, bytesR_rows, hb0, hb1, hb2, hb3, hg0, hg1, hg2, hg3, hge, hgt3, hp0, hp1, hp2, Int.toNat_zero, Int.toNat_one, Int.reduceToNat, Int.toNat_natCast, hnn, hnn2, hw1, hw2, hbc, hq1]
                                all_goals (rw [hfp, hfe]; exact feed_bad)
                          · exfalso; revert hc; simp [go_sem, decide_false, decide_true, Bool.not_true, Bool.not_false, h9, hcap0, hcap1, Nat.zero_add, hal, hall, hmx, hmx2, bytesR_rows, hb0, hb1, hb2, hb3, hg0, hg1, hg2, hg3, hge, hgt3, hp0, hp1, hp2, Int.toNat_zero, Int.toNat_one, Int.reduceToNat, Int.toNat_natCast, hnn, hnn2, hw1, hw2, hbc, hq1]
                  · exfalso; revert hc; simp [go_sem, decide_false, decide_true, Bool.not_true, Bool.not_false, h9, hcap0, hcap1, Nat.zero_add, hal, hall, hmx, hmx2, bytesR_rows, hb0, hb1, hb2, hb3, hg0, hg1, hg2, hg3, hge, hgt3, hp0, hp1, hp2, Int.toNat_zero, Int.toNat_one, Int.reduceToNat, Int.toNat_natCast, hnn, hnn2, hw1, hw2, hbc, hq1]
              · simp only [fV_nil, fM_nil, List.cons_append, List.nil_append]
                have hfe := feed_fault hv hs (hf_kind (.inr hk)) (by decide)
                obtain ⟨b0, hb0⟩ : ∃ b, bt.getD 0 0 = b := ⟨_, rfl⟩
                obtain ⟨b1, hb1⟩ : ∃ b, bt.getD 1 0 = b := ⟨_, rfl⟩
                obtain ⟨b2, hb2⟩ : ∃ b, bt.getD 2 0 = b := ⟨_, rfl⟩
                obtain ⟨b3, hb3⟩ : ∃ b, bt.getD 3 0 = b := ⟨_, rfl⟩
                have hg0 := rowG (bs := bt) (i := 0) (by omega) hb0
                have hg1 := rowG (bs := bt) (i := 1) (by omega) hb1
                have hg2 := rowG (bs := bt) (i := 2) (by omega) hb2
                have hg3 := rowG (bs := bt) (i := 3) (by omega) hb3
                obtain ⟨n, hn⟩ : ∃ x, nOf bt = x := ⟨_, rfl⟩
                have hk0 : kOf bt = b0.toNat := by rw [kOf, hb0]
                have hn0 : 256 * b2.toNat + b3.toNat = n := by rw [← hn, nOf, hb2, hb3]
                have hnl : n < 65536 := hn ▸ nOf_lt bt
                have hl0 := b0.toNat_lt
                have hl1 := b1.toNat_lt
                have hl2 := b2.toNat_lt
                have hl3 := b3.toNat_lt
                have hid : b1.toNat ≤ 255 := by omega
                have hge : (4 : Int) ≤ ((bt.length : Nat) : Int) := by omega
                have hgt3 : (3 : Int) < ((bt.length : Nat) : Int) := by omega
                have hp0 : (0 : Int) < ((bt.length : Nat) : Int) := by omega
                have hp1 : (1 : Int) < ((bt.length : Nat) : Int) := by omega
                have hp2 : (2 : Int) < ((bt.length : Nat) : Int) := by omega
                have hlo : bt.length ≤ all.length := by have := hv.2.2; simp only at this; omega
                rw [hk0] at hk
                have hq1 : (b0 < 1) = False := eq_false fun h => by have := UInt8.lt_iff_toNat_lt.mp h; simp at this; omega
                have hq2 : (5 < b0) = True := eq_true (UInt8.lt_iff_toNat_lt.mpr hk)
                obtain ⟨hnn, hnn2, hw1, hw2, hcap⟩ : ior (ishl ((b2.toNat : Nat) : Int) (UInt64.toNat 8)) ((b3.toNat : Nat) : Int) = ((n : Nat) : Int) ∧ Go.RowKit.wrap64 (Go.RowKit.wrap64 (((b2.toNat : Nat) : Int) * 256) + ((b3.toNat : Nat) : Int)) = ((n : Nat) : Int) ∧ Go.RowKit.wrap64 (4 + ((n : Nat) : Int)) = ((n + 4 : Nat) : Int) ∧ Go.RowKit.wrap64 (((bt.length : Nat) : Int) - 4) = ((bt.length - 4 : Nat) : Int) ∧ (0 + 1) * 40 ≤ 140737488355328 := ⟨n_shl hl2 hl3 hn0, n_mul hl2 hl3 hn0, wnat (by omega) (by omega), wnat (by omega) (by omega), by omega⟩
                have hbc : bt.length ≤ 140737488355328 := by clear hnn hnn2 hw1 hw2 hcap; omega
                
                refine seq_k fun N30 M30 hN30 hM30 => ?_
                refine seq_k fun N31 M31 hN31 hM31 => ?_
                refine region_k fun K32 hK32 => ?_
                simp only [go_sem, decide_false, decide_true, Bool.not_true, Bool.not_false, h9, hcap0, hcap1, Nat.zero_add, hal, hall, hmx, hmx2, bytesR_rows, hb0, hb1, hb2, hb3, hg0, hg1, hg2, hg3, hge, hgt3, hp0, hp1, hp2, Int.toNat_zero, Int.toNat_one, Int.reduceToNat, Int.toNat_natCast, hnn, hnn2, hw1, hw2, hbc, hq1, hq2]
                all_goals repeat' (first | apply And.intro | intro _)
                all_goals
                  refine hK32 _ ?_
                  refine hN31 _ ?_
                  refine cond_k rfl (fun hc => ?_) (fun hc => ?_)
                  · try simp only [go_sem, decide_false, decide_true, Bool.not_true, Bool.not_false, h9, hcap0, hcap1, Nat.zero_add, hal, hall, hmx, hmx2, bytesR_rows, hb0, hb1, hb2, hb3, hg0, hg1, hg2, hg3, hge, hgt3, hp0, hp1, hp2, Int.toNat_zero, Int.toNat_one, Int.reduceToNat, Int.toNat_natCast, hnn, hnn2, hw1, hw2, hbc, hq1, hq2] at hc
                    all_goals
                      refine skip_k ?_
                      refine hN30 _ ?_
                      refine block_k fun B33 bn33 bx33 br33 bi33 => ?_
                      refine seq_k fun N34 M34 hN34 hM34 => ?_
                      refine draw_k [21, 22, 23, 24, 25, 26, 27, 28, 9] [0, 1, 3, 7, 0, 16, 48, 127, 255] [] mixed (by kernel_rfl) (by simp only [go_sem]) fun K35 hK35 => ?_
                      simp only [go_sem, decide_false, decide_true, Bool.not_true, Bool.not_false, h9, hcap0, hcap1, Nat.zero_add, hal, hall, hmx, hmx2, bytesR_rows, hb0, hb1, hb2, hb3, hg0, hg1, hg2, hg3, hge, hgt3, hp0, hp1, hp2, Int.toNat_zero, Int.toNat_one, Int.reduceToNat, Int.toNat_natCast, hnn, hnn2, hw1, hw2, hbc, hq1, hq2]
                      all_goals repeat' (first | apply And.intro | intro _)
                      all_goals
                        refine hK35 _ _ ?_ ?_
                        · first | trivial | (simp only [go_sem]; done) | (simp only [go_sem]; simp; done) | (simp only [go_sem]; simp; simp only [go_sem])
                        refine hN34 _ ?_
                        refine seq_k fun N36 M36 hN36 hM36 => ?_
                        refine block_k fun B37 bn37 bx37 br37 bi37 => ?_
                        refine seq_k fun N38 M38 hN38 hM38 => ?_
                        refine region_k fun K39 hK39 => ?_
                        simp only [go_sem, decide_false, decide_true, Bool.not_true, Bool.not_false, h9, hcap0, hcap1, Nat.zero_add, hal, hall, hmx, hmx2, bytesR_rows, hb0, hb1, hb2, hb3, hg0, hg1, hg2, hg3, hge, hgt3, hp0, hp1, hp2, Int.toNat_zero, Int.toNat_one, Int.reduceToNat, Int.toNat_natCast, hnn, hnn2, hw1, hw2, hbc, hq1, hq2]
                        all_goals repeat' (first | apply And.intro | intro _)
                        all_goals
                          refine hK39 _ ?_
                          refine hN38 _ ?_
                          refine cond_k rfl (fun hc => ?_) (fun hc => ?_)
                          · try simp only [go_sem, decide_false, decide_true, Bool.not_true, Bool.not_false, h9, hcap0, hcap1, Nat.zero_add, hal, hall, hmx, hmx2, bytesR_rows, hb0, hb1, hb2, hb3, hg0, hg1, hg2, hg3, hge, hgt3, hp0, hp1, hp2, Int.toNat_zero, Int.toNat_one, Int.reduceToNat, Int.toNat_natCast, hnn, hnn2, hw1, hw2, hbc, hq1, hq2] at hc
                            all_goals
                              refine seq_k fun N40 M40 hN40 hM40 => ?_
                              refine region_k fun K41 hK41 => ?_
                              simp only [go_sem, decide_false, decide_true, Bool.not_true, Bool.not_false, h9, hcap0, hcap1, Nat.zero_add, hal, hall, hmx, hmx2, bytesR_rows, hb0, hb1, hb2, hb3, hg0, hg1, hg2, hg3, hge, hgt3, hp0, hp1, hp2, Int.toNat_zero, Int.toNat_one, Int.reduceToNat, Int.toNat_natCast, hnn, hnn2, hw1, hw2, hbc, hq1, hq2]
                              all_goals repeat' (first | apply And.intro | intro _)
                              all_goals
                                refine hK41 _ ?_
                                refine hN40 _ ?_
                                refine ret_k ?_
                                refine br37 _ ?_
                                refine hM36 _ _ ?_
                                refine br33 _ ?_
                                refine hM12 _ _ ?_
                                refine br11 _ ?_
                                refine hM10 _ _ ?_
                                simp only [go_sem, decide_false, decide_true, Bool.not_true, Bool.not_false, h9, hcap0, hcap1, Nat.zero_add, hal, hall, hmx, hmx2, bytesR_rows, hb0, hb1, hb2, hb3, hg0, hg1, hg2, hg3, hge, hgt3, hp0, hp1, hp2, Int.toNat_zero, Int.toNat_one, Int.reduceToNat, Int.toNat_natCast, hnn, hnn2, hw1, hw2, hbc, hq1, hq2]
                                all_goals (rw [hfp, hfe]; exact feed_bad)
                          · exfalso; revert hc; simp [go_sem, decide_false, decide_true, Bool.not_true, Bool.not_false, h9, hcap0, hcap1, Nat.zero_add, hal, hall, hmx, hmx2, bytesR_rows, hb0, hb1, hb2, hb3, hg0, hg1, hg2, hg3, hge, hgt3, hp0, hp1, hp2, Int.toNat_zero, Int.toNat_one, Int.reduceToNat, Int.toNat_natCast, hnn, hnn2, hw1, hw2, hbc, hq1, hq2]
                  · exfalso; revert hc; simp [go_sem, decide_false, decide_true, Bool.not_true, Bool.not_false, h9, hcap0, hcap1, Nat.zero_add, hal, hall, hmx, hmx2, bytesR_rows, hb0, hb1, hb2, hb3, hg0, hg1, hg2, hg3, hge, hgt3, hp0, hp1, hp2, Int.toNat_zero, Int.toNat_one, Int.reduceToNat, Int.toNat_natCast, hnn, hnn2, hw1, hw2, hbc, hq1, hq2]
              · simp only [fV_nil, fM_nil, List.cons_append, List.nil_append]
                have hfe := feed_fault hv hs (hf_size hk1 hk2 hnz) (by decide)
                obtain ⟨b0, hb0⟩ : ∃ b, bt.getD 0 0 = b := ⟨_, rfl⟩
                obtain ⟨b1, hb1⟩ : ∃ b, bt.getD 1 0 = b := ⟨_, rfl⟩
                obtain ⟨b2, hb2⟩ : ∃ b, bt.getD 2 0 = b := ⟨_, rfl⟩
                obtain ⟨b3, hb3⟩ : ∃ b, bt.getD 3 0 = b := ⟨_, rfl⟩
                have hg0 := rowG (bs := bt) (i := 0) (by omega) hb0
                have hg1 := rowG (bs := bt) (i := 1) (by omega) hb1
                have hg2 := rowG (bs := bt) (i := 2) (by omega) hb2
                have hg3 := rowG (bs := bt) (i := 3) (by omega) hb3
                obtain ⟨n, hn⟩ : ∃ x, nOf bt = x := ⟨_, rfl⟩
                have hk0 : kOf bt = b0.toNat := by rw [kOf, hb0]
                have hn0 : 256 * b2.toNat + b3.toNat = n := by rw [← hn, nOf, hb2, hb3]
                have hnl : n < 65536 := hn ▸ nOf_lt bt
                have hl0 := b0.toNat_lt
                have hl1 := b1.toNat_lt
                have hl2 := b2.toNat_lt
                have hl3 := b3.toNat_lt
                have hid : b1.toNat ≤ 255 := by omega
                have hge : (4 : Int) ≤ ((bt.length : Nat) : Int) := by omega
                have hgt3 : (3 : Int) < ((bt.length : Nat) : Int) := by omega
                have hp0 : (0 : Int) < ((bt.length : Nat) : Int) := by omega
                have hp1 : (1 : Int) < ((bt.length : Nat) : Int) := by omega
                have hp2 : (2 : Int) < ((bt.length : Nat) : Int) := by omega
                have hlo : bt.length ≤ all.length := by have := hv.2.2; simp only at this; omega
                rw [hk0] at hk1 hk2
                rw [hn] at hnz
                have hq1 : (b0 < 1) = False := eq_false fun h => by have := UInt8.lt_iff_toNat_lt.mp h; simp at this; omega
                have hq2 : (5 < b0) = False := eq_false fun h => by have := UInt8.lt_iff_toNat_lt.mp h; simp at this; omega
                have hq3 : (900 : Int) < ((n : Nat) : Int) := by omega
                obtain ⟨hnn, hnn2, hw1, hw2, hcap⟩ : ior (ishl ((b2.toNat : Nat) : Int) (UInt64.toNat 8)) ((b3.toNat : Nat) : Int) = ((n : Nat) : Int) ∧ Go.RowKit.wrap64 (Go.RowKit.wrap64 (((b2.toNat : Nat) : Int) * 256) + ((b3.toNat : Nat) : Int)) = ((n : Nat) : Int) ∧ Go.RowKit.wrap64 (4 + ((n : Nat) : Int)) = ((n + 4 : Nat) : Int) ∧ Go.RowKit.wrap64 (((bt.length : Nat) : Int) - 4) = ((bt.length - 4 : Nat) : Int) ∧ (0 + 1) * 40 ≤ 140737488355328 := ⟨n_shl hl2 hl3 hn0, n_mul hl2 hl3 hn0, wnat (by omega) (by omega), wnat (by omega) (by omega), by omega⟩
                have hbc : bt.length ≤ 140737488355328 := by clear hnn hnn2 hw1 hw2 hcap; omega
                
                refine seq_k fun N42 M42 hN42 hM42 => ?_
                refine seq_k fun N43 M43 hN43 hM43 => ?_
                refine region_k fun K44 hK44 => ?_
                simp only [go_sem, decide_false, decide_true, Bool.not_true, Bool.not_false, h9, hcap0, hcap1, Nat.zero_add, hal, hall, hmx, hmx2, bytesR_rows, hb0, hb1, hb2, hb3, hg0, hg1, hg2, hg3, hge, hgt3, hp0, hp1, hp2, Int.toNat_zero, Int.toNat_one, Int.reduceToNat, Int.toNat_natCast, hnn, hnn2, hw1, hw2, hbc, hq1, hq2, hq3]
                all_goals repeat' (first | apply And.intro | intro _)
                all_goals
                  refine hK44 _ ?_
                  refine hN43 _ ?_
                  refine cond_k rfl (fun hc => ?_) (fun hc => ?_)
                  · try simp only [go_sem, decide_false, decide_true, Bool.not_true, Bool.not_false, h9, hcap0, hcap1, Nat.zero_add, hal, hall, hmx, hmx2, bytesR_rows, hb0, hb1, hb2, hb3, hg0, hg1, hg2, hg3, hge, hgt3, hp0, hp1, hp2, Int.toNat_zero, Int.toNat_one, Int.reduceToNat, Int.toNat_natCast, hnn, hnn2, hw1, hw2, hbc, hq1, hq2, hq3] at hc
                    all_goals
                      refine skip_k ?_
                      refine hN42 _ ?_
                      refine block_k fun B45 bn45 bx45 br45 bi45 => ?_
                      refine seq_k fun N46 M46 hN46 hM46 => ?_
                      refine draw_k [21, 22, 23, 24, 25, 26, 27, 28, 9] [0, 1, 3, 7, 0, 16, 48, 127, 255] [] mixed (by kernel_rfl) (by simp only [go_sem]) fun K47 hK47 => ?_
                      simp only [go_sem, decide_false, decide_true, Bool.not_true, Bool.not_false, h9, hcap0, hcap1, Nat.zero_add, hal, hall, hmx, hmx2, bytesR_rows, hb0, hb1, hb2, hb3, hg0, hg1, hg2, hg3, hge, hgt3, hp0, hp1, hp2, Int.toNat_zero, Int.toNat_one, Int.reduceToNat, Int.toNat_natCast, hnn, hnn2, hw1, hw2, hbc, hq1, hq2, hq3]
                      all_goals repeat' (first | apply And.intro | intro _)
                      all_goals
                        refine hK47 _ _ ?_ ?_
                        · first | trivial | (simp only [go_sem]; done) | (simp only [go_sem]; simp; done) | (simp only [go_sem]; simp; simp only [go_sem])
                        refine hN46 _ ?_
                        refine seq_k fun N48 M48 hN48 hM48 => ?_
                        refine block_k fun B49 bn49 bx49 br49 bi49 => ?_
                        refine seq_k fun N50 M50 hN50 hM50 => ?_
                        refine region_k fun K51 hK51 => ?_
                        simp only [go_sem, decide_false, decide_true, Bool.not_true, Bool.not_false, h9, hcap0, hcap1, Nat.zero_add, hal, hall, hmx, hmx2, bytesR_rows, hb0, hb1, hb2, hb3, hg0, hg1, hg2, hg3, hge, hgt3, hp0, hp1, hp2, Int.toNat_zero, Int.toNat_one, Int.reduceToNat, Int.toNat_natCast, hnn, hnn2, hw1, hw2, hbc, hq1, hq2, hq3]
                        all_goals repeat' (first | apply And.intro | intro _)
                        all_goals
                          refine hK51 _ ?_
                          refine hN50 _ ?_
                          refine cond_k rfl (fun hc => ?_) (fun hc => ?_)
                          · exfalso; revert hc; simp [go_sem, decide_false, decide_true, Bool.not_true, Bool.not_false, h9, hcap0, hcap1, Nat.zero_add, hal, hall, hmx, hmx2, bytesR_rows, hb0, hb1, hb2, hb3, hg0, hg1, hg2, hg3, hge, hgt3, hp0, hp1, hp2, Int.toNat_zero, Int.toNat_one, Int.reduceToNat, Int.toNat_natCast, hnn, hnn2, hw1, hw2, hbc, hq1, hq2, hq3]
                          · try simp only [go_sem, decide_false, decide_true, Bool.not_true, Bool.not_false, h9, hcap0, hcap1, Nat.zero_add, hal, hall, hmx, hmx2, bytesR_rows, hb0, hb1, hb2, hb3, hg0, hg1, hg2, hg3, hge, hgt3, hp0, hp1, hp2, Int.toNat_zero, Int.toNat_one, Int.reduceToNat, Int.toNat_natCast, hnn, hnn2, hw1, hw2, hbc, hq1, hq2, hq3] at hc
                            all_goals
                              refine seq_k fun N52 M52 hN52 hM52 => ?_
                              refine region_k fun K53 hK53 => ?_
                              simp only [go_sem, decide_false, decide_true, Bool.not_true, Bool.not_false, h9, hcap0, hcap1, Nat.zero_add, hal, hall, hmx, hmx2, bytesR_rows, hb0, hb1, hb2, hb3, hg0, hg1, hg2, hg3, hge, hgt3, hp0, hp1, hp2, Int.toNat_zero, Int.toNat_one, Int.reduceToNat, Int.toNat_natCast, hnn, hnn2, hw1, hw2, hbc, hq1, hq2, hq3]
                              all_goals repeat' (first | apply And.intro | intro _)
                              all_goals
                                refine hK53 _ ?_
                                refine hN52 _ ?_
                                refine cond_k rfl (fun hc => ?_) (fun hc => ?_)
                                · try simp only [go_sem, decide_false, decide_true, Bool.not_true, Bool.not_false, h9, hcap0, hcap1, Nat.zero_add, hal, hall, hmx, hmx2, bytesR_rows, hb0, hb1, hb2, hb3, hg0, hg1, hg2, hg3, hge, hgt3, hp0, hp1, hp2, Int.toNat_zero, Int.toNat_one, Int.reduceToNat, Int.toNat_natCast, hnn, hnn2, hw1, hw2, hbc, hq1, hq2, hq3] at hc
                                  all_goals
                                    refine seq_k fun N54 M54 hN54 hM54 => ?_
                                    refine region_k fun K55 hK55 => ?_
                                    simp only [go_sem, decide_false, decide_true, Bool.not_true, Bool.not_false, h9, hcap0, hcap1, Nat.zero_add, hal, hall, hmx, hmx2, bytesR_rows, hb0, hb1, hb2, hb3, hg0, hg1, hg2, hg3, hge, hgt3, hp0, hp1, hp2, Int.toNat_zero, Int.toNat_one, Int.reduceToNat, Int.toNat_natCast, hnn, hnn2, hw1, hw2, hbc, hq1, hq2, hq3]
                                    all_goals repeat' (first | apply And.intro | intro _)
                                    all_goals
                                      refine hK55 _ ?_
                                      refine hN54 _ ?_
                                      refine ret_k ?_
                                      refine br49 _ ?_
                                      refine hM48 _ _ ?_
                                      refine br45 _ ?_
                                      refine hM12 _ _ ?_
                                      refine br11 _ ?_
                                      refine hM10 _ _ ?_
                                      simp only [go_sem, decide_false, decide_true, Bool.not_true, Bool.not_false, h9, hcap0, hcap1, Nat.zero_add, hal, hall, hmx, hmx2, bytesR_rows, hb0, hb1, hb2, hb3, hg0, hg1, hg2, hg3, hge, hgt3, hp0, hp1, hp2, Int.toNat_zero, Int.toNat_one, Int.reduceToNat, Int.toNat_natCast, hnn, hnn2, hw1, hw2, hbc, hq1, hq2, hq3]
                                      all_goals (rw [hfp, hfe]; exact feed_bad)
                                · exfalso; revert hc; simp [go_sem, decide_false, decide_true, Bool.not_true, Bool.not_false, h9, hcap0, hcap1, Nat.zero_add, hal, hall, hmx, hmx2, bytesR_rows, hb0, hb1, hb2, hb3, hg0, hg1, hg2, hg3, hge, hgt3, hp0, hp1, hp2, Int.toNat_zero, Int.toNat_one, Int.reduceToNat, Int.toNat_natCast, hnn, hnn2, hw1, hw2, hbc, hq1, hq2, hq3]
                  · exfalso; revert hc; simp [go_sem, decide_false, decide_true, Bool.not_true, Bool.not_false, h9, hcap0, hcap1, Nat.zero_add, hal, hall, hmx, hmx2, bytesR_rows, hb0, hb1, hb2, hb3, hg0, hg1, hg2, hg3, hge, hgt3, hp0, hp1, hp2, Int.toNat_zero, Int.toNat_one, Int.reduceToNat, Int.toNat_natCast, hnn, hnn2, hw1, hw2, hbc, hq1, hq2, hq3]
              · simp only [fV_nil, fM_nil, List.cons_append, List.nil_append]
                have hfe := feed_fault hv hs (hf_form hk hn1 hnz) (by decide)
                obtain ⟨b0, hb0⟩ : ∃ b, bt.getD 0 0 = b := ⟨_, rfl⟩
                obtain ⟨b1, hb1⟩ : ∃ b, bt.getD 1 0 = b := ⟨_, rfl⟩
                obtain ⟨b2, hb2⟩ : ∃ b, bt.getD 2 0 = b := ⟨_, rfl⟩
                obtain ⟨b3, hb3⟩ : ∃ b, bt.getD 3 0 = b := ⟨_, rfl⟩
                have hg0 := rowG (bs := bt) (i := 0) (by omega) hb0
                have hg1 := rowG (bs := bt) (i := 1) (by omega) hb1
                have hg2 := rowG (bs := bt) (i := 2) (by omega) hb2
                have hg3 := rowG (bs := bt) (i := 3) (by omega) hb3
                obtain ⟨n, hn⟩ : ∃ x, nOf bt = x := ⟨_, rfl⟩
                have hk0 : kOf bt = b0.toNat := by rw [kOf, hb0]
                have hn0 : 256 * b2.toNat + b3.toNat = n := by rw [← hn, nOf, hb2, hb3]
                have hnl : n < 65536 := hn ▸ nOf_lt bt
                have hl0 := b0.toNat_lt
                have hl1 := b1.toNat_lt
                have hl2 := b2.toNat_lt
                have hl3 := b3.toNat_lt
                have hid : b1.toNat ≤ 255 := by omega
                have hge : (4 : Int) ≤ ((bt.length : Nat) : Int) := by omega
                have hgt3 : (3 : Int) < ((bt.length : Nat) : Int) := by omega
                have hp0 : (0 : Int) < ((bt.length : Nat) : Int) := by omega
                have hp1 : (1 : Int) < ((bt.length : Nat) : Int) := by omega
                have hp2 : (2 : Int) < ((bt.length : Nat) : Int) := by omega
                have hlo : bt.length ≤ all.length := by have := hv.2.2; simp only at this; omega
                rw [hk0] at hk
                rw [hn] at hn1 hnz
                have hk1 : 1 ≤ b0.toNat := by omega
                have hk2 : b0.toNat ≤ 5 := by omega
                have hq1 : (b0 < 1) = False := eq_false fun h => by have := UInt8.lt_iff_toNat_lt.mp h; simp at this; omega
                have hq2 : (5 < b0) = False := eq_false fun h => by have := UInt8.lt_iff_toNat_lt.mp h; simp at this; omega
                have hq3 : ¬ (900 : Int) < ((n : Nat) : Int) := by omega
                have hq4 : (((b0.toNat : Nat) : Int) = 5) = True := eq_true (by omega)
                have hq5 : (0 : Int) < ((n : Nat) : Int) := by omega
                have hq6 : (b0 = 5) = True := eq_true (UInt8.toNat_inj.mp hk)
                obtain ⟨hnn, hnn2, hw1, hw2, hcap⟩ : ior (ishl ((b2.toNat : Nat) : Int) (UInt64.toNat 8)) ((b3.toNat : Nat) : Int) = ((n : Nat) : Int) ∧ Go.RowKit.wrap64 (Go.RowKit.wrap64 (((b2.toNat : Nat) : Int) * 256) + ((b3.toNat : Nat) : Int)) = ((n : Nat) : Int) ∧ Go.RowKit.wrap64 (4 + ((n : Nat) : Int)) = ((n + 4 : Nat) : Int) ∧ Go.RowKit.wrap64 (((bt.length : Nat) : Int) - 4) = ((bt.length - 4 : Nat) : Int) ∧ (0 + 1) * 40 ≤ 140737488355328 := ⟨n_shl hl2 hl3 hn0, n_mul hl2 hl3 hn0, wnat (by omega) (by omega), wnat (by omega) (by omega), by omega⟩
                have hbc : bt.length ≤ 140737488355328 := by clear hnn hnn2 hw1 hw2 hcap; omega
                
                refine seq_k fun N56 M56 hN56 hM56 => ?_
                refine seq_k fun N57 M57 hN57 hM57 => ?_
                refine region_k fun K58 hK58 => ?_
                simp only [go_sem, decide_false, decide_true, Bool.not_true, Bool.not_false, h9, hcap0, hcap1, Nat.zero_add, hal, hall, hmx, hmx2, bytesR_rows, hb0, hb1, hb2, hb3, hg0, hg1, hg2, hg3, hge, hgt3, hp0, hp1, hp2, Int.toNat_zero, Int.toNat_one, Int.reduceToNat, Int.toNat_natCast, hnn, hnn2, hw1, hw2, hbc, hq1, hq2, hq3, hq4, hq5, hq6]
                all_goals repeat' (first | apply And.intro | intro _)
                all_goals
                  refine hK58 _ ?_
                  refine hN57 _ ?_
                  refine cond_k rfl (fun hc => ?_) (fun hc => ?_)
                  · try simp only [go_sem, decide_false, decide_true, Bool.not_true, Bool.not_false, h9, hcap0, hcap1, Nat.zero_add, hal, hall, hmx, hmx2, bytesR_rows, hb0, hb1, hb2, hb3, hg0, hg1, hg2, hg3, hge, hgt3, hp0, hp1, hp2, Int.toNat_zero, Int.toNat_one, Int.reduceToNat, Int.toNat_natCast, hnn, hnn2, hw1, hw2, hbc, hq1, hq2, hq3, hq4, hq5, hq6] at hc
                    all_goals
                      refine skip_k ?_
                      refine hN56 _ ?_
                      refine block_k fun B59 bn59 bx59 br59 bi59 => ?_
                      refine seq_k fun N60 M60 hN60 hM60 => ?_
                      refine draw_k [21, 22, 23, 24, 25, 26, 27, 28, 9] [0, 1, 3, 7, 0, 16, 48, 127, 255] [] mixed (by kernel_rfl) (by simp only [go_sem]) fun K61 hK61 => ?_
                      simp only [go_sem, decide_false, decide_true, Bool.not_true, Bool.not_false, h9, hcap0, hcap1, Nat.zero_add, hal, hall, hmx, hmx2, bytesR_rows, hb0, hb1, hb2, hb3, hg0, hg1, hg2, hg3, hge, hgt3, hp0, hp1, hp2, Int.toNat_zero, Int.toNat_one, Int.reduceToNat, Int.toNat_natCast, hnn, hnn2, hw1, hw2, hbc, hq1, hq2, hq3, hq4, hq5, hq6]
                      all_goals repeat' (first | apply And.intro | intro _)
                      all_goals
                        refine hK61 _ _ ?_ ?_
                        · first | trivial | (simp only [go_sem]; done) | (simp only [go_sem]; simp; done) | (simp only [go_sem]; simp; simp only [go_sem])
                        refine hN60 _ ?_
                        refine seq_k fun N62 M62 hN62 hM62 => ?_
                        refine block_k fun B63 bn63 bx63 br63 bi63 => ?_
                        refine seq_k fun N64 M64 hN64 hM64 => ?_
                        refine region_k fun K65 hK65 => ?_
                        simp only [go_sem, decide_false, decide_true, Bool.not_true, Bool.not_false, h9, hcap0, hcap1, Nat.zero_add, hal, hall, hmx, hmx2, bytesR_rows, hb0, hb1, hb2, hb3, hg0, hg1, hg2, hg3, hge, hgt3, hp0, hp1, hp2, Int.toNat_zero, Int.toNat_one, Int.reduceToNat, Int.toNat_natCast, hnn, hnn2, hw1, hw2, hbc, hq1, hq2, hq3, hq4, hq5, hq6]
                        all_goals repeat' (first | apply And.intro | intro _)
                        all_goals
                          refine hK65 _ ?_
                          refine hN64 _ ?_
                          refine cond_k rfl (fun hc => ?_) (fun hc => ?_)
                          · exfalso; revert hc; simp [go_sem, decide_false, decide_true, Bool.not_true, Bool.not_false, h9, hcap0, hcap1, Nat.zero_add, hal, hall, hmx, hmx2, bytesR_rows, hb0, hb1, hb2, hb3, hg0, hg1, hg2, hg3, hge, hgt3, hp0, hp1, hp2, Int.toNat_zero, Int.toNat_one, Int.reduceToNat, Int.toNat_natCast, hnn, hnn2, hw1, hw2, hbc, hq1, hq2, hq3, hq4, hq5, hq6]
                          · try simp only [go_sem, decide_false, decide_true, Bool.not_true, Bool.not_false, h9, hcap0, hcap1, Nat.zero_add, hal, hall, hmx, hmx2, bytesR_rows, hb0, hb1, hb2, hb3, hg0, hg1, hg2, hg3, hge, hgt3, hp0, hp1, hp2, Int.toNat_zero, Int.toNat_one, Int.reduceToNat, Int.toNat_natCast, hnn, hnn2, hw1, hw2, hbc, hq1, hq2, hq3, hq4, hq5, hq6] at hc
                            all_goals
                              refine seq_k fun N66 M66 hN66 hM66 => ?_
                              refine region_k fun K67 hK67 => ?_
                              simp only [go_sem, decide_false, decide_true, Bool.not_true, Bool.not_false, h9, hcap0, hcap1, Nat.zero_add, hal, hall, hmx, hmx2, bytesR_rows, hb0, hb1, hb2, hb3, hg0, hg1, hg2, hg3, hge, hgt3, hp0, hp1, hp2, Int.toNat_zero, Int.toNat_one, Int.reduceToNat, Int.toNat_natCast, hnn, hnn2, hw1, hw2, hbc, hq1, hq2, hq3, hq4, hq5, hq6]
                              all_goals repeat' (first | apply And.intro | intro _)
                              all_goals
                                refine hK67 _ ?_
                                refine hN66 _ ?_
                                refine cond_k rfl (fun hc => ?_) (fun hc => ?_)
                                · exfalso; revert hc; simp [go_sem, decide_false, decide_true, Bool.not_true, Bool.not_false, h9, hcap0, hcap1, Nat.zero_add, hal, hall, hmx, hmx2, bytesR_rows, hb0, hb1, hb2, hb3, hg0, hg1, hg2, hg3, hge, hgt3, hp0, hp1, hp2, Int.toNat_zero, Int.toNat_one, Int.reduceToNat, Int.toNat_natCast, hnn, hnn2, hw1, hw2, hbc, hq1, hq2, hq3, hq4, hq5, hq6]
                                · try simp only [go_sem, decide_false, decide_true, Bool.not_true, Bool.not_false, h9, hcap0, hcap1, Nat.zero_add, hal, hall, hmx, hmx2, bytesR_rows, hb0, hb1, hb2, hb3, hg0, hg1, hg2, hg3, hge, hgt3, hp0, hp1, hp2, Int.toNat_zero, Int.toNat_one, Int.reduceToNat, Int.toNat_natCast, hnn, hnn2, hw1, hw2, hbc, hq1, hq2, hq3, hq4, hq5, hq6] at hc
                                  all_goals
                                    refine seq_k fun N68 M68 hN68 hM68 => ?_
                                    refine region_k fun K69 hK69 => ?_
                                    simp only [go_sem, decide_false, decide_true, Bool.not_true, Bool.not_false, h9, hcap0, hcap1, Nat.zero_add, hal, hall, hmx, hmx2, bytesR_rows, hb0, hb1, hb2, hb3, hg0, hg1, hg2, hg3, hge, hgt3, hp0, hp1, hp2, Int.toNat_zero, Int.toNat_one, Int.reduceToNat, Int.toNat_natCast, hnn, hnn2, hw1, hw2, hbc, hq1, hq2, hq3, hq4, hq5, hq6]
                                    all_goals repeat' (first | apply And.intro | intro _)
                                    all_goals
                                      refine hK69 _ ?_
                                      refine hN68 _ ?_
                                      refine cond_k rfl (fun hc => ?_) (fun hc => ?_)
                                      · try simp only [go_sem, decide_false, decide_true, Bool.not_true, Bool.not_false, h9, hcap0, hcap1, Nat.zero_add, hal, hall, hmx, hmx2, bytesR_rows, hb0, hb1, hb2, hb3, hg0, hg1, hg2, hg3, hge, hgt3, hp0, hp1, hp2, Int.toNat_zero, Int.toNat_one, Int.reduceToNat, Int.toNat_natCast, hnn, hnn2, hw1, hw2, hbc, hq1, hq2, hq3, hq4, hq5, hq6] at hc
                                        all_goals
                                          refine seq_k fun N70 M70 hN70 hM70 => ?_
                                          refine region_k fun K71 hK71 => ?_
                                          simp only [go_sem, decide_false, decide_true, Bool.not_true, Bool.not_false, h9, hcap0, hcap1, Nat.zero_add, hal, hall, hmx, hmx2, bytesR_rows, hb0, hb1, hb2, hb3, hg0, hg1, hg2, hg3, hge, hgt3, hp0, hp1, hp2, Int.toNat_zero, Int.toNat_one, Int.reduceToNat, Int.toNat_natCast, hnn, hnn2, hw1, hw2, hbc, hq1, hq2, hq3, hq4, hq5, hq6]
                                          all_goals repeat' (first | apply And.intro | intro _)
                                          all_goals
                                            refine hK71 _ ?_
                                            refine hN70 _ ?_
                                            refine ret_k ?_
                                            refine br63 _ ?_
                                            refine hM62 _ _ ?_
                                            refine br59 _ ?_
                                            refine hM12 _ _ ?_
                                            refine br11 _ ?_
                                            refine hM10 _ _ ?_
                                            simp only [go_sem, decide_false, decide_true, Bool.not_true, Bool.not_false, h9, hcap0, hcap1, Nat.zero_add, hal, hall, hmx, hmx2, bytesR_rows, hb0, hb1, hb2, hb3, hg0, hg1, hg2, hg3, hge, hgt3, hp0, hp1, hp2, Int.toNat_zero, Int.toNat_one, Int.reduceToNat, Int.toNat_natCast, hnn, hnn2, hw1, hw2, hbc, hq1, hq2, hq3, hq4, hq5, hq6]
                                            all_goals (rw [hfp, hfe]; exact feed_bad)
                                      · exfalso; revert hc; simp [go_sem, decide_false, decide_true, Bool.not_true, Bool.not_false, h9, hcap0, hcap1, Nat.zero_add, hal, hall, hmx, hmx2, bytesR_rows, hb0, hb1, hb2, hb3, hg0, hg1, hg2, hg3, hge, hgt3, hp0, hp1, hp2, Int.toNat_zero, Int.toNat_one, Int.reduceToNat, Int.toNat_natCast, hnn, hnn2, hw1, hw2, hbc, hq1, hq2, hq3, hq4, hq5, hq6]
                  · exfalso; revert hc; simp [go_sem, decide_false, decide_true, Bool.not_true, Bool.not_false, h9, hcap0, hcap1, Nat.zero_add, hal, hall, hmx, hmx2, bytesR_rows, hb0, hb1, hb2, hb3, hg0, hg1, hg2, hg3, hge, hgt3, hp0, hp1, hp2, Int.toNat_zero, Int.toNat_one, Int.reduceToNat, Int.toNat_natCast, hnn, hnn2, hw1, hw2, hbc, hq1, hq2, hq3, hq4, hq5, hq6]
              · simp only [fV_nil, fM_nil, List.cons_append, List.nil_append]
                have hfe := feed_wait hv hs (hf_ok hk1 (by omega) hnz (by omega)) hw
                obtain ⟨b0, hb0⟩ : ∃ b, bt.getD 0 0 = b := ⟨_, rfl⟩
                obtain ⟨b1, hb1⟩ : ∃ b, bt.getD 1 0 = b := ⟨_, rfl⟩
                obtain ⟨b2, hb2⟩ : ∃ b, bt.getD 2 0 = b := ⟨_, rfl⟩
                obtain ⟨b3, hb3⟩ : ∃ b, bt.getD 3 0 = b := ⟨_, rfl⟩
                have hg0 := rowG (bs := bt) (i := 0) (by omega) hb0
                have hg1 := rowG (bs := bt) (i := 1) (by omega) hb1
                have hg2 := rowG (bs := bt) (i := 2) (by omega) hb2
                have hg3 := rowG (bs := bt) (i := 3) (by omega) hb3
                obtain ⟨n, hn⟩ : ∃ x, nOf bt = x := ⟨_, rfl⟩
                have hk0 : kOf bt = b0.toNat := by rw [kOf, hb0]
                have hn0 : 256 * b2.toNat + b3.toNat = n := by rw [← hn, nOf, hb2, hb3]
                have hnl : n < 65536 := hn ▸ nOf_lt bt
                have hl0 := b0.toNat_lt
                have hl1 := b1.toNat_lt
                have hl2 := b2.toNat_lt
                have hl3 := b3.toNat_lt
                have hid : b1.toNat ≤ 255 := by omega
                have hge : (4 : Int) ≤ ((bt.length : Nat) : Int) := by omega
                have hgt3 : (3 : Int) < ((bt.length : Nat) : Int) := by omega
                have hp0 : (0 : Int) < ((bt.length : Nat) : Int) := by omega
                have hp1 : (1 : Int) < ((bt.length : Nat) : Int) := by omega
                have hp2 : (2 : Int) < ((bt.length : Nat) : Int) := by omega
                have hlo : bt.length ≤ all.length := by have := hv.2.2; simp only at this; omega
                rw [hk0] at hk1 hk2
                rw [hn] at hnz hw
                have hq1 : (b0 < 1) = False := eq_false fun h => by have := UInt8.lt_iff_toNat_lt.mp h; simp at this; omega
                have hq2 : (5 < b0) = False := eq_false fun h => by have := UInt8.lt_iff_toNat_lt.mp h; simp at this; omega
                have hq3 : ¬ (900 : Int) < ((n : Nat) : Int) := by omega
                have hq4 : ¬ ((b0.toNat : Nat) : Int) = 5 := by omega
                have hq6 : (b0 = 5) = False := eq_false fun h => by subst h; simp at hk2
                have hq7 : ((bt.length : Nat) : Int) < ((n + 4 : Nat) : Int) := by omega
                have hq8 : ((bt.length - 4 : Nat) : Int) < ((n : Nat) : Int) := by omega
                obtain ⟨hnn, hnn2, hw1, hw2, hcap⟩ : ior (ishl ((b2.toNat : Nat) : Int) (UInt64.toNat 8)) ((b3.toNat : Nat) : Int) = ((n : Nat) : Int) ∧ Go.RowKit.wrap64 (Go.RowKit.wrap64 (((b2.toNat : Nat) : Int) * 256) + ((b3.toNat : Nat) : Int)) = ((n : Nat) : Int) ∧ Go.RowKit.wrap64 (4 + ((n : Nat) : Int)) = ((n + 4 : Nat) : Int) ∧ Go.RowKit.wrap64 (((bt.length : Nat) : Int) - 4) = ((bt.length - 4 : Nat) : Int) ∧ (0 + 1) * 40 ≤ 140737488355328 := ⟨n_shl hl2 hl3 hn0, n_mul hl2 hl3 hn0, wnat (by omega) (by omega), wnat (by omega) (by omega), by omega⟩
                have hbc : bt.length ≤ 140737488355328 := by clear hnn hnn2 hw1 hw2 hcap; omega
                
                refine seq_k fun N72 M72 hN72 hM72 => ?_
                refine seq_k fun N73 M73 hN73 hM73 => ?_
                refine region_k fun K74 hK74 => ?_
                simp only [go_sem, decide_false, decide_true, Bool.not_true, Bool.not_false, h9, hcap0, hcap1, Nat.zero_add, hal, hall, hmx, hmx2, bytesR_rows, hb0, hb1, hb2, hb3, hg0, hg1, hg2, hg3, hge, hgt3, hp0, hp1, hp2, Int.toNat_zero, Int.toNat_one, Int.reduceToNat, Int.toNat_natCast, hnn, hnn2, hw1, hw2, hbc, hq1, hq2, hq3, hq4, hq6, hq7, hq8]
                all_goals repeat' (first | apply And.intro | intro _)
                all_goals
                  refine hK74 _ ?_
                  refine hN73 _ ?_
                  refine cond_k rfl (fun hc => ?_) (fun hc => ?_)
                  · try simp only [go_sem, decide_false, decide_true, Bool.not_true, Bool.not_false, h9, hcap0, hcap1, Nat.zero_add, hal, hall, hmx, hmx2, bytesR_rows, hb0, hb1, hb2, hb3, hg0, hg1, hg2, hg3, hge, hgt3, hp0, hp1, hp2, Int.toNat_zero, Int.toNat_one, Int.reduceToNat, Int.toNat_natCast, hnn, hnn2, hw1, hw2, hbc, hq1, hq2, hq3, hq4, hq6, hq7, hq8] at hc
                    all_goals
                      refine skip_k ?_
                      refine hN72 _ ?_
                      refine block_k fun B75 bn75 bx75 br75 bi75 => ?_
                      refine seq_k fun N76 M76 hN76 hM76 => ?_
                      refine draw_k [21, 22, 23, 24, 25, 26, 27, 28, 9] [0, 1, 3, 7, 0, 16, 48, 127, 255] [] mixed (by kernel_rfl) (by simp only [go_sem]) fun K77 hK77 => ?_
                      simp only [go_sem, decide_false, decide_true, Bool.not_true, Bool.not_false, h9, hcap0, hcap1, Nat.zero_add, hal, hall, hmx, hmx2, bytesR_rows, hb0, hb1, hb2, hb3, hg0, hg1, hg2, hg3, hge, hgt3, hp0, hp1, hp2, Int.toNat_zero, Int.toNat_one, Int.reduceToNat, Int.toNat_natCast, hnn, hnn2, hw1, hw2, hbc, hq1, hq2, hq3, hq4, hq6, hq7, hq8]
                      all_goals repeat' (first | apply And.intro | intro _)
                      all_goals
                        refine hK77 _ _ ?_ ?_
                        · first | trivial | (simp only [go_sem]; done) | (simp only [go_sem]; simp; done) | (simp only [go_sem]; simp; simp only [go_sem])
                        refine hN76 _ ?_
                        refine seq_k fun N78 M78 hN78 hM78 => ?_
                        refine block_k fun B79 bn79 bx79 br79 bi79 => ?_
                        refine seq_k fun N80 M80 hN80 hM80 => ?_
                        refine region_k fun K81 hK81 => ?_
                        simp only [go_sem, decide_false, decide_true, Bool.not_true, Bool.not_false, h9, hcap0, hcap1, Nat.zero_add, hal, hall, hmx, hmx2, bytesR_rows, hb0, hb1, hb2, hb3, hg0, hg1, hg2, hg3, hge, hgt3, hp0, hp1, hp2, Int.toNat_zero, Int.toNat_one, Int.reduceToNat, Int.toNat_natCast, hnn, hnn2, hw1, hw2, hbc, hq1, hq2, hq3, hq4, hq6, hq7, hq8]
                        all_goals repeat' (first | apply And.intro | intro _)
                        all_goals
                          refine hK81 _ ?_
                          refine hN80 _ ?_
                          refine cond_k rfl (fun hc => ?_) (fun hc => ?_)
                          · exfalso; revert hc; simp [go_sem, decide_false, decide_true, Bool.not_true, Bool.not_false, h9, hcap0, hcap1, Nat.zero_add, hal, hall, hmx, hmx2, bytesR_rows, hb0, hb1, hb2, hb3, hg0, hg1, hg2, hg3, hge, hgt3, hp0, hp1, hp2, Int.toNat_zero, Int.toNat_one, Int.reduceToNat, Int.toNat_natCast, hnn, hnn2, hw1, hw2, hbc, hq1, hq2, hq3, hq4, hq6, hq7, hq8]
                          · try simp only [go_sem, decide_false, decide_true, Bool.not_true, Bool.not_false, h9, hcap0, hcap1, Nat.zero_add, hal, hall, hmx, hmx2, bytesR_rows, hb0, hb1, hb2, hb3, hg0, hg1, hg2, hg3, hge, hgt3, hp0, hp1, hp2, Int.toNat_zero, Int.toNat_one, Int.reduceToNat, Int.toNat_natCast, hnn, hnn2, hw1, hw2, hbc, hq1, hq2, hq3, hq4, hq6, hq7, hq8] at hc
                            all_goals
                              refine seq_k fun N82 M82 hN82 hM82 => ?_
                              refine region_k fun K83 hK83 => ?_
                              simp only [go_sem, decide_false, decide_true, Bool.not_true, Bool.not_false, h9, hcap0, hcap1, Nat.zero_add, hal, hall, hmx, hmx2, bytesR_rows, hb0, hb1, hb2, hb3, hg0, hg1, hg2, hg3, hge, hgt3, hp0, hp1, hp2, Int.toNat_zero, Int.toNat_one, Int.reduceToNat, Int.toNat_natCast, hnn, hnn2, hw1, hw2, hbc, hq1, hq2, hq3, hq4, hq6, hq7, hq8]
                              all_goals repeat' (first | apply And.intro | intro _)
                              all_goals
                                refine hK83 _ ?_
                                refine hN82 _ ?_
                                refine cond_k rfl (fun hc => ?_) (fun hc => ?_)
                                · exfalso; revert hc; simp [go_sem, decide_false, decide_true, Bool.not_true, Bool.not_false, h9, hcap0, hcap1, Nat.zero_add, hal, hall, hmx, hmx2, bytesR_rows, hb0, hb1, hb2, hb3, hg0, hg1, hg2, hg3, hge, hgt3, hp0, hp1, hp2, Int.toNat_zero, Int.toNat_one, Int.reduceToNat, Int.toNat_natCast, hnn, hnn2, hw1, hw2, hbc, hq1, hq2, hq3, hq4, hq6, hq7, hq8]
                                · try simp only [go_sem, decide_false, decide_true, Bool.not_true, Bool.not_false, h9, hcap0, hcap1, Nat.zero_add, hal, hall, hmx, hmx2, bytesR_rows, hb0, hb1, hb2, hb3, hg0, hg1, hg2, hg3, hge, hgt3, hp0, hp1, hp2, Int.toNat_zero, Int.toNat_one, Int.reduceToNat, Int.toNat_natCast, hnn, hnn2, hw1, hw2, hbc, hq1, hq2, hq3, hq4, hq6, hq7, hq8] at hc
                                  all_goals
                                    refine seq_k fun N84 M84 hN84 hM84 => ?_
                                    refine region_k fun K85 hK85 => ?_
                                    simp only [go_sem, decide_false, decide_true, Bool.not_true, Bool.not_false, h9, hcap0, hcap1, Nat.zero_add, hal, hall, hmx, hmx2, bytesR_rows, hb0, hb1, hb2, hb3, hg0, hg1, hg2, hg3, hge, hgt3, hp0, hp1, hp2, Int.toNat_zero, Int.toNat_one, Int.reduceToNat, Int.toNat_natCast, hnn, hnn2, hw1, hw2, hbc, hq1, hq2, hq3, hq4, hq6, hq7, hq8]
                                    all_goals repeat' (first | apply And.intro | intro _)
                                    all_goals
                                      refine hK85 _ ?_
                                      refine hN84 _ ?_
                                      refine cond_k rfl (fun hc => ?_) (fun hc => ?_)
                                      · exfalso; revert hc; simp [go_sem, decide_false, decide_true, Bool.not_true, Bool.not_false, h9, hcap0, hcap1, Nat.zero_add, hal, hall, hmx, hmx2, bytesR_rows, hb0, hb1, hb2, hb3, hg0, hg1, hg2, hg3, hge, hgt3, hp0, hp1, hp2, Int.toNat_zero, Int.toNat_one, Int.reduceToNat, Int.toNat_natCast, hnn, hnn2, hw1, hw2, hbc, hq1, hq2, hq3, hq4, hq6, hq7, hq8]
                                      · try simp only [go_sem, decide_false, decide_true, Bool.not_true, Bool.not_false, h9, hcap0, hcap1, Nat.zero_add, hal, hall, hmx, hmx2, bytesR_rows, hb0, hb1, hb2, hb3, hg0, hg1, hg2, hg3, hge, hgt3, hp0, hp1, hp2, Int.toNat_zero, Int.toNat_one, Int.reduceToNat, Int.toNat_natCast, hnn, hnn2, hw1, hw2, hbc, hq1, hq2, hq3, hq4, hq6, hq7, hq8] at hc
                                        all_goals
                                          refine skip_k ?_
                                          refine bn79 _ ?_
                                          refine hN78 _ ?_
                                          refine seq_k fun N86 M86 hN86 hM86 => ?_
                                          refine seq_k fun N87 M87 hN87 hM87 => ?_
                                          refine region_k fun K88 hK88 => ?_
                                          simp only [go_sem, decide_false, decide_true, Bool.not_true, Bool.not_false, h9, hcap0, hcap1, Nat.zero_add, hal, hall, hmx, hmx2, bytesR_rows, hb0, hb1, hb2, hb3, hg0, hg1, hg2, hg3, hge, hgt3, hp0, hp1, hp2, Int.toNat_zero, Int.toNat_one, Int.reduceToNat, Int.toNat_natCast, hnn, hnn2, hw1, hw2, hbc, hq1, hq2, hq3, hq4, hq6, hq7, hq8]
                                          all_goals repeat' (first | apply And.intro | intro _)
                                          all_goals
                                            refine hK88 _ ?_
                                            refine hN87 _ ?_
                                            refine cond_k rfl (fun hc => ?_) (fun hc => ?_)
                                            · try simp only [go_sem, decide_false, decide_true, Bool.not_true, Bool.not_false, h9, hcap0, hcap1, Nat.zero_add, hal, hall, hmx, hmx2, bytesR_rows, hb0, hb1, hb2, hb3, hg0, hg1, hg2, hg3, hge, hgt3, hp0, hp1, hp2, Int.toNat_zero, Int.toNat_one, Int.reduceToNat, Int.toNat_natCast, hnn, hnn2, hw1, hw2, hbc, hq1, hq2, hq3, hq4, hq6, hq7, hq8] at hc
                                              all_goals
                                                refine exit_k ?_
                                                refine hM86 _ _ ?_
                                                refine bi75 _ _ (by decide) ?_
                                                refine hM12 _ _ ?_
                                                refine bx11 _ ?_
                                                refine hN10 _ ?_
                                                refine seq_k fun N89 M89 hN89 hM89 => ?_
                                                refine region_k fun K90 hK90 => ?_
                                                simp only [go_sem, decide_false, decide_true, Bool.not_true, Bool.not_false, h9, hcap0, hcap1, Nat.zero_add, hal, hall, hmx, hmx2, bytesR_rows, hb0, hb1, hb2, hb3, hg0, hg1, hg2, hg3, hge, hgt3, hp0, hp1, hp2, Int.toNat_zero, Int.toNat_one, Int.reduceToNat, Int.toNat_natCast, hnn, hnn2, hw1, hw2, hbc, hq1, hq2, hq3, hq4, hq6, hq7, hq8]
                                                all_goals repeat' (first | apply And.intro | intro _)
                                                all_goals
                                                  refine hK90 _ ?_
                                                  refine hN89 _ ?_
                                                  refine ret_k ?_
                                                  simp only [go_sem, decide_false, decide_true, Bool.not_true, Bool.not_false, h9, hcap0, hcap1, Nat.zero_add, hal, hall, hmx, hmx2, bytesR_rows, hb0, hb1, hb2, hb3, hg0, hg1, hg2, hg3, hge, hgt3, hp0, hp1, hp2, Int.toNat_zero, Int.toNat_one, Int.reduceToNat, Int.toNat_natCast, hnn, hnn2, hw1, hw2, hbc, hq1, hq2, hq3, hq4, hq6, hq7, hq8]
                                                  all_goals (rw [hfp, hfe]; exact feed_end_nil (b := true) (by simp [look]) rfl)
                                            · exfalso; revert hc; simp [go_sem, decide_false, decide_true, Bool.not_true, Bool.not_false, h9, hcap0, hcap1, Nat.zero_add, hal, hall, hmx, hmx2, bytesR_rows, hb0, hb1, hb2, hb3, hg0, hg1, hg2, hg3, hge, hgt3, hp0, hp1, hp2, Int.toNat_zero, Int.toNat_one, Int.reduceToNat, Int.toNat_natCast, hnn, hnn2, hw1, hw2, hbc, hq1, hq2, hq3, hq4, hq6, hq7, hq8]
                  · exfalso; revert hc; simp [go_sem, decide_false, decide_true, Bool.not_true, Bool.not_false, h9, hcap0, hcap1, Nat.zero_add, hal, hall, hmx, hmx2, bytesR_rows, hb0, hb1, hb2, hb3, hg0, hg1, hg2, hg3, hge, hgt3, hp0, hp1, hp2, Int.toNat_zero, Int.toNat_one, Int.reduceToNat, Int.toNat_natCast, hnn, hnn2, hw1, hw2, hbc, hq1, hq2, hq3, hq4, hq6, hq7, hq8]
              · simp only [fV_nil, fM_nil, List.cons_append, List.nil_append]
                have hnx := feed_next hv hs (hf_ok hk1 (by omega) hnz (by omega)) hw
                obtain ⟨b0, hb0⟩ : ∃ b, bt.getD 0 0 = b := ⟨_, rfl⟩
                obtain ⟨b1, hb1⟩ : ∃ b, bt.getD 1 0 = b := ⟨_, rfl⟩
                obtain ⟨b2, hb2⟩ : ∃ b, bt.getD 2 0 = b := ⟨_, rfl⟩
                obtain ⟨b3, hb3⟩ : ∃ b, bt.getD 3 0 = b := ⟨_, rfl⟩
                have hg0 := rowG (bs := bt) (i := 0) (by omega) hb0
                have hg1 := rowG (bs := bt) (i := 1) (by omega) hb1
                have hg2 := rowG (bs := bt) (i := 2) (by omega) hb2
                have hg3 := rowG (bs := bt) (i := 3) (by omega) hb3
                obtain ⟨n, hn⟩ : ∃ x, nOf bt = x := ⟨_, rfl⟩
                have hk0 : kOf bt = b0.toNat := by rw [kOf, hb0]
                have hn0 : 256 * b2.toNat + b3.toNat = n := by rw [← hn, nOf, hb2, hb3]
                have hnl : n < 65536 := hn ▸ nOf_lt bt
                have hl0 := b0.toNat_lt
                have hl1 := b1.toNat_lt
                have hl2 := b2.toNat_lt
                have hl3 := b3.toNat_lt
                have hid : b1.toNat ≤ 255 := by omega
                have hge : (4 : Int) ≤ ((bt.length : Nat) : Int) := by omega
                have hgt3 : (3 : Int) < ((bt.length : Nat) : Int) := by omega
                have hp0 : (0 : Int) < ((bt.length : Nat) : Int) := by omega
                have hp1 : (1 : Int) < ((bt.length : Nat) : Int) := by omega
                have hp2 : (2 : Int) < ((bt.length : Nat) : Int) := by omega
                have hlo : bt.length ≤ all.length := by have := hv.2.2; simp only at this; omega
                rw [hk0] at hk1 hk2
                rw [hn] at hnz hw hnx
                have hq1 : (b0 < 1) = False := eq_false fun h => by have := UInt8.lt_iff_toNat_lt.mp h; simp at this; omega
                have hq2 : (5 < b0) = False := eq_false fun h => by have := UInt8.lt_iff_toNat_lt.mp h; simp at this; omega
                have hq3 : ¬ (900 : Int) < ((n : Nat) : Int) := by omega
                have hq4 : ¬ ((b0.toNat : Nat) : Int) = 5 := by omega
                have hq6 : (b0 = 5) = False := eq_false fun h => by subst h; simp at hk2
                have hlt : 4 + n ≤ bt.length := by omega
                have hq7 : ¬ ((bt.length : Nat) : Int) < ((n + 4 : Nat) : Int) := by omega
                have hq8 : ¬ ((bt.length - 4 : Nat) : Int) < ((n : Nat) : Int) := by omega
                have hc6 : ((n + 4 : Nat) : Int) ≤ ((bt.length : Nat) : Int) := by omega
                have hc7 : (0 : Int) ≤ ((n + 4 : Nat) : Int) := by omega
                have hc8 : (4 : Int) ≤ ((n + 4 : Nat) : Int) := by omega
                have hd4 : n + 4 - 4 = n := by omega
                have hmi : min n (bt.length - 4) = n := by omega
                have hcap2 : n ≤ 140737488355328 := by omega
                have htk : ((bt.drop 4).take n).length = n := by rw [List.length_take, List.length_drop]; omega
                have hfr : frOf bt = ⟨b0.toNat, b1.toNat, (bt.drop 4).take n⟩ := by rw [frOf, hk0, iOf, hb1, hn]
                have hs61 := seal_bytes (k := 65) (bs := (bt.drop 4).take n) htk.symm
                obtain ⟨hnn, hnn2, hw1, hw2, hcap⟩ : ior (ishl ((b2.toNat : Nat) : Int) (UInt64.toNat 8)) ((b3.toNat : Nat) : Int) = ((n : Nat) : Int) ∧ Go.RowKit.wrap64 (Go.RowKit.wrap64 (((b2.toNat : Nat) : Int) * 256) + ((b3.toNat : Nat) : Int)) = ((n : Nat) : Int) ∧ Go.RowKit.wrap64 (4 + ((n : Nat) : Int)) = ((n + 4 : Nat) : Int) ∧ Go.RowKit.wrap64 (((bt.length : Nat) : Int) - 4) = ((bt.length - 4 : Nat) : Int) ∧ (0 + 1) * 40 ≤ 140737488355328 := ⟨n_shl hl2 hl3 hn0, n_mul hl2 hl3 hn0, wnat (by omega) (by omega), wnat (by omega) (by omega), by omega⟩
                have hbc : bt.length ≤ 140737488355328 := by clear hnn hnn2 hw1 hw2 hcap; omega
                
                refine seq_k fun N91 M91 hN91 hM91 => ?_
                refine seq_k fun N92 M92 hN92 hM92 => ?_
                refine region_k fun K93 hK93 => ?_
                simp only [go_sem, decide_false, decide_true, Bool.not_true, Bool.not_false, h9, hcap0, hcap1, Nat.zero_add, hal, hall, hmx, hmx2, bytesR_rows, hb0, hb1, hb2, hb3, hg0, hg1, hg2, hg3, hge, hgt3, hp0, hp1, hp2, Int.toNat_zero, Int.toNat_one, Int.reduceToNat, Int.toNat_natCast, hnn, hnn2, hw1, hw2, hbc, hq1, hq2, hq3, hq4, hq6, hq7, hq8, hc6, hc7, hc8, hd4, hmi, hcap2, htk, hs61, hcap, List.length_take, List.length_drop]
                all_goals repeat' (first | apply And.intro | intro _)
                all_goals
                  refine hK93 _ ?_
                  refine hN92 _ ?_
                  refine cond_k rfl (fun hc => ?_) (fun hc => ?_)
                  · try simp only [go_sem, decide_false, decide_true, Bool.not_true, Bool.not_false, h9, hcap0, hcap1, Nat.zero_add, hal, hall, hmx, hmx2, bytesR_rows, hb0, hb1, hb2, hb3, hg0, hg1, hg2, hg3, hge, hgt3, hp0, hp1, hp2, Int.toNat_zero, Int.toNat_one, Int.reduceToNat, Int.toNat_natCast, hnn, hnn2, hw1, hw2, hbc, hq1, hq2, hq3, hq4, hq6, hq7, hq8, hc6, hc7, hc8, hd4, hmi, hcap2, htk, hs61, hcap, List.length_take, List.length_drop] at hc
                    all_goals
                      refine skip_k ?_
                      refine hN91 _ ?_
                      refine block_k fun B94 bn94 bx94 br94 bi94 => ?_
                      refine seq_k fun N95 M95 hN95 hM95 => ?_
                      refine draw_k [21, 22, 23, 24, 25, 26, 27, 28, 9] [0, 1, 3, 7, 0, 16, 48, 127, 255] [] mixed (by kernel_rfl) (by simp only [go_sem]) fun K96 hK96 => ?_
                      simp only [go_sem, decide_false, decide_true, Bool.not_true, Bool.not_false, h9, hcap0, hcap1, Nat.zero_add, hal, hall, hmx, hmx2, bytesR_rows, hb0, hb1, hb2, hb3, hg0, hg1, hg2, hg3, hge, hgt3, hp0, hp1, hp2, Int.toNat_zero, Int.toNat_one, Int.reduceToNat, Int.toNat_natCast, hnn, hnn2, hw1, hw2, hbc, hq1, hq2, hq3, hq4, hq6, hq7, hq8, hc6, hc7, hc8, hd4, hmi, hcap2, htk, hs61, hcap, List.length_take, List.length_drop]
                      all_goals repeat' (first | apply And.intro | intro _)
                      all_goals
                        refine hK96 _ _ ?_ ?_
                        · first | trivial | (simp only [go_sem]; done) | (simp only [go_sem]; simp; done) | (simp only [go_sem]; simp; simp only [go_sem])
                        refine hN95 _ ?_
                        refine seq_k fun N97 M97 hN97 hM97 => ?_
                        refine block_k fun B98 bn98 bx98 br98 bi98 => ?_
                        refine seq_k fun N99 M99 hN99 hM99 => ?_
                        refine region_k fun K100 hK100 => ?_
                        simp only [go_sem, decide_false, decide_true, Bool.not_true, Bool.not_false, h9, hcap0, hcap1, Nat.zero_add, hal, hall, hmx, hmx2, bytesR_rows, hb0, hb1, hb2, hb3, hg0, hg1, hg2, hg3, hge, hgt3, hp0, hp1, hp2, Int.toNat_zero, Int.toNat_one, Int.reduceToNat, Int.toNat_natCast, hnn, hnn2, hw1, hw2, hbc, hq1, hq2, hq3, hq4, hq6, hq7, hq8, hc6, hc7, hc8, hd4, hmi, hcap2, htk, hs61, hcap, List.length_take, List.length_drop]
                        all_goals repeat' (first | apply And.intro | intro _)
                        all_goals
                          refine hK100 _ ?_
                          refine hN99 _ ?_
                          refine cond_k rfl (fun hc => ?_) (fun hc => ?_)
                          · exfalso; revert hc; simp [go_sem, decide_false, decide_true, Bool.not_true, Bool.not_false, h9, hcap0, hcap1, Nat.zero_add, hal, hall, hmx, hmx2, bytesR_rows, hb0, hb1, hb2, hb3, hg0, hg1, hg2, hg3, hge, hgt3, hp0, hp1, hp2, Int.toNat_zero, Int.toNat_one, Int.reduceToNat, Int.toNat_natCast, hnn, hnn2, hw1, hw2, hbc, hq1, hq2, hq3, hq4, hq6, hq7, hq8, hc6, hc7, hc8, hd4, hmi, hcap2, htk, hs61, hcap, List.length_take, List.length_drop]
                          · try simp only [go_sem, decide_false, decide_true, Bool.not_true, Bool.not_false, h9, hcap0, hcap1, Nat.zero_add, hal, hall, hmx, hmx2, bytesR_rows, hb0, hb1, hb2, hb3, hg0, hg1, hg2, hg3, hge, hgt3, hp0, hp1, hp2, Int.toNat_zero, Int.toNat_one, Int.reduceToNat, Int.toNat_natCast, hnn, hnn2, hw1, hw2, hbc, hq1, hq2, hq3, hq4, hq6, hq7, hq8, hc6, hc7, hc8, hd4, hmi, hcap2, htk, hs61, hcap, List.length_take, List.length_drop] at hc
                            all_goals
                              refine seq_k fun N101 M101 hN101 hM101 => ?_
                              refine region_k fun K102 hK102 => ?_
                              simp only [go_sem, decide_false, decide_true, Bool.not_true, Bool.not_false, h9, hcap0, hcap1, Nat.zero_add, hal, hall, hmx, hmx2, bytesR_rows, hb0, hb1, hb2, hb3, hg0, hg1, hg2, hg3, hge, hgt3, hp0, hp1, hp2, Int.toNat_zero, Int.toNat_one, Int.reduceToNat, Int.toNat_natCast, hnn, hnn2, hw1, hw2, hbc, hq1, hq2, hq3, hq4, hq6, hq7, hq8, hc6, hc7, hc8, hd4, hmi, hcap2, htk, hs61, hcap, List.length_take, List.length_drop]
                              all_goals repeat' (first | apply And.intro | intro _)
                              all_goals
                                refine hK102 _ ?_
                                refine hN101 _ ?_
                                refine cond_k rfl (fun hc => ?_) (fun hc => ?_)
                                · exfalso; revert hc; simp [go_sem, decide_false, decide_true, Bool.not_true, Bool.not_false, h9, hcap0, hcap1, Nat.zero_add, hal, hall, hmx, hmx2, bytesR_rows, hb0, hb1, hb2, hb3, hg0, hg1, hg2, hg3, hge, hgt3, hp0, hp1, hp2, Int.toNat_zero, Int.toNat_one, Int.reduceToNat, Int.toNat_natCast, hnn, hnn2, hw1, hw2, hbc, hq1, hq2, hq3, hq4, hq6, hq7, hq8, hc6, hc7, hc8, hd4, hmi, hcap2, htk, hs61, hcap, List.length_take, List.length_drop]
                                · try simp only [go_sem, decide_false, decide_true, Bool.not_true, Bool.not_false, h9, hcap0, hcap1, Nat.zero_add, hal, hall, hmx, hmx2, bytesR_rows, hb0, hb1, hb2, hb3, hg0, hg1, hg2, hg3, hge, hgt3, hp0, hp1, hp2, Int.toNat_zero, Int.toNat_one, Int.reduceToNat, Int.toNat_natCast, hnn, hnn2, hw1, hw2, hbc, hq1, hq2, hq3, hq4, hq6, hq7, hq8, hc6, hc7, hc8, hd4, hmi, hcap2, htk, hs61, hcap, List.length_take, List.length_drop] at hc
                                  all_goals
                                    refine seq_k fun N103 M103 hN103 hM103 => ?_
                                    refine region_k fun K104 hK104 => ?_
                                    simp only [go_sem, decide_false, decide_true, Bool.not_true, Bool.not_false, h9, hcap0, hcap1, Nat.zero_add, hal, hall, hmx, hmx2, bytesR_rows, hb0, hb1, hb2, hb3, hg0, hg1, hg2, hg3, hge, hgt3, hp0, hp1, hp2, Int.toNat_zero, Int.toNat_one, Int.reduceToNat, Int.toNat_natCast, hnn, hnn2, hw1, hw2, hbc, hq1, hq2, hq3, hq4, hq6, hq7, hq8, hc6, hc7, hc8, hd4, hmi, hcap2, htk, hs61, hcap, List.length_take, List.length_drop]
                                    all_goals repeat' (first | apply And.intro | intro _)
                                    all_goals
                                      refine hK104 _ ?_
                                      refine hN103 _ ?_
                                      refine cond_k rfl (fun hc => ?_) (fun hc => ?_)
                                      · exfalso; revert hc; simp [go_sem, decide_false, decide_true, Bool.not_true, Bool.not_false, h9, hcap0, hcap1, Nat.zero_add, hal, hall, hmx, hmx2, bytesR_rows, hb0, hb1, hb2, hb3, hg0, hg1, hg2, hg3, hge, hgt3, hp0, hp1, hp2, Int.toNat_zero, Int.toNat_one, Int.reduceToNat, Int.toNat_natCast, hnn, hnn2, hw1, hw2, hbc, hq1, hq2, hq3, hq4, hq6, hq7, hq8, hc6, hc7, hc8, hd4, hmi, hcap2, htk, hs61, hcap, List.length_take, List.length_drop]
                                      · try simp only [go_sem, decide_false, decide_true, Bool.not_true, Bool.not_false, h9, hcap0, hcap1, Nat.zero_add, hal, hall, hmx, hmx2, bytesR_rows, hb0, hb1, hb2, hb3, hg0, hg1, hg2, hg3, hge, hgt3, hp0, hp1, hp2, Int.toNat_zero, Int.toNat_one, Int.reduceToNat, Int.toNat_natCast, hnn, hnn2, hw1, hw2, hbc, hq1, hq2, hq3, hq4, hq6, hq7, hq8, hc6, hc7, hc8, hd4, hmi, hcap2, htk, hs61, hcap, List.length_take, List.length_drop] at hc
                                        all_goals
                                          refine skip_k ?_
                                          refine bn98 _ ?_
                                          refine hN97 _ ?_
                                          refine seq_k fun N105 M105 hN105 hM105 => ?_
                                          refine seq_k fun N106 M106 hN106 hM106 => ?_
                                          refine region_k fun K107 hK107 => ?_
                                          simp only [go_sem, decide_false, decide_true, Bool.not_true, Bool.not_false, h9, hcap0, hcap1, Nat.zero_add, hal, hall, hmx, hmx2, bytesR_rows, hb0, hb1, hb2, hb3, hg0, hg1, hg2, hg3, hge, hgt3, hp0, hp1, hp2, Int.toNat_zero, Int.toNat_one, Int.reduceToNat, Int.toNat_natCast, hnn, hnn2, hw1, hw2, hbc, hq1, hq2, hq3, hq4, hq6, hq7, hq8, hc6, hc7, hc8, hd4, hmi, hcap2, htk, hs61, hcap, List.length_take, List.length_drop]
                                          all_goals repeat' (first | apply And.intro | intro _)
                                          all_goals
                                            refine hK107 _ ?_
                                            refine hN106 _ ?_
                                            refine cond_k rfl (fun hc => ?_) (fun hc => ?_)
                                            · exfalso; revert hc; simp [go_sem, decide_false, decide_true, Bool.not_true, Bool.not_false, h9, hcap0, hcap1, Nat.zero_add, hal, hall, hmx, hmx2, bytesR_rows, hb0, hb1, hb2, hb3, hg0, hg1, hg2, hg3, hge, hgt3, hp0, hp1, hp2, Int.toNat_zero, Int.toNat_one, Int.reduceToNat, Int.toNat_natCast, hnn, hnn2, hw1, hw2, hbc, hq1, hq2, hq3, hq4, hq6, hq7, hq8, hc6, hc7, hc8, hd4, hmi, hcap2, htk, hs61, hcap, List.length_take, List.length_drop]
                                            · try simp only [go_sem, decide_false, decide_true, Bool.not_true, Bool.not_false, h9, hcap0, hcap1, Nat.zero_add, hal, hall, hmx, hmx2, bytesR_rows, hb0, hb1, hb2, hb3, hg0, hg1, hg2, hg3, hge, hgt3, hp0, hp1, hp2, Int.toNat_zero, Int.toNat_one, Int.reduceToNat, Int.toNat_natCast, hnn, hnn2, hw1, hw2, hbc, hq1, hq2, hq3, hq4, hq6, hq7, hq8, hc6, hc7, hc8, hd4, hmi, hcap2, htk, hs61, hcap, List.length_take, List.length_drop] at hc
                                              all_goals
                                                refine skip_k ?_
                                                refine hN105 _ ?_
                                                refine seq_k fun N108 M108 hN108 hM108 => ?_
                                                refine draw_k [54, 55, 56, 57, 58, 59, 60, 61, 62, 63, 64, 65, 66, 67, 68, 8] [0, 0, 2, 6, 0, 16, 48, 0, 0, 256, 896, 1920, 4094, 8190, 16383, 32767] [] mixed (by kernel_rfl) (by simp only [go_sem]) fun K109 hK109 => ?_
                                                simp only [go_sem, decide_false, decide_true, Bool.not_true, Bool.not_false, h9, hcap0, hcap1, Nat.zero_add, hal, hall, hmx, hmx2, bytesR_rows, hb0, hb1, hb2, hb3, hg0, hg1, hg2, hg3, hge, hgt3, hp0, hp1, hp2, Int.toNat_zero, Int.toNat_one, Int.reduceToNat, Int.toNat_natCast, hnn, hnn2, hw1, hw2, hbc, hq1, hq2, hq3, hq4, hq6, hq7, hq8, hc6, hc7, hc8, hd4, hmi, hcap2, htk, hs61, hcap, List.length_take, List.length_drop]
                                                all_goals repeat' (first | apply And.intro | intro _)
                                                all_goals
                                                  refine hK109 _ _ ?_ ?_
                                                  · first | trivial | (simp only [go_sem]; done) | (simp only [go_sem]; simp; done) | (simp only [go_sem]; simp; simp only [go_sem])
                                                  refine hN108 _ ?_
                                                  refine ht_seal 65 (((bt.drop 4).take n).map .u8) (b := true) (by simp only [pls_bytes, look]; simp) (by decide) ?_
                                                  simp only [St.laid, sealE, sealM, sealV, sealW, List.map_cons, List.map_nil, sealL_pl, sealL_fn0, hs61, sealL_sne (j := 68) (k := 65) (by decide), sealL_sne (j := 67) (k := 65) (by decide), frsC_seal, map_sealB, Nat.reduceLT, Nat.reduceEqDiff, if_true, if_false, reduceIte]
                                                  refine region_k fun K110 hK110 => ?_
                                                  simp only [go_sem, decide_false, decide_true, Bool.not_true, Bool.not_false, h9, hcap0, hcap1, Nat.zero_add, hal, hall, hmx, hmx2, bytesR_rows, hb0, hb1, hb2, hb3, hg0, hg1, hg2, hg3, hge, hgt3, hp0, hp1, hp2, Int.toNat_zero, Int.toNat_one, Int.reduceToNat, Int.toNat_natCast, hnn, hnn2, hw1, hw2, hbc, hq1, hq2, hq3, hq4, hq6, hq7, hq8, hc6, hc7, hc8, hd4, hmi, hcap2, htk, hs61, hcap, List.length_take, List.length_drop]
                                                  all_goals repeat' (first | apply And.intro | intro _)
                                                  all_goals
                                                    refine hK110 _ ?_
                                                    refine bn94 _ ?_
                                                    refine hN12 ⟨(c - 1, [] ++ [frOf bt], bt.drop (4 + n)), hnx⟩ _ ?_ ?_ ?_
                                                    · (have hcl0 := hv.2.1; simp only at hcl0; show c - 1 < c; clear hnn hnn2 hw1 hw2 hcap; omega)
                                                    · (simp only [go_sem, fV_snoc, fV_one, Nat.add_comm 4 n, leX, List.cons_append, List.nil_append]; try simp [fV_snoc, fV_one])
                                                    · (simp only [fM_snoc, frsC_snoc, hfr, go_sem, leX, List.cons_append, List.nil_append]; try simp [fM_one, frsC_one, leX, look, pls, sealL_pl])
                  · exfalso; revert hc; simp [go_sem, decide_false, decide_true, Bool.not_true, Bool.not_false, h9, hcap0, hcap1, Nat.zero_add, hal, hall, hmx, hmx2, bytesR_rows, hb0, hb1, hb2, hb3, hg0, hg1, hg2, hg3, hge, hgt3, hp0, hp1, hp2, Int.toNat_zero, Int.toNat_one, Int.reduceToNat, Int.toNat_natCast, hnn, hnn2, hw1, hw2, hbc, hq1, hq2, hq3, hq4, hq6, hq7, hq8, hc6, hc7, hc8, hd4, hmi, hcap2, htk, hs61, hcap, List.length_take, List.length_drop]
              · simp only [fV_nil, fM_nil, List.cons_append, List.nil_append]
                have hnx := feed_next hv hs (hf_ok (by omega) (by omega) (by omega) (fun _ => hnz)) (by omega)
                obtain ⟨b0, hb0⟩ : ∃ b, bt.getD 0 0 = b := ⟨_, rfl⟩
                obtain ⟨b1, hb1⟩ : ∃ b, bt.getD 1 0 = b := ⟨_, rfl⟩
                obtain ⟨b2, hb2⟩ : ∃ b, bt.getD 2 0 = b := ⟨_, rfl⟩
                obtain ⟨b3, hb3⟩ : ∃ b, bt.getD 3 0 = b := ⟨_, rfl⟩
                have hg0 := rowG (bs := bt) (i := 0) (by omega) hb0
                have hg1 := rowG (bs := bt) (i := 1) (by omega) hb1
                have hg2 := rowG (bs := bt) (i := 2) (by omega) hb2
                have hg3 := rowG (bs := bt) (i := 3) (by omega) hb3
                obtain ⟨n, hn⟩ : ∃ x, nOf bt = x := ⟨_, rfl⟩
                have hk0 : kOf bt = b0.toNat := by rw [kOf, hb0]
                have hn0 : 256 * b2.toNat + b3.toNat = n := by rw [← hn, nOf, hb2, hb3]
                have hnl : n < 65536 := hn ▸ nOf_lt bt
                have hl0 := b0.toNat_lt
                have hl1 := b1.toNat_lt
                have hl2 := b2.toNat_lt
                have hl3 := b3.toNat_lt
                have hid : b1.toNat ≤ 255 := by omega
                have hge : (4 : Int) ≤ ((bt.length : Nat) : Int) := by omega
                have hgt3 : (3 : Int) < ((bt.length : Nat) : Int) := by omega
                have hp0 : (0 : Int) < ((bt.length : Nat) : Int) := by omega
                have hp1 : (1 : Int) < ((bt.length : Nat) : Int) := by omega
                have hp2 : (2 : Int) < ((bt.length : Nat) : Int) := by omega
                have hlo : bt.length ≤ all.length := by have := hv.2.2; simp only at this; omega
                rw [hk0] at hk
                rw [hn] at hnz hnx
                have hk1 : 1 ≤ b0.toNat := by omega
                have hk2 : b0.toNat ≤ 5 := by omega
                have hq1 : (b0 < 1) = False := eq_false fun h => by have := UInt8.lt_iff_toNat_lt.mp h; simp at this; omega
                have hq2 : (5 < b0) = False := eq_false fun h => by have := UInt8.lt_iff_toNat_lt.mp h; simp at this; omega
                have hq3 : ¬ (900 : Int) < ((n : Nat) : Int) := by omega
                have hq4 : (((b0.toNat : Nat) : Int) = 5) = True := eq_true (by omega)
                have hq5 : ¬ (0 : Int) < ((n : Nat) : Int) := by omega
                have hq6 : (b0 = 5) = True := eq_true (UInt8.toNat_inj.mp hk)
                have hlt : 4 + n ≤ bt.length := by omega
                have hq7 : ¬ ((bt.length : Nat) : Int) < ((n + 4 : Nat) : Int) := by omega
                have hq8 : ¬ ((bt.length - 4 : Nat) : Int) < ((n : Nat) : Int) := by omega
                have hc6 : ((n + 4 : Nat) : Int) ≤ ((bt.length : Nat) : Int) := by omega
                have hc7 : (0 : Int) ≤ ((n + 4 : Nat) : Int) := by omega
                have hc8 : (4 : Int) ≤ ((n + 4 : Nat) : Int) := by omega
                have hd4 : n + 4 - 4 = n := by omega
                have hmi : min n (bt.length - 4) = n := by omega
                have hcap2 : n ≤ 140737488355328 := by omega
                have htk : ((bt.drop 4).take n).length = n := by rw [List.length_take, List.length_drop]; omega
                have hfr : frOf bt = ⟨b0.toNat, b1.toNat, (bt.drop 4).take n⟩ := by rw [frOf, hk0, iOf, hb1, hn]
                have hs61 := seal_bytes (k := 65) (bs := (bt.drop 4).take n) htk.symm
                obtain ⟨hnn, hnn2, hw1, hw2, hcap⟩ : ior (ishl ((b2.toNat : Nat) : Int) (UInt64.toNat 8)) ((b3.toNat : Nat) : Int) = ((n : Nat) : Int) ∧ Go.RowKit.wrap64 (Go.RowKit.wrap64 (((b2.toNat : Nat) : Int) * 256) + ((b3.toNat : Nat) : Int)) = ((n : Nat) : Int) ∧ Go.RowKit.wrap64 (4 + ((n : Nat) : Int)) = ((n + 4 : Nat) : Int) ∧ Go.RowKit.wrap64 (((bt.length : Nat) : Int) - 4) = ((bt.length - 4 : Nat) : Int) ∧ (0 + 1) * 40 ≤ 140737488355328 := ⟨n_shl hl2 hl3 hn0, n_mul hl2 hl3 hn0, wnat (by omega) (by omega), wnat (by omega) (by omega), by omega⟩
                have hbc : bt.length ≤ 140737488355328 := by clear hnn hnn2 hw1 hw2 hcap; omega
                
                refine seq_k fun N111 M111 hN111 hM111 => ?_
                refine seq_k fun N112 M112 hN112 hM112 => ?_
                refine region_k fun K113 hK113 => ?_
                simp only [go_sem, decide_false, decide_true, Bool.not_true, Bool.not_false, h9, hcap0, hcap1, Nat.zero_add, hal, hall, hmx, hmx2, bytesR_rows, hb0, hb1, hb2, hb3, hg0, hg1, hg2, hg3, hge, hgt3, hp0, hp1, hp2, Int.toNat_zero, Int.toNat_one, Int.reduceToNat, Int.toNat_natCast, hnn, hnn2, hw1, hw2, hbc, hq1, hq2, hq3, hq4, hq6, hq7, hq8, hc6, hc7, hc8, hd4, hmi, hcap2, htk, hs61, hcap, List.length_take, List.length_drop, hq5]
                all_goals repeat' (first | apply And.intro | intro _)
                all_goals
                  refine hK113 _ ?_
                  refine hN112 _ ?_
                  refine cond_k rfl (fun hc => ?_) (fun hc => ?_)
                  · try simp only [go_sem, decide_false, decide_true, Bool.not_true, Bool.not_false, h9, hcap0, hcap1, Nat.zero_add, hal, hall, hmx, hmx2, bytesR_rows, hb0, hb1, hb2, hb3, hg0, hg1, hg2, hg3, hge, hgt3, hp0, hp1, hp2, Int.toNat_zero, Int.toNat_one, Int.reduceToNat, Int.toNat_natCast, hnn, hnn2, hw1, hw2, hbc, hq1, hq2, hq3, hq4, hq6, hq7, hq8, hc6, hc7, hc8, hd4, hmi, hcap2, htk, hs61, hcap, List.length_take, List.length_drop, hq5] at hc
                    all_goals
                      refine skip_k ?_
                      refine hN111 _ ?_
                      refine block_k fun B114 bn114 bx114 br114 bi114 => ?_
                      refine seq_k fun N115 M115 hN115 hM115 => ?_
                      refine draw_k [21, 22, 23, 24, 25, 26, 27, 28, 9] [0, 1, 3, 7, 0, 16, 48, 127, 255] [] mixed (by kernel_rfl) (by simp only [go_sem]) fun K116 hK116 => ?_
                      simp only [go_sem, decide_false, decide_true, Bool.not_true, Bool.not_false, h9, hcap0, hcap1, Nat.zero_add, hal, hall, hmx, hmx2, bytesR_rows, hb0, hb1, hb2, hb3, hg0, hg1, hg2, hg3, hge, hgt3, hp0, hp1, hp2, Int.toNat_zero, Int.toNat_one, Int.reduceToNat, Int.toNat_natCast, hnn, hnn2, hw1, hw2, hbc, hq1, hq2, hq3, hq4, hq6, hq7, hq8, hc6, hc7, hc8, hd4, hmi, hcap2, htk, hs61, hcap, List.length_take, List.length_drop, hq5]
                      all_goals repeat' (first | apply And.intro | intro _)
                      all_goals
                        refine hK116 _ _ ?_ ?_
                        · first | trivial | (simp only [go_sem]; done) | (simp only [go_sem]; simp; done) | (simp only [go_sem]; simp; simp only [go_sem])
                        refine hN115 _ ?_
                        refine seq_k fun N117 M117 hN117 hM117 => ?_
                        refine block_k fun B118 bn118 bx118 br118 bi118 => ?_
                        refine seq_k fun N119 M119 hN119 hM119 => ?_
                        refine region_k fun K120 hK120 => ?_
                        simp only [go_sem, decide_false, decide_true, Bool.not_true, Bool.not_false, h9, hcap0, hcap1, Nat.zero_add, hal, hall, hmx, hmx2, bytesR_rows, hb0, hb1, hb2, hb3, hg0, hg1, hg2, hg3, hge, hgt3, hp0, hp1, hp2, Int.toNat_zero, Int.toNat_one, Int.reduceToNat, Int.toNat_natCast, hnn, hnn2, hw1, hw2, hbc, hq1, hq2, hq3, hq4, hq6, hq7, hq8, hc6, hc7, hc8, hd4, hmi, hcap2, htk, hs61, hcap, List.length_take, List.length_drop, hq5]
                        all_goals repeat' (first | apply And.intro | intro _)
                        all_goals
                          refine hK120 _ ?_
                          refine hN119 _ ?_
                          refine cond_k rfl (fun hc => ?_) (fun hc => ?_)
                          · exfalso; revert hc; simp [go_sem, decide_false, decide_true, Bool.not_true, Bool.not_false, h9, hcap0, hcap1, Nat.zero_add, hal, hall, hmx, hmx2, bytesR_rows, hb0, hb1, hb2, hb3, hg0, hg1, hg2, hg3, hge, hgt3, hp0, hp1, hp2, Int.toNat_zero, Int.toNat_one, Int.reduceToNat, Int.toNat_natCast, hnn, hnn2, hw1, hw2, hbc, hq1, hq2, hq3, hq4, hq6, hq7, hq8, hc6, hc7, hc8, hd4, hmi, hcap2, htk, hs61, hcap, List.length_take, List.length_drop, hq5]
                          · try simp only [go_sem, decide_false, decide_true, Bool.not_true, Bool.not_false, h9, hcap0, hcap1, Nat.zero_add, hal, hall, hmx, hmx2, bytesR_rows, hb0, hb1, hb2, hb3, hg0, hg1, hg2, hg3, hge, hgt3, hp0, hp1, hp2, Int.toNat_zero, Int.toNat_one, Int.reduceToNat, Int.toNat_natCast, hnn, hnn2, hw1, hw2, hbc, hq1, hq2, hq3, hq4, hq6, hq7, hq8, hc6, hc7, hc8, hd4, hmi, hcap2, htk, hs61, hcap, List.length_take, List.length_drop, hq5] at hc
                            all_goals
                              refine seq_k fun N121 M121 hN121 hM121 => ?_
                              refine region_k fun K122 hK122 => ?_
                              simp only [go_sem, decide_false, decide_true, Bool.not_true, Bool.not_false, h9, hcap0, hcap1, Nat.zero_add, hal, hall, hmx, hmx2, bytesR_rows, hb0, hb1, hb2, hb3, hg0, hg1, hg2, hg3, hge, hgt3, hp0, hp1, hp2, Int.toNat_zero, Int.toNat_one, Int.reduceToNat, Int.toNat_natCast, hnn, hnn2, hw1, hw2, hbc, hq1, hq2, hq3, hq4, hq6, hq7, hq8, hc6, hc7, hc8, hd4, hmi, hcap2, htk, hs61, hcap, List.length_take, List.length_drop, hq5]
                              all_goals repeat' (first | apply And.intro | intro _)
                              all_goals
                                refine hK122 _ ?_
                                refine hN121 _ ?_
                                refine cond_k rfl (fun hc => ?_) (fun hc => ?_)
                                · exfalso; revert hc; simp [go_sem, decide_false, decide_true, Bool.not_true, Bool.not_false, h9, hcap0, hcap1, Nat.zero_add, hal, hall, hmx, hmx2, bytesR_rows, hb0, hb1, hb2, hb3, hg0, hg1, hg2, hg3, hge, hgt3, hp0, hp1, hp2, Int.toNat_zero, Int.toNat_one, Int.reduceToNat, Int.toNat_natCast, hnn, hnn2, hw1, hw2, hbc, hq1, hq2, hq3, hq4, hq6, hq7, hq8, hc6, hc7, hc8, hd4, hmi, hcap2, htk, hs61, hcap, List.length_take, List.length_drop, hq5]
                                · try simp only [go_sem, decide_false, decide_true, Bool.not_true, Bool.not_false, h9, hcap0, hcap1, Nat.zero_add, hal, hall, hmx, hmx2, bytesR_rows, hb0, hb1, hb2, hb3, hg0, hg1, hg2, hg3, hge, hgt3, hp0, hp1, hp2, Int.toNat_zero, Int.toNat_one, Int.reduceToNat, Int.toNat_natCast, hnn, hnn2, hw1, hw2, hbc, hq1, hq2, hq3, hq4, hq6, hq7, hq8, hc6, hc7, hc8, hd4, hmi, hcap2, htk, hs61, hcap, List.length_take, List.length_drop, hq5] at hc
                                  all_goals
                                    refine seq_k fun N123 M123 hN123 hM123 => ?_
                                    refine region_k fun K124 hK124 => ?_
                                    simp only [go_sem, decide_false, decide_true, Bool.not_true, Bool.not_false, h9, hcap0, hcap1, Nat.zero_add, hal, hall, hmx, hmx2, bytesR_rows, hb0, hb1, hb2, hb3, hg0, hg1, hg2, hg3, hge, hgt3, hp0, hp1, hp2, Int.toNat_zero, Int.toNat_one, Int.reduceToNat, Int.toNat_natCast, hnn, hnn2, hw1, hw2, hbc, hq1, hq2, hq3, hq4, hq6, hq7, hq8, hc6, hc7, hc8, hd4, hmi, hcap2, htk, hs61, hcap, List.length_take, List.length_drop, hq5]
                                    all_goals repeat' (first | apply And.intro | intro _)
                                    all_goals
                                      refine hK124 _ ?_
                                      refine hN123 _ ?_
                                      refine cond_k rfl (fun hc => ?_) (fun hc => ?_)
                                      · exfalso; revert hc; simp [go_sem, decide_false, decide_true, Bool.not_true, Bool.not_false, h9, hcap0, hcap1, Nat.zero_add, hal, hall, hmx, hmx2, bytesR_rows, hb0, hb1, hb2, hb3, hg0, hg1, hg2, hg3, hge, hgt3, hp0, hp1, hp2, Int.toNat_zero, Int.toNat_one, Int.reduceToNat, Int.toNat_natCast, hnn, hnn2, hw1, hw2, hbc, hq1, hq2, hq3, hq4, hq6, hq7, hq8, hc6, hc7, hc8, hd4, hmi, hcap2, htk, hs61, hcap, List.length_take, List.length_drop, hq5]
                                      · try simp only [go_sem, decide_false, decide_true, Bool.not_true, Bool.not_false, h9, hcap0, hcap1, Nat.zero_add, hal, hall, hmx, hmx2, bytesR_rows, hb0, hb1, hb2, hb3, hg0, hg1, hg2, hg3, hge, hgt3, hp0, hp1, hp2, Int.toNat_zero, Int.toNat_one, Int.reduceToNat, Int.toNat_natCast, hnn, hnn2, hw1, hw2, hbc, hq1, hq2, hq3, hq4, hq6, hq7, hq8, hc6, hc7, hc8, hd4, hmi, hcap2, htk, hs61, hcap, List.length_take, List.length_drop, hq5] at hc
                                        all_goals
                                          refine skip_k ?_
                                          refine bn118 _ ?_
                                          refine hN117 _ ?_
                                          refine seq_k fun N125 M125 hN125 hM125 => ?_
                                          refine seq_k fun N126 M126 hN126 hM126 => ?_
                                          refine region_k fun K127 hK127 => ?_
                                          simp only [go_sem, decide_false, decide_true, Bool.not_true, Bool.not_false, h9, hcap0, hcap1, Nat.zero_add, hal, hall, hmx, hmx2, bytesR_rows, hb0, hb1, hb2, hb3, hg0, hg1, hg2, hg3, hge, hgt3, hp0, hp1, hp2, Int.toNat_zero, Int.toNat_one, Int.reduceToNat, Int.toNat_natCast, hnn, hnn2, hw1, hw2, hbc, hq1, hq2, hq3, hq4, hq6, hq7, hq8, hc6, hc7, hc8, hd4, hmi, hcap2, htk, hs61, hcap, List.length_take, List.length_drop, hq5]
                                          all_goals repeat' (first | apply And.intro | intro _)
                                          all_goals
                                            refine hK127 _ ?_
                                            refine hN126 _ ?_
                                            refine cond_k rfl (fun hc => ?_) (fun hc => ?_)
                                            · exfalso; revert hc; simp [go_sem, decide_false, decide_true, Bool.not_true, Bool.not_false, h9, hcap0, hcap1, Nat.zero_add, hal, hall, hmx, hmx2, bytesR_rows, hb0, hb1, hb2, hb3, hg0, hg1, hg2, hg3, hge, hgt3, hp0, hp1, hp2, Int.toNat_zero, Int.toNat_one, Int.reduceToNat, Int.toNat_natCast, hnn, hnn2, hw1, hw2, hbc, hq1, hq2, hq3, hq4, hq6, hq7, hq8, hc6, hc7, hc8, hd4, hmi, hcap2, htk, hs61, hcap, List.length_take, List.length_drop, hq5]
                                            · try simp only [go_sem, decide_false, decide_true, Bool.not_true, Bool.not_false, h9, hcap0, hcap1, Nat.zero_add, hal, hall, hmx, hmx2, bytesR_rows, hb0, hb1, hb2, hb3, hg0, hg1, hg2, hg3, hge, hgt3, hp0, hp1, hp2, Int.toNat_zero, Int.toNat_one, Int.reduceToNat, Int.toNat_natCast, hnn, hnn2, hw1, hw2, hbc, hq1, hq2, hq3, hq4, hq6, hq7, hq8, hc6, hc7, hc8, hd4, hmi, hcap2, htk, hs61, hcap, List.length_take, List.length_drop, hq5] at hc
                                              all_goals
                                                refine skip_k ?_
                                                refine hN125 _ ?_
                                                refine seq_k fun N128 M128 hN128 hM128 => ?_
                                                refine draw_k [54, 55, 56, 57, 58, 59, 60, 61, 62, 63, 64, 65, 66, 67, 68, 8] [0, 0, 2, 6, 0, 16, 48, 0, 0, 256, 896, 1920, 4094, 8190, 16383, 32767] [] mixed (by kernel_rfl) (by simp only [go_sem]) fun K129 hK129 => ?_
                                                simp only [go_sem, decide_false, decide_true, Bool.not_true, Bool.not_false, h9, hcap0, hcap1, Nat.zero_add, hal, hall, hmx, hmx2, bytesR_rows, hb0, hb1, hb2, hb3, hg0, hg1, hg2, hg3, hge, hgt3, hp0, hp1, hp2, Int.toNat_zero, Int.toNat_one, Int.reduceToNat, Int.toNat_natCast, hnn, hnn2, hw1, hw2, hbc, hq1, hq2, hq3, hq4, hq6, hq7, hq8, hc6, hc7, hc8, hd4, hmi, hcap2, htk, hs61, hcap, List.length_take, List.length_drop, hq5]
                                                all_goals repeat' (first | apply And.intro | intro _)
                                                all_goals
                                                  refine hK129 _ _ ?_ ?_
                                                  · first | trivial | (simp only [go_sem]; done) | (simp only [go_sem]; simp; done) | (simp only [go_sem]; simp; simp only [go_sem])
                                                  refine hN128 _ ?_
                                                  refine ht_seal 65 (((bt.drop 4).take n).map .u8) (b := true) (by simp only [pls_bytes, look]; simp) (by decide) ?_
                                                  simp only [St.laid, sealE, sealM, sealV, sealW, List.map_cons, List.map_nil, sealL_pl, sealL_fn0, hs61, sealL_sne (j := 68) (k := 65) (by decide), sealL_sne (j := 67) (k := 65) (by decide), frsC_seal, map_sealB, Nat.reduceLT, Nat.reduceEqDiff, if_true, if_false, reduceIte]
                                                  refine region_k fun K130 hK130 => ?_
                                                  simp only [go_sem, decide_false, decide_true, Bool.not_true, Bool.not_false, h9, hcap0, hcap1, Nat.zero_add, hal, hall, hmx, hmx2, bytesR_rows, hb0, hb1, hb2, hb3, hg0, hg1, hg2, hg3, hge, hgt3, hp0, hp1, hp2, Int.toNat_zero, Int.toNat_one, Int.reduceToNat, Int.toNat_natCast, hnn, hnn2, hw1, hw2, hbc, hq1, hq2, hq3, hq4, hq6, hq7, hq8, hc6, hc7, hc8, hd4, hmi, hcap2, htk, hs61, hcap, List.length_take, List.length_drop, hq5]
                                                  all_goals repeat' (first | apply And.intro | intro _)
                                                  all_goals
                                                    refine hK130 _ ?_
                                                    refine bn114 _ ?_
                                                    refine hN12 ⟨(c - 1, [] ++ [frOf bt], bt.drop (4 + n)), hnx⟩ _ ?_ ?_ ?_
                                                    · (have hcl0 := hv.2.1; simp only at hcl0; show c - 1 < c; clear hnn hnn2 hw1 hw2 hcap; omega)
                                                    · (simp only [go_sem, fV_snoc, fV_one, Nat.add_comm 4 n, leX, List.cons_append, List.nil_append]; try simp [fV_snoc, fV_one])
                                                    · (simp only [fM_snoc, frsC_snoc, hfr, go_sem, leX, List.cons_append, List.nil_append]; try simp [fM_one, frsC_one, leX, look, pls, sealL_pl])
                  · exfalso; revert hc; simp [go_sem, decide_false, decide_true, Bool.not_true, Bool.not_false, h9, hcap0, hcap1, Nat.zero_add, hal, hall, hmx, hmx2, bytesR_rows, hb0, hb1, hb2, hb3, hg0, hg1, hg2, hg3, hge, hgt3, hp0, hp1, hp2, Int.toNat_zero, Int.toNat_one, Int.reduceToNat, Int.toNat_natCast, hnn, hnn2, hw1, hw2, hbc, hq1, hq2, hq3, hq4, hq6, hq7, hq8, hc6, hc7, hc8, hd4, hmi, hcap2, htk, hs61, hcap, List.length_take, List.length_drop, hq5]
              · simp only [fV_of _ hl0, fM_of _ hl0, List.cons_append, List.nil_append]
                have hlb : 4 * l.length + bt.length ≤ all.length := hv.2.2
                have hge : ¬ (4 : Int) ≤ ((bt.length : Nat) : Int) := by omega
                have hgt3 : ¬ (3 : Int) < ((bt.length : Nat) : Int) := by omega
                have hfe := feed_short hv hs
                have hbc : bt.length ≤ 140737488355328 := by omega
                
                refine seq_k fun N131 M131 hN131 hM131 => ?_
                refine seq_k fun N132 M132 hN132 hM132 => ?_
                refine region_k fun K133 hK133 => ?_
                simp only [go_sem, decide_false, decide_true, Bool.not_true, Bool.not_false, h9, hcap0, hcap1, Nat.zero_add, hal, hall, hmx, hmx2, bytesR_rows, hge, hgt3, hbc]
                all_goals repeat' (first | apply And.intro | intro _)
                all_goals
                  refine hK133 _ ?_
                  refine hN132 _ ?_
                  refine cond_k rfl (fun hc => ?_) (fun hc => ?_)
                  · exfalso; revert hc; simp [go_sem, decide_false, decide_true, Bool.not_true, Bool.not_false, h9, hcap0, hcap1, Nat.zero_add, hal, hall, hmx, hmx2, bytesR_rows, hge, hgt3, hbc]
                  · try simp only [go_sem, decide_false, decide_true, Bool.not_true, Bool.not_false, h9, hcap0, hcap1, Nat.zero_add, hal, hall, hmx, hmx2, bytesR_rows, hge, hgt3, hbc] at hc
                    all_goals
                      refine exit_k ?_
                      refine hM131 _ _ ?_
                      refine hM12 _ _ ?_
                      refine bx11 _ ?_
                      refine hN10 _ ?_
                      refine seq_k fun N134 M134 hN134 hM134 => ?_
                      refine region_k fun K135 hK135 => ?_
                      simp only [go_sem, decide_false, decide_true, Bool.not_true, Bool.not_false, h9, hcap0, hcap1, Nat.zero_add, hal, hall, hmx, hmx2, bytesR_rows, hge, hgt3, hbc]
                      all_goals repeat' (first | apply And.intro | intro _)
                      all_goals
                        refine hK135 _ ?_
                        refine hN134 _ ?_
                        refine ret_k ?_
                        simp only [go_sem, decide_false, decide_true, Bool.not_true, Bool.not_false, h9, hcap0, hcap1, Nat.zero_add, hal, hall, hmx, hmx2, bytesR_rows, hge, hgt3, hbc]
                        all_goals (rw [hfp, hfe]; exact feed_end (b := true) (by simp [look]) rfl (by simp [look]) rfl (by decide))
              · simp only [fV_of _ hl0, fM_of _ hl0, List.cons_append, List.nil_append]
                have hlb : 4 * l.length + bt.length ≤ all.length := hv.2.2
                have hfe := feed_fault hv hs (hf_kind (.inl hk)) (by decide)
                obtain ⟨b0, hb0⟩ : ∃ b, bt.getD 0 0 = b := ⟨_, rfl⟩
                obtain ⟨b1, hb1⟩ : ∃ b, bt.getD 1 0 = b := ⟨_, rfl⟩
                obtain ⟨b2, hb2⟩ : ∃ b, bt.getD 2 0 = b := ⟨_, rfl⟩
                obtain ⟨b3, hb3⟩ : ∃ b, bt.getD 3 0 = b := ⟨_, rfl⟩
                have hg0 := rowG (bs := bt) (i := 0) (by omega) hb0
                have hg1 := rowG (bs := bt) (i := 1) (by omega) hb1
                have hg2 := rowG (bs := bt) (i := 2) (by omega) hb2
                have hg3 := rowG (bs := bt) (i := 3) (by omega) hb3
                obtain ⟨n, hn⟩ : ∃ x, nOf bt = x := ⟨_, rfl⟩
                have hk0 : kOf bt = b0.toNat := by rw [kOf, hb0]
                have hn0 : 256 * b2.toNat + b3.toNat = n := by rw [← hn, nOf, hb2, hb3]
                have hnl : n < 65536 := hn ▸ nOf_lt bt
                have hl0 := b0.toNat_lt
                have hl1 := b1.toNat_lt
                have hl2 := b2.toNat_lt
                have hl3 := b3.toNat_lt
                have hid : b1.toNat ≤ 255 := by omega
                have hge : (4 : Int) ≤ ((bt.length : Nat) : Int) := by omega
                have hgt3 : (3 : Int) < ((bt.length : Nat) : Int) := by omega
                have hp0 : (0 : Int) < ((bt.length : Nat) : Int) := by omega
                have hp1 : (1 : Int) < ((bt.length : Nat) : Int) := by omega
                have hp2 : (2 : Int) < ((bt.length : Nat) : Int) := by omega
                have hlo : bt.length ≤ all.length := by have := hv.2.2; simp only at this; omega
                rw [hk0] at hk
                have hq1 : (b0 < 1) = True := eq_true (UInt8.lt_iff_toNat_lt.mpr hk)
                obtain ⟨hnn, hnn2, hw1, hw2, hcap⟩ : ior (ishl ((b2.toNat : Nat) : Int) (UInt64.toNat 8)) ((b3.toNat : Nat) : Int) = ((n : Nat) : Int) ∧ Go.RowKit.wrap64 (Go.RowKit.wrap64 (((b2.toNat : Nat) : Int) * 256) + ((b3.toNat : Nat) : Int)) = ((n : Nat) : Int) ∧ Go.RowKit.wrap64 (4 + ((n : Nat) : Int)) = ((n + 4 : Nat) : Int) ∧ Go.RowKit.wrap64 (((bt.length : Nat) : Int) - 4) = ((bt.length - 4 : Nat) : Int) ∧ (l.length + 1) * 40 ≤ 140737488355328 := ⟨n_shl hl2 hl3 hn0, n_mul hl2 hl3 hn0, wnat (by omega) (by omega), wnat (by omega) (by omega), by omega⟩
                have hbc : bt.length ≤ 140737488355328 := by clear hnn hnn2 hw1 hw2 hcap; omega
                
                refine seq_k fun N136 M136 hN136 hM136 => ?_
                refine seq_k fun N137 M137 hN137 hM137 => ?_
                refine region_k fun K138 hK138 => ?_
                simp only [go_sem, decide_false, decide_true, Bool.not_true, Bool.not_false, h9, hcap0, hcap1, Nat.zero_add, hal, hall, hmx, hmx2, bytesR_rows, hb0, hb1, hb2, hb3, hg0, hg1, hg2, hg3, hge, hgt3, hp0, hp1, hp2, Int.toNat_zero, Int.toNat_one, Int.reduceToNat, Int.toNat_natCast, hnn, hnn2, hw1, hw2, hbc, hq1]
                all_goals repeat' (first | apply And.intro | intro _)
                all_goals
                  refine hK138 _ ?_
                  refine hN137 _ ?_
                  refine cond_k rfl (fun hc => ?_) (fun hc => ?_)
                  · try simp only [go_sem, decide_false, decide_true, Bool.not_true, Bool.not_false, h9, hcap0, hcap1, Nat.zero_add, hal, hall, hmx, hmx2, bytesR_rows, hb0, hb1, hb2, hb3, hg0, hg1, hg2, hg3, hge, hgt3, hp0, hp1, hp2, Int.toNat_zero, Int.toNat_one, Int.reduceToNat, Int.toNat_natCast, hnn, hnn2, hw1, hw2, hbc, hq1] at hc
                    all_goals
                      refine skip_k ?_
                      refine hN136 _ ?_
                      refine block_k fun B139 bn139 bx139 br139 bi139 => ?_
                      refine seq_k fun N140 M140 hN140 hM140 => ?_
                      refine draw_k [21, 22, 23, 24, 25, 26, 27, 28, 9] [0, 1, 3, 7, 0, 16, 48, 127, 255] [] mixed (by kernel_rfl) (by simp only [go_sem]) fun K141 hK141 => ?_
                      simp only [go_sem, decide_false, decide_true, Bool.not_true, Bool.not_false, h9, hcap0, hcap1, Nat.zero_add, hal, hall, hmx, hmx2, bytesR_rows, hb0, hb1, hb2, hb3, hg0, hg1, hg2, hg3, hge, hgt3, hp0, hp1, hp2, Int.toNat_zero, Int.toNat_one, Int.reduceToNat, Int.toNat_natCast, hnn, hnn2, hw1, hw2, hbc, hq1]
                      all_goals repeat' (first | apply And.intro | intro _)
                      all_goals
                        refine hK141 _ _ ?_ ?_
                        · first | trivial | (simp only [go_sem]; done) | (simp only [go_sem]; simp; done) | (simp only [go_sem]; simp; simp only [go_sem])
                        refine hN140 _ ?_
                        refine seq_k fun N142 M142 hN142 hM142 => ?_
                        refine block_k fun B143 bn143 bx143 br143 bi143 => ?_
                        refine seq_k fun N144 M144 hN144 hM144 => ?_
                        refine region_k fun K145 hK145 => ?_
                        simp only [go_sem, decide_false, decide_true, Bool.not_true, Bool.not_false, h9, hcap0, hcap1, Nat.zero_add, hal, hall, hmx, hmx2, bytesR_rows, hb0, hb1, hb2, hb3, hg0, hg1, hg2, hg3, hge, hgt3, hp0, hp1, hp2, Int.toNat_zero, Int.toNat_one, Int.reduceToNat, Int.toNat_natCast, hnn, hnn2, hw1, hw2, hbc, hq1]
                        all_goals repeat' (first | apply And.intro | intro _)
                        all_goals
                          refine hK145 _ ?_
                          refine hN144 _ ?_
                          refine cond_k rfl (fun hc => ?_) (fun hc => ?_)
                          · try simp only [go_sem, decide_false, decide_true, Bool.not_true, Bool.not_false, h9, hcap0, hcap1, Nat.zero_add, hal, hall, hmx, hmx2, bytesR_rows, hb0, hb1, hb2, hb3, hg0, hg1, hg2, hg3, hge, hgt3, hp0, hp1, hp2, Int.toNat_zero, Int.toNat_one, Int.reduceToNat, Int.toNat_natCast, hnn, hnn2, hw1, hw2, hbc, hq1] at hc
                            all_goals
                              refine seq_k fun N146 M146 hN146 hM146 => ?_
                              refine region_k fun K147 hK147 => ?_
                              simp only [go_sem, decide_false, decide_true, Bool.not_true, Bool.not_false, h9, hcap0, hcap1, Nat.zero_add, hal, hall, hmx, hmx2, bytesR_rows, hb0, hb1, hb2, hb3, hg0, hg1, hg2, hg3, hge, hgt3, hp0, hp1, hp2, Int.toNat_zero, Int.toNat_one, Int.reduceToNat, Int.toNat_natCast, hnn, hnn2, hw1, hw2, hbc, hq1]
                              all_goals repeat' (first | apply And.intro | intro _)
                              all_goals
                                refine hK147 _ ?_
                                refine hN146 _ ?_
                                refine ret_k ?_
                                refine br143 _ ?_
                                refine hM142 _ _ ?_
                                refine br139 _ ?_
                                refine hM12 _ _ ?_
                                refine br11 _ ?_
                                refine hM10 _ _ ?_
                                simp only [go_sem, decide_false, decide_true, Bool.not_true, Bool.not_false, h9, hcap0, hcap1, Nat.zero_add, hal, hall, hmx, hmx2, bytesR_rows, hb0, hb1, hb2, hb3, hg0, hg1, hg2, hg3, hge, hgt3, hp0, hp1, hp2, Int.toNat_zero, Int.toNat_one, Int.reduceToNat, Int.toNat_natCast, hnn, hnn2, hw1, hw2, hbc, hq1]
                                all_goals (rw [hfp, hfe]; exact feed_bad)
                          · exfalso; revert hc; simp [go_sem, decide_false, decide_true, Bool.not_true, Bool.not_false, h9, hcap0, hcap1, Nat.zero_add, hal, hall, hmx, hmx2, bytesR_rows, hb0, hb1, hb2, hb3, hg0, hg1, hg2, hg3, hge, hgt3, hp0, hp1, hp2, Int.toNat_zero, Int.toNat_one, Int.reduceToNat, Int.toNat_natCast, hnn, hnn2, hw1, hw2, hbc, hq1]
                  · exfalso; revert hc; simp [go_sem, decide_false, decide_true, Bool.not_true, Bool.not_false, h9, hcap0, hcap1, Nat.zero_add, hal, hall, hmx, hmx2, bytesR_rows, hb0, hb1, hb2, hb3, hg0, hg1, hg2, hg3, hge, hgt3, hp0, hp1, hp2, Int.toNat_zero, Int.toNat_one, Int.reduceToNat, Int.toNat_natCast, hnn, hnn2, hw1, hw2, hbc, hq1]
              · simp only [fV_of _ hl0, fM_of _ hl0, List.cons_append, List.nil_append]
                have hlb : 4 * l.length + bt.length ≤ all.length := hv.2.2
                have hfe := feed_fault hv hs (hf_kind (.inr hk)) (by decide)
                obtain ⟨b0, hb0⟩ : ∃ b, bt.getD 0 0 = b := ⟨_, rfl⟩
                obtain ⟨b1, hb1⟩ : ∃ b, bt.getD 1 0 = b := ⟨_, rfl⟩
                obtain ⟨b2, hb2⟩ : ∃ b, bt.getD 2 0 = b := ⟨_, rfl⟩
                obtain ⟨b3, hb3⟩ : ∃ b, bt.getD 3 0 = b := ⟨_, rfl⟩
                have hg0 := rowG (bs := bt) (i := 0) (by omega) hb0
                have hg1 := rowG (bs := bt) (i := 1) (by omega) hb1
                have hg2 := rowG (bs := bt) (i := 2) (by omega) hb2
                have hg3 := rowG (bs := bt) (i := 3) (by omega) hb3
                obtain ⟨n, hn⟩ : ∃ x, nOf bt = x := ⟨_, rfl⟩
                have hk0 : kOf bt = b0.toNat := by rw [kOf, hb0]
                have hn0 : 256 * b2.toNat + b3.toNat = n := by rw [← hn, nOf, hb2, hb3]
                have hnl : n < 65536 := hn ▸ nOf_lt bt
                have hl0 := b0.toNat_lt
                have hl1 := b1.toNat_lt
                have hl2 := b2.toNat_lt
                have hl3 := b3.toNat_lt
                have hid : b1.toNat ≤ 255 := by omega
                have hge : (4 : Int) ≤ ((bt.length : Nat) : Int) := by omega
                have hgt3 : (3 : Int) < ((bt.length : Nat) : Int) := by omega
                have hp0 : (0 : Int) < ((bt.length : Nat) : Int) := by omega
                have hp1 : (1 : Int) < ((bt.length : Nat) : Int) := by omega
                have hp2 : (2 : Int) < ((bt.length : Nat) : Int) := by omega
                have hlo : bt.length ≤ all.length := by have := hv.2.2; simp only at this; omega
                rw [hk0] at hk
                have hq1 : (b0 < 1) = False := eq_false fun h => by have := UInt8.lt_iff_toNat_lt.mp h; simp at this; omega
                have hq2 : (5 < b0) = True := eq_true (UInt8.lt_iff_toNat_lt.mpr hk)
                obtain ⟨hnn, hnn2, hw1, hw2, hcap⟩ : ior (ishl ((b2.toNat : Nat) : Int) (UInt64.toNat 8)) ((b3.toNat : Nat) : Int) = ((n : Nat) : Int) ∧ Go.RowKit.wrap64 (Go.RowKit.wrap64 (((b2.toNat : Nat) : Int) * 256) + ((b3.toNat : Nat) : Int)) = ((n : Nat) : Int) ∧ Go.RowKit.wrap64 (4 + ((n : Nat) : Int)) = ((n + 4 : Nat) : Int) ∧ Go.RowKit.wrap64 (((bt.length : Nat) : Int) - 4) = ((bt.length - 4 : Nat) : Int) ∧ (l.length + 1) * 40 ≤ 140737488355328 := ⟨n_shl hl2 hl3 hn0, n_mul hl2 hl3 hn0, wnat (by omega) (by omega), wnat (by omega) (by omega), by omega⟩
                have hbc : bt.length ≤ 140737488355328 := by clear hnn hnn2 hw1 hw2 hcap; omega
                
                refine seq_k fun N148 M148 hN148 hM148 => ?_
                refine seq_k fun N149 M149 hN149 hM149 => ?_
                refine region_k fun K150 hK150 => ?_
                simp only [go_sem, decide_false, decide_true, Bool.not_true, Bool.not_false, h9, hcap0, hcap1, Nat.zero_add, hal, hall, hmx, hmx2, bytesR_rows, hb0, hb1, hb2, hb3, hg0, hg1, hg2, hg3, hge, hgt3, hp0, hp1, hp2, Int.toNat_zero, Int.toNat_one, Int.reduceToNat, Int.toNat_natCast, hnn, hnn2, hw1, hw2, hbc, hq1, hq2]
                all_goals repeat' (first | apply And.intro | intro _)
                all_goals
                  refine hK150 _ ?_
                  refine hN149 _ ?_
                  refine cond_k rfl (fun hc => ?_) (fun hc => ?_)
                  · try simp only [go_sem, decide_false, decide_true, Bool.not_true, Bool.not_false, h9, hcap0, hcap1, Nat.zero_add, hal, hall, hmx, hmx2, bytesR_rows, hb0, hb1, hb2, hb3, hg0, hg1, hg2, hg3, hge, hgt3, hp0, hp1, hp2, Int.toNat_zero, Int.toNat_one, Int.reduceToNat, Int.toNat_natCast, hnn, hnn2, hw1, hw2, hbc, hq1, hq2] at hc
                    all_goals
                      refine skip_k ?_
                      refine hN148 _ ?_
                      refine block_k fun B151 bn151 bx151 br151 bi151 => ?_
                      refine seq_k fun N152 M152 hN152 hM152 => ?_
                      refine draw_k [21, 22, 23, 24, 25, 26, 27, 28, 9] [0, 1, 3, 7, 0, 16, 48, 127, 255] [] mixed (by kernel_rfl) (by simp only [go_sem]) fun K153 hK153 => ?_
                      simp only [go_sem, decide_false, decide_true, Bool.not_true, Bool.not_false, h9, hcap0, hcap1, Nat.zero_add, hal, hall, hmx, hmx2, bytesR_rows, hb0, hb1, hb2, hb3, hg0, hg1, hg2, hg3, hge, hgt3, hp0, hp1, hp2, Int.toNat_zero, Int.toNat_one, Int.reduceToNat, Int.toNat_natCast, hnn, hnn2, hw1, hw2, hbc, hq1, hq2]
                      all_goals repeat' (first | apply And.intro | intro _)
                      all_goals
                        refine hK153 _ _ ?_ ?_
                        · first | trivial | (simp only [go_sem]; done) | (simp only [go_sem]; simp; done) | (simp only [go_sem]; simp; simp only [go_sem])
                        refine hN152 _ ?_
                        refine seq_k fun N154 M154 hN154 hM154 => ?_
                        refine block_k fun B155 bn155 bx155 br155 bi155 => ?_
                        refine seq_k fun N156 M156 hN156 hM156 => ?_
                        refine region_k fun K157 hK157 => ?_
                        simp only [go_sem, decide_false, decide_true, Bool.not_true, Bool.not_false, h9, hcap0, hcap1, Nat.zero_add, hal, hall, hmx, hmx2, bytesR_rows, hb0, hb1, hb2, hb3, hg0, hg1, hg2, hg3, hge, hgt3, hp0, hp1, hp2, Int.toNat_zero, Int.toNat_one, Int.reduceToNat, Int.toNat_natCast, hnn, hnn2, hw1, hw2, hbc, hq1, hq2]
                        all_goals repeat' (first | apply And.intro | intro _)
                        all_goals
                          refine hK157 _ ?_
                          refine hN156 _ ?_
                          refine cond_k rfl (fun hc => ?_) (fun hc => ?_)
                          · try simp only [go_sem, decide_false, decide_true, Bool.not_true, Bool.not_false, h9, hcap0, hcap1, Nat.zero_add, hal, hall, hmx, hmx2, bytesR_rows, hb0, hb1, hb2, hb3, hg0, hg1, hg2, hg3, hge, hgt3, hp0, hp1, hp2, Int.toNat_zero, Int.toNat_one, Int.reduceToNat, Int.toNat_natCast, hnn, hnn2, hw1, hw2, hbc, hq1, hq2] at hc
                            all_goals
                              refine seq_k fun N158 M158 hN158 hM158 => ?_
                              refine region_k fun K159 hK159 => ?_
                              simp only [go_sem, decide_false, decide_true, Bool.not_true, Bool.not_false, h9, hcap0, hcap1, Nat.zero_add, hal, hall, hmx, hmx2, bytesR_rows, hb0, hb1, hb2, hb3, hg0, hg1, hg2, hg3, hge, hgt3, hp0, hp1, hp2, Int.toNat_zero, Int.toNat_one, Int.reduceToNat, Int.toNat_natCast, hnn, hnn2, hw1, hw2, hbc, hq1, hq2]
                              all_goals repeat' (first | apply And.intro | intro _)
                              all_goals
                                refine hK159 _ ?_
                                refine hN158 _ ?_
                                refine ret_k ?_
                                refine br155 _ ?_
                                refine hM154 _ _ ?_
                                refine br151 _ ?_
                                refine hM12 _ _ ?_
                                refine br11 _ ?_
                                refine hM10 _ _ ?_
                                simp only [go_sem, decide_false, decide_true, Bool.not_true, Bool.not_false, h9, hcap0, hcap1, Nat.zero_add, hal, hall, hmx, hmx2, bytesR_rows, hb0, hb1, hb2, hb3, hg0, hg1, hg2, hg3, hge, hgt3, hp0, hp1, hp2, Int.toNat_zero, Int.toNat_one, Int.reduceToNat, Int.toNat_natCast, hnn, hnn2, hw1, hw2, hbc, hq1, hq2]
                                all_goals (rw [hfp, hfe]; exact feed_bad)
                          · exfalso; revert hc; simp [go_sem, decide_false, decide_true, Bool.not_true, Bool.not_false, h9, hcap0, hcap1, Nat.zero_add, hal, hall, hmx, hmx2, bytesR_rows, hb0, hb1, hb2, hb3, hg0, hg1, hg2, hg3, hge, hgt3, hp0, hp1, hp2, Int.toNat_zero, Int.toNat_one, Int.reduceToNat, Int.toNat_natCast, hnn, hnn2, hw1, hw2, hbc, hq1, hq2]
                  · exfalso; revert hc; simp [go_sem, decide_false, decide_true, Bool.not_true, Bool.not_false, h9, hcap0, hcap1, Nat.zero_add, hal, hall, hmx, hmx2, bytesR_rows, hb0, hb1, hb2, hb3, hg0, hg1, hg2, hg3, hge, hgt3, hp0, hp1, hp2, Int.toNat_zero, Int.toNat_one, Int.reduceToNat, Int.toNat_natCast, hnn, hnn2, hw1, hw2, hbc, hq1, hq2]
              · simp only [fV_of _ hl0, fM_of _ hl0, List.cons_append, List.nil_append]
                have hlb : 4 * l.length + bt.length ≤ all.length := hv.2.2
                have hfe := feed_fault hv hs (hf_size hk1 hk2 hnz) (by decide)
                obtain ⟨b0, hb0⟩ : ∃ b, bt.getD 0 0 = b := ⟨_, rfl⟩
                obtain ⟨b1, hb1⟩ : ∃ b, bt.getD 1 0 = b := ⟨_, rfl⟩
                obtain ⟨b2, hb2⟩ : ∃ b, bt.getD 2 0 = b := ⟨_, rfl⟩
                obtain ⟨b3, hb3⟩ : ∃ b, bt.getD 3 0 = b := ⟨_, rfl⟩
                have hg0 := rowG (bs := bt) (i := 0) (by omega) hb0
                have hg1 := rowG (bs := bt) (i := 1) (by omega) hb1
                have hg2 := rowG (bs := bt) (i := 2) (by omega) hb2
                have hg3 := rowG (bs := bt) (i := 3) (by omega) hb3
                obtain ⟨n, hn⟩ : ∃ x, nOf bt = x := ⟨_, rfl⟩
                have hk0 : kOf bt = b0.toNat := by rw [kOf, hb0]
                have hn0 : 256 * b2.toNat + b3.toNat = n := by rw [← hn, nOf, hb2, hb3]
                have hnl : n < 65536 := hn ▸ nOf_lt bt
                have hl0 := b0.toNat_lt
                have hl1 := b1.toNat_lt
                have hl2 := b2.toNat_lt
                have hl3 := b3.toNat_lt
                have hid : b1.toNat ≤ 255 := by omega
                have hge : (4 : Int) ≤ ((bt.length : Nat) : Int) := by omega
                have hgt3 : (3 : Int) < ((bt.length : Nat) : Int) := by omega
                have hp0 : (0 : Int) < ((bt.length : Nat) : Int) := by omega
                have hp1 : (1 : Int) < ((bt.length : Nat) : Int) := by omega
                have hp2 : (2 : Int) < ((bt.length : Nat) : Int) := by omega
                have hlo : bt.length ≤ all.length := by have := hv.2.2; simp only at this; omega
                rw [hk0] at hk1 hk2
                rw [hn] at hnz
                have hq1 : (b0 < 1) = False := eq_false fun h => by have := UInt8.lt_iff_toNat_lt.mp h; simp at this; omega
                have hq2 : (5 < b0) = False := eq_false fun h => by have := UInt8.lt_iff_toNat_lt.mp h; simp at this; omega
                have hq3 : (900 : Int) < ((n : Nat) : Int) := by omega
                obtain ⟨hnn, hnn2, hw1, hw2, hcap⟩ : ior (ishl ((b2.toNat : Nat) : Int) (UInt64.toNat 8)) ((b3.toNat : Nat) : Int) = ((n : Nat) : Int) ∧ Go.RowKit.wrap64 (Go.RowKit.wrap64 (((b2.toNat : Nat) : Int) * 256) + ((b3.toNat : Nat) : Int)) = ((n : Nat) : Int) ∧ Go.RowKit.wrap64 (4 + ((n : Nat) : Int)) = ((n + 4 : Nat) : Int) ∧ Go.RowKit.wrap64 (((bt.length : Nat) : Int) - 4) = ((bt.length - 4 : Nat) : Int) ∧ (l.length + 1) * 40 ≤ 140737488355328 := ⟨n_shl hl2 hl3 hn0, n_mul hl2 hl3 hn0, wnat (by omega) (by omega), wnat (by omega) (by omega), by omega⟩
                have hbc : bt.length ≤ 140737488355328 := by clear hnn hnn2 hw1 hw2 hcap; omega
                
                refine seq_k fun N160 M160 hN160 hM160 => ?_
                refine seq_k fun N161 M161 hN161 hM161 => ?_
                refine region_k fun K162 hK162 => ?_
                simp only [go_sem, decide_false, decide_true, Bool.not_true, Bool.not_false, h9, hcap0, hcap1, Nat.zero_add, hal, hall, hmx, hmx2, bytesR_rows, hb0, hb1, hb2, hb3, hg0, hg1, hg2, hg3, hge, hgt3, hp0, hp1, hp2, Int.toNat_zero, Int.toNat_one, Int.reduceToNat, Int.toNat_natCast, hnn, hnn2, hw1, hw2, hbc, hq1, hq2, hq3]
                all_goals repeat' (first | apply And.intro | intro _)
                all_goals
                  refine hK162 _ ?_
                  refine hN161 _ ?_
                  refine cond_k rfl (fun hc => ?_) (fun hc => ?_)
                  · try simp only [go_sem, decide_false, decide_true, Bool.not_true, Bool.not_false, h9, hcap0, hcap1, Nat.zero_add, hal, hall, hmx, hmx2, bytesR_rows, hb0, hb1, hb2, hb3, hg0, hg1, hg2, hg3, hge, hgt3, hp0, hp1, hp2, Int.toNat_zero, Int.toNat_one, Int.reduceToNat, Int.toNat_natCast, hnn, hnn2, hw1, hw2, hbc, hq1, hq2, hq3] at hc
                    all_goals
                      refine skip_k ?_
                      refine hN160 _ ?_
                      refine block_k fun B163 bn163 bx163 br163 bi163 => ?_
                      refine seq_k fun N164 M164 hN164 hM164 => ?_
                      refine draw_k [21, 22, 23, 24, 25, 26, 27, 28, 9] [0, 1, 3, 7, 0, 16, 48, 127, 255] [] mixed (by kernel_rfl) (by simp only [go_sem]) fun K165 hK165 => ?_
                      simp only [go_sem, decide_false, decide_true, Bool.not_true, Bool.not_false, h9, hcap0, hcap1, Nat.zero_add, hal, hall, hmx, hmx2, bytesR_rows, hb0, hb1, hb2, hb3, hg0, hg1, hg2, hg3, hge, hgt3, hp0, hp1, hp2, Int.toNat_zero, Int.toNat_one, Int.reduceToNat, Int.toNat_natCast, hnn, hnn2, hw1, hw2, hbc, hq1, hq2, hq3]
                      all_goals repeat' (first | apply And.intro | intro _)
                      all_goals
                        refine hK165 _ _ ?_ ?_
                        · first | trivial | (simp only [go_sem]; done) | (simp only [go_sem]; simp; done) | (simp only [go_sem]; simp; simp only [go_sem])
                        refine hN164 _ ?_
                        refine seq_k fun N166 M166 hN166 hM166 => ?_
                        refine block_k fun B167 bn167 bx167 br167 bi167 => ?_
                        refine seq_k fun N168 M168 hN168 hM168 => ?_
                        refine region_k fun K169 hK169 => ?_
                        simp only [go_sem, decide_false, decide_true, Bool.not_true, Bool.not_false, h9, hcap0, hcap1, Nat.zero_add, hal, hall, hmx, hmx2, bytesR_rows, hb0, hb1, hb2, hb3, hg0, hg1, hg2, hg3, hge, hgt3, hp0, hp1, hp2, Int.toNat_zero, Int.toNat_one, Int.reduceToNat, Int.toNat_natCast, hnn, hnn2, hw1, hw2, hbc, hq1, hq2, hq3]
                        all_goals repeat' (first | apply And.intro | intro _)
                        all_goals
                          refine hK169 _ ?_
                          refine hN168 _ ?_
                          refine cond_k rfl (fun hc => ?_) (fun hc => ?_)
                          · exfalso; revert hc; simp [go_sem, decide_false, decide_true, Bool.not_true, Bool.not_false, h9, hcap0, hcap1, Nat.zero_add, hal, hall, hmx, hmx2, bytesR_rows, hb0, hb1, hb2, hb3, hg0, hg1, hg2, hg3, hge, hgt3, hp0, hp1, hp2, Int.toNat_zero, Int.toNat_one, Int.reduceToNat, Int.toNat_natCast, hnn, hnn2, hw1, hw2, hbc, hq1, hq2, hq3]
                          · try simp only [go_sem, decide_false, decide_true, Bool.not_true, Bool.not_false, h9, hcap0, hcap1, Nat.zero_add, hal, hall, hmx, hmx2, bytesR_rows, hb0, hb1, hb2, hb3, hg0, hg1, hg2, hg3, hge, hgt3, hp0, hp1, hp2, Int.toNat_zero, Int.toNat_one, Int.reduceToNat, Int.toNat_natCast, hnn, hnn2, hw1, hw2, hbc, hq1, hq2, hq3] at hc
                            all_goals
                              refine seq_k fun N170 M170 hN170 hM170 => ?_
                              refine region_k fun K171 hK171 => ?_
                              simp only [go_sem, decide_false, decide_true, Bool.not_true, Bool.not_false, h9, hcap0, hcap1, Nat.zero_add, hal, hall, hmx, hmx2, bytesR_rows, hb0, hb1, hb2, hb3, hg0, hg1, hg2, hg3, hge, hgt3, hp0, hp1, hp2, Int.toNat_zero, Int.toNat_one, Int.reduceToNat, Int.toNat_natCast, hnn, hnn2, hw1, hw2, hbc, hq1, hq2, hq3]
                              all_goals repeat' (first | apply And.intro | intro _)
                              all_goals
                                refine hK171 _ ?_
                                refine hN170 _ ?_
                                refine cond_k rfl (fun hc => ?_) (fun hc => ?_)
                                · try simp only [go_sem, decide_false, decide_true, Bool.not_true, Bool.not_false, h9, hcap0, hcap1, Nat.zero_add, hal, hall, hmx, hmx2, bytesR_rows, hb0, hb1, hb2, hb3, hg0, hg1, hg2, hg3, hge, hgt3, hp0, hp1, hp2, Int.toNat_zero, Int.toNat_one, Int.reduceToNat, Int.toNat_natCast, hnn, hnn2, hw1, hw2, hbc, hq1, hq2, hq3] at hc
                                  all_goals
                                    refine seq_k fun N172 M172 hN172 hM172 => ?_
                                    refine region_k fun K173 hK173 => ?_
                                    simp only [go_sem, decide_false, decide_true, Bool.not_true, Bool.not_false, h9, hcap0, hcap1, Nat.zero_add, hal, hall, hmx, hmx2, bytesR_rows, hb0, hb1, hb2, hb3, hg0, hg1, hg2, hg3, hge, hgt3, hp0, hp1, hp2, Int.toNat_zero, Int.toNat_one, Int.reduceToNat, Int.toNat_natCast, hnn, hnn2, hw1, hw2, hbc, hq1, hq2, hq3]
                                    all_goals repeat' (first | apply And.intro | intro _)
                                    all_goals
                                      refine hK173 _ ?_
                                      refine hN172 _ ?_
                                      refine ret_k ?_
                                      refine br167 _ ?_
                                      refine hM166 _ _ ?_
                                      refine br163 _ ?_
                                      refine hM12 _ _ ?_
                                      refine br11 _ ?_
                                      refine hM10 _ _ ?_
                                      simp only [go_sem, decide_false, decide_true, Bool.not_true, Bool.not_false, h9, hcap0, hcap1, Nat.zero_add, hal, hall, hmx, hmx2, bytesR_rows, hb0, hb1, hb2, hb3, hg0, hg1, hg2, hg3, hge, hgt3, hp0, hp1, hp2, Int.toNat_zero, Int.toNat_one, Int.reduceToNat, Int.toNat_natCast, hnn, hnn2, hw1, hw2, hbc, hq1, hq2, hq3]
                                      all_goals (rw [hfp, hfe]; exact feed_bad)
                                · exfalso; revert hc; simp [go_sem, decide_false, decide_true, Bool.not_true, Bool.not_false, h9, hcap0, hcap1, Nat.zero_add, hal, hall, hmx, hmx2, bytesR_rows, hb0, hb1, hb2, hb3, hg0, hg1, hg2, hg3, hge, hgt3, hp0, hp1, hp2, Int.toNat_zero, Int.toNat_one, Int.reduceToNat, Int.toNat_natCast, hnn, hnn2, hw1, hw2, hbc, hq1, hq2, hq3]
                  · exfalso; revert hc; simp [go_sem, decide_false, decide_true, Bool.not_true, Bool.not_false, h9, hcap0, hcap1, Nat.zero_add, hal, hall, hmx, hmx2, bytesR_rows, hb0, hb1, hb2, hb3, hg0, hg1, hg2, hg3, hge, hgt3, hp0, hp1, hp2, Int.toNat_zero, Int.toNat_one, Int.reduceToNat, Int.toNat_natCast, hnn, hnn2, hw1, hw2, hbc, hq1, hq2, hq3]
              · simp only [fV_of _ hl0, fM_of _ hl0, List.cons_append, List.nil_append]
                have hlb : 4 * l.length + bt.length ≤ all.length := hv.2.2
                have hfe := feed_fault hv hs (hf_form hk hn1 hnz) (by decide)
                obtain ⟨b0, hb0⟩ : ∃ b, bt.getD 0 0 = b := ⟨_, rfl⟩
                obtain ⟨b1, hb1⟩ : ∃ b, bt.getD 1 0 = b := ⟨_, rfl⟩
                obtain ⟨b2, hb2⟩ : ∃ b, bt.getD 2 0 = b := ⟨_, rfl⟩
                obtain ⟨b3, hb3⟩ : ∃ b, bt.getD 3 0 = b := ⟨_, rfl⟩
                have hg0 := rowG (bs := bt) (i := 0) (by omega) hb0
                have hg1 := rowG (bs := bt) (i := 1) (by omega) hb1
                have hg2 := rowG (bs := bt) (i := 2) (by omega) hb2
                have hg3 := rowG (bs := bt) (i := 3) (by omega) hb3
                obtain ⟨n, hn⟩ : ∃ x, nOf bt = x := ⟨_, rfl⟩
                have hk0 : kOf bt = b0.toNat := by rw [kOf, hb0]
                have hn0 : 256 * b2.toNat + b3.toNat = n := by rw [← hn, nOf, hb2, hb3]
                have hnl : n < 65536 := hn ▸ nOf_lt bt
                have hl0 := b0.toNat_lt
                have hl1 := b1.toNat_lt
                have hl2 := b2.toNat_lt
                have hl3 := b3.toNat_lt
                have hid : b1.toNat ≤ 255 := by omega
                have hge : (4 : Int) ≤ ((bt.length : Nat) : Int) := by omega
                have hgt3 : (3 : Int) < ((bt.length : Nat) : Int) := by omega
                have hp0 : (0 : Int) < ((bt.length : Nat) : Int) := by omega
                have hp1 : (1 : Int) < ((bt.length : Nat) : Int) := by omega
                have hp2 : (2 : Int) < ((bt.length : Nat) : Int) := by omega
                have hlo : bt.length ≤ all.length := by have := hv.2.2; simp only at this; omega
                rw [hk0] at hk
                rw [hn] at hn1 hnz
                have hk1 : 1 ≤ b0.toNat := by omega
                have hk2 : b0.toNat ≤ 5 := by omega
                have hq1 : (b0 < 1) = False := eq_false fun h => by have := UInt8.lt_iff_toNat_lt.mp h; simp at this; omega
                have hq2 : (5 < b0) = False := eq_false fun h => by have := UInt8.lt_iff_toNat_lt.mp h; simp at this; omega
                have hq3 : ¬ (900 : Int) < ((n : Nat) : Int) := by omega
                have hq4 : (((b0.toNat : Nat) : Int) = 5) = True := eq_true (by omega)
                have hq5 : (0 : Int) < ((n : Nat) : Int) := by omega
                have hq6 : (b0 = 5) = True := eq_true (UInt8.toNat_inj.mp hk)
                obtain ⟨hnn, hnn2, hw1, hw2, hcap⟩ : ior (ishl ((b2.toNat : Nat) : Int) (UInt64.toNat 8)) ((b3.toNat : Nat) : Int) = ((n : Nat) : Int) ∧ Go.RowKit.wrap64 (Go.RowKit.wrap64 (((b2.toNat : Nat) : Int) * 256) + ((b3.toNat : Nat) : Int)) = ((n : Nat) : Int) ∧ Go.RowKit.wrap64 (4 + ((n : Nat) : Int)) = ((n + 4 : Nat) : Int) ∧ Go.RowKit.wrap64 (((bt.length : Nat) : Int) - 4) = ((bt.length - 4 : Nat) : Int) ∧ (l.length + 1) * 40 ≤ 140737488355328 := ⟨n_shl hl2 hl3 hn0, n_mul hl2 hl3 hn0, wnat (by omega) (by omega), wnat (by omega) (by omega), by omega⟩
                have hbc : bt.length ≤ 140737488355328 := by clear hnn hnn2 hw1 hw2 hcap; omega
                
                refine seq_k fun N174 M174 hN174 hM174 => ?_
                refine seq_k fun N175 M175 hN175 hM175 => ?_
                refine region_k fun K176 hK176 => ?_
                simp only [go_sem, decide_false, decide_true, Bool.not_true, Bool.not_false, h9, hcap0, hcap1, Nat.zero_add, hal, hall, hmx, hmx2, bytesR_rows, hb0, hb1, hb2, hb3, hg0, hg1, hg2, hg3, hge, hgt3, hp0, hp1, hp2, Int.toNat_zero, Int.toNat_one, Int.reduceToNat, Int.toNat_natCast, hnn, hnn2, hw1, hw2, hbc, hq1, hq2, hq3, hq4, hq5, hq6]
                all_goals repeat' (first | apply And.intro | intro _)
                all_goals
                  refine hK176 _ ?_
                  refine hN175 _ ?_
                  refine cond_k rfl (fun hc => ?_) (fun hc => ?_)
                  · try simp only [go_sem, decide_false, decide_true, Bool.not_true, Bool.not_false, h9, hcap0, hcap1, Nat.zero_add, hal, hall, hmx, hmx2, bytesR_rows, hb0, hb1, hb2, hb3, hg0, hg1, hg2, hg3, hge, hgt3, hp0, hp1, hp2, Int.toNat_zero, Int.toNat_one, Int.reduceToNat, Int.toNat_natCast, hnn, hnn2, hw1, hw2, hbc, hq1, hq2, hq3, hq4, hq5, hq6] at hc
                    all_goals
                      refine skip_k ?_
                      refine hN174 _ ?_
                      refine block_k fun B177 bn177 bx177 br177 bi177 => ?_
                      refine seq_k fun N178 M178 hN178 hM178 => ?_
                      refine draw_k [21, 22, 23, 24, 25, 26, 27, 28, 9] [0, 1, 3, 7, 0, 16, 48, 127, 255] [] mixed (by kernel_rfl) (by simp only [go_sem]) fun K179 hK179 => ?_
                      simp only [go_sem, decide_false, decide_true, Bool.not_true, Bool.not_false, h9, hcap0, hcap1, Nat.zero_add, hal, hall, hmx, hmx2, bytesR_rows, hb0, hb1, hb2, hb3, hg0, hg1, hg2, hg3, hge, hgt3, hp0, hp1, hp2, Int.toNat_zero, Int.toNat_one, Int.reduceToNat, Int.toNat_natCast, hnn, hnn2, hw1, hw2, hbc, hq1, hq2, hq3, hq4, hq5, hq6]
                      all_goals repeat' (first | apply And.intro | intro _)
                      all_goals
                        refine hK179 _ _ ?_ ?_
                        · first | trivial | (simp only [go_sem]; done) | (simp only [go_sem]; simp; done) | (simp only [go_sem]; simp; simp only [go_sem])
                        refine hN178 _ ?_
                        refine seq_k fun N180 M180 hN180 hM180 => ?_
                        refine block_k fun B181 bn181 bx181 br181 bi181 => ?_
                        refine seq_k fun N182 M182 hN182 hM182 => ?_
                        refine region_k fun K183 hK183 => ?_
                        simp only [go_sem, decide_false, decide_true, Bool.not_true, Bool.not_false, h9, hcap0, hcap1, Nat.zero_add, hal, hall, hmx, hmx2, bytesR_rows, hb0, hb1, hb2, hb3, hg0, hg1, hg2, hg3, hge, hgt3, hp0, hp1, hp2, Int.toNat_zero, Int.toNat_one, Int.reduceToNat, Int.toNat_natCast, hnn, hnn2, hw1, hw2, hbc, hq1, hq2, hq3, hq4, hq5, hq6]
                        all_goals repeat' (first | apply And.intro | intro _)
                        all_goals
                          refine hK183 _ ?_
                          refine hN182 _ ?_
                          refine cond_k rfl (fun hc => ?_) (fun hc => ?_)
                          · exfalso; revert hc; simp [go_sem, decide_false, decide_true, Bool.not_true, Bool.not_false, h9, hcap0, hcap1, Nat.zero_add, hal, hall, hmx, hmx2, bytesR_rows, hb0, hb1, hb2, hb3, hg0, hg1, hg2, hg3, hge, hgt3, hp0, hp1, hp2, Int.toNat_zero, Int.toNat_one, Int.reduceToNat, Int.toNat_natCast, hnn, hnn2, hw1, hw2, hbc, hq1, hq2, hq3, hq4, hq5, hq6]
                          · try simp only [go_sem, decide_false, decide_true, Bool.not_true, Bool.not_false, h9, hcap0, hcap1, Nat.zero_add, hal, hall, hmx, hmx2, bytesR_rows, hb0, hb1, hb2, hb3, hg0, hg1, hg2, hg3, hge, hgt3, hp0, hp1, hp2, Int.toNat_zero, Int.toNat_one, Int.reduceToNat, Int.toNat_natCast, hnn, hnn2, hw1, hw2, hbc, hq1, hq2, hq3, hq4, hq5, hq6] at hc
                            all_goals
                              refine seq_k fun N184 M184 hN184 hM184 => ?_
                              refine region_k fun K185 hK185 => ?_
                              simp only [go_sem, decide_false, decide_true, Bool.not_true, Bool.not_false, h9, hcap0, hcap1, Nat.zero_add, hal, hall, hmx, hmx2, bytesR_rows, hb0, hb1, hb2, hb3, hg0, hg1, hg2, hg3, hge, hgt3, hp0, hp1, hp2, Int.toNat_zero, Int.toNat_one, Int.reduceToNat, Int.toNat_natCast, hnn, hnn2, hw1, hw2, hbc, hq1, hq2, hq3, hq4, hq5, hq6]
                              all_goals repeat' (first | apply And.intro | intro _)
                              all_goals
                                refine hK185 _ ?_
                                refine hN184 _ ?_
                                refine cond_k rfl (fun hc => ?_) (fun hc => ?_)
                                · exfalso; revert hc; simp [go_sem, decide_false, decide_true, Bool.not_true, Bool.not_false, h9, hcap0, hcap1, Nat.zero_add, hal, hall, hmx, hmx2, bytesR_rows, hb0, hb1, hb2, hb3, hg0, hg1, hg2, hg3, hge, hgt3, hp0, hp1, hp2, Int.toNat_zero, Int.toNat_one, Int.reduceToNat, Int.toNat_natCast, hnn, hnn2, hw1, hw2, hbc, hq1, hq2, hq3, hq4, hq5, hq6]
                                · try simp only [go_sem, decide_false, decide_true, Bool.not_true, Bool.not_false, h9, hcap0, hcap1, Nat.zero_add, hal, hall, hmx, hmx2, bytesR_rows, hb0, hb1, hb2, hb3, hg0, hg1, hg2, hg3, hge, hgt3, hp0, hp1, hp2, Int.toNat_zero, Int.toNat_one, Int.reduceToNat, Int.toNat_natCast, hnn, hnn2, hw1, hw2, hbc, hq1, hq2, hq3, hq4, hq5, hq6] at hc
                                  all_goals
                                    refine seq_k fun N186 M186 hN186 hM186 => ?_
                                    refine region_k fun K187 hK187 => ?_
                                    simp only [go_sem, decide_false, decide_true, Bool.not_true, Bool.not_false, h9, hcap0, hcap1, Nat.zero_add, hal, hall, hmx, hmx2, bytesR_rows, hb0, hb1, hb2, hb3, hg0, hg1, hg2, hg3, hge, hgt3, hp0, hp1, hp2, Int.toNat_zero, Int.toNat_one, Int.reduceToNat, Int.toNat_natCast, hnn, hnn2, hw1, hw2, hbc, hq1, hq2, hq3, hq4, hq5, hq6]
                                    all_goals repeat' (first | apply And.intro | intro _)
                                    all_goals
                                      refine hK187 _ ?_
                                      refine hN186 _ ?_
                                      refine cond_k rfl (fun hc => ?_) (fun hc => ?_)
                                      · try simp only [go_sem, decide_false, decide_true, Bool.not_true, Bool.not_false, h9, hcap0, hcap1, Nat.zero_add, hal, hall, hmx, hmx2, bytesR_rows, hb0, hb1, hb2, hb3, hg0, hg1, hg2, hg3, hge, hgt3, hp0, hp1, hp2, Int.toNat_zero, Int.toNat_one, Int.reduceToNat, Int.toNat_natCast, hnn, hnn2, hw1, hw2, hbc, hq1, hq2, hq3, hq4, hq5, hq6] at hc
                                        all_goals
                                          refine seq_k fun N188 M188 hN188 hM188 => ?_
                                          refine region_k fun K189 hK189 => ?_
                                          simp only [go_sem, decide_false, decide_true, Bool.not_true, Bool.not_false, h9, hcap0, hcap1, Nat.zero_add, hal, hall, hmx, hmx2, bytesR_rows, hb0, hb1, hb2, hb3, hg0, hg1, hg2, hg3, hge, hgt3, hp0, hp1, hp2, Int.toNat_zero, Int.toNat_one, Int.reduceToNat, Int.toNat_natCast, hnn, hnn2, hw1, hw2, hbc, hq1, hq2, hq3, hq4, hq5, hq6]
                                          all_goals repeat' (first | apply And.intro | intro _)
                                          all_goals
                                            refine hK189 _ ?_
                                            refine hN188 _ ?_
                                            refine ret_k ?_
                                            refine br181 _ ?_
                                            refine hM180 _ _ ?_
                                            refine br177 _ ?_
                                            refine hM12 _ _ ?_
                                            refine br11 _ ?_
                                            refine hM10 _ _ ?_
                                            simp only [go_sem, decide_false, decide_true, Bool.not_true, Bool.not_false, h9, hcap0, hcap1, Nat.zero_add, hal, hall, hmx, hmx2, bytesR_rows, hb0, hb1, hb2, hb3, hg0, hg1, hg2, hg3, hge, hgt3, hp0, hp1, hp2, Int.toNat_zero, Int.toNat_one, Int.reduceToNat, Int.toNat_natCast, hnn, hnn2, hw1, hw2, hbc, hq1, hq2, hq3, hq4, hq5, hq6]
                                            all_goals (rw [hfp, hfe]; exact feed_bad)
                                      · exfalso; revert hc; simp [go_sem, decide_false, decide_true, Bool.not_true, Bool.not_false, h9, hcap0, hcap1, Nat.zero_add, hal, hall, hmx, hmx2, bytesR_rows, hb0, hb1, hb2, hb3, hg0, hg1, hg2, hg3, hge, hgt3, hp0, hp1, hp2, Int.toNat_zero, Int.toNat_one, Int.reduceToNat, Int.toNat_natCast, hnn, hnn2, hw1, hw2, hbc, hq1, hq2, hq3, hq4, hq5, hq6]
                  · exfalso; revert hc; simp [go_sem, decide_false, decide_true, Bool.not_true, Bool.not_false, h9, hcap0, hcap1, Nat.zero_add, hal, hall, hmx, hmx2, bytesR_rows, hb0, hb1, hb2, hb3, hg0, hg1, hg2, hg3, hge, hgt3, hp0, hp1, hp2, Int.toNat_zero, Int.toNat_one, Int.reduceToNat, Int.toNat_natCast, hnn, hnn2, hw1, hw2, hbc, hq1, hq2, hq3, hq4, hq5, hq6]
              · simp only [fV_of _ hl0, fM_of _ hl0, List.cons_append, List.nil_append]
                have hlb : 4 * l.length + bt.length ≤ all.length := hv.2.2
                have hfe := feed_wait hv hs (hf_ok hk1 (by omega) hnz (by omega)) hw
                obtain ⟨b0, hb0⟩ : ∃ b, bt.getD 0 0 = b := ⟨_, rfl⟩
                obtain ⟨b1, hb1⟩ : ∃ b, bt.getD 1 0 = b := ⟨_, rfl⟩
                obtain ⟨b2, hb2⟩ : ∃ b, bt.getD 2 0 = b := ⟨_, rfl⟩
                obtain ⟨b3, hb3⟩ : ∃ b, bt.getD 3 0 = b := ⟨_, rfl⟩
                have hg0 := rowG (bs := bt) (i := 0) (by omega) hb0
                have hg1 := rowG (bs := bt) (i := 1) (by omega) hb1
                have hg2 := rowG (bs := bt) (i := 2) (by omega) hb2
                have hg3 := rowG (bs := bt) (i := 3) (by omega) hb3
                obtain ⟨n, hn⟩ : ∃ x, nOf bt = x := ⟨_, rfl⟩
                have hk0 : kOf bt = b0.toNat := by rw [kOf, hb0]
                have hn0 : 256 * b2.toNat + b3.toNat = n := by rw [← hn, nOf, hb2, hb3]
                have hnl : n < 65536 := hn ▸ nOf_lt bt
                have hl0 := b0.toNat_lt
                have hl1 := b1.toNat_lt
                have hl2 := b2.toNat_lt
                have hl3 := b3.toNat_lt
                have hid : b1.toNat ≤ 255 := by omega
                have hge : (4 : Int) ≤ ((bt.length : Nat) : Int) := by omega
                have hgt3 : (3 : Int) < ((bt.length : Nat) : Int) := by omega
                have hp0 : (0 : Int) < ((bt.length : Nat) : Int) := by omega
                have hp1 : (1 : Int) < ((bt.length : Nat) : Int) := by omega
                have hp2 : (2 : Int) < ((bt.length : Nat) : Int) := by omega
                have hlo : bt.length ≤ all.length := by have := hv.2.2; simp only at this; omega
                rw [hk0] at hk1 hk2
                rw [hn] at hnz hw
                have hq1 : (b0 < 1) = False := eq_false fun h => by have := UInt8.lt_iff_toNat_lt.mp h; simp at this; omega
                have hq2 : (5 < b0) = False := eq_false fun h => by have := UInt8.lt_iff_toNat_lt.mp h; simp at this; omega
                have hq3 : ¬ (900 : Int) < ((n : Nat) : Int) := by omega
                have hq4 : ¬ ((b0.toNat : Nat) : Int) = 5 := by omega
                have hq6 : (b0 = 5) = False := eq_false fun h => by subst h; simp at hk2
                have hq7 : ((bt.length : Nat) : Int) < ((n + 4 : Nat) : Int) := by omega
                have hq8 : ((bt.length - 4 : Nat) : Int) < ((n : Nat) : Int) := by omega
                obtain ⟨hnn, hnn2, hw1, hw2, hcap⟩ : ior (ishl ((b2.toNat : Nat) : Int) (UInt64.toNat 8)) ((b3.toNat : Nat) : Int) = ((n : Nat) : Int) ∧ Go.RowKit.wrap64 (Go.RowKit.wrap64 (((b2.toNat : Nat) : Int) * 256) + ((b3.toNat : Nat) : Int)) = ((n : Nat) : Int) ∧ Go.RowKit.wrap64 (4 + ((n : Nat) : Int)) = ((n + 4 : Nat) : Int) ∧ Go.RowKit.wrap64 (((bt.length : Nat) : Int) - 4) = ((bt.length - 4 : Nat) : Int) ∧ (l.length + 1) * 40 ≤ 140737488355328 := ⟨n_shl hl2 hl3 hn0, n_mul hl2 hl3 hn0, wnat (by omega) (by omega), wnat (by omega) (by omega), by omega⟩
                have hbc : bt.length ≤ 140737488355328 := by clear hnn hnn2 hw1 hw2 hcap; omega
                
                refine seq_k fun N190 M190 hN190 hM190 => ?_
                refine seq_k fun N191 M191 hN191 hM191 => ?_
                refine region_k fun K192 hK192 => ?_
                simp only [go_sem, decide_false, decide_true, Bool.not_true, Bool.not_false, h9, hcap0, hcap1, Nat.zero_add, hal, hall, hmx, hmx2, bytesR_rows, hb0, hb1, hb2, hb3, hg0, hg1, hg2, hg3, hge, hgt3, hp0, hp1, hp2, Int.toNat_zero, Int.toNat_one, Int.reduceToNat, Int.toNat_natCast, hnn, hnn2, hw1, hw2, hbc, hq1, hq2, hq3, hq4, hq6, hq7, hq8]
                all_goals repeat' (first | apply And.intro | intro _)
                all_goals
                  refine hK192 _ ?_
                  refine hN191 _ ?_
                  refine cond_k rfl (fun hc => ?_) (fun hc => ?_)
                  · try simp only [go_sem, decide_false, decide_true, Bool.not_true, Bool.not_false, h9, hcap0, hcap1, Nat.zero_add, hal, hall, hmx, hmx2, bytesR_rows, hb0, hb1, hb2, hb3, hg0, hg1, hg2, hg3, hge, hgt3, hp0, hp1, hp2, Int.toNat_zero, Int.toNat_one, Int.reduceToNat, Int.toNat_natCast, hnn, hnn2, hw1, hw2, hbc, hq1, hq2, hq3, hq4, hq6, hq7, hq8] at hc
                    all_goals
                      refine skip_k ?_
                      refine hN190 _ ?_
                      refine block_k fun B193 bn193 bx193 br193 bi193 => ?_
                      refine seq_k fun N194 M194 hN194 hM194 => ?_
                      refine draw_k [21, 22, 23, 24, 25, 26, 27, 28, 9] [0, 1, 3, 7, 0, 16, 48, 127, 255] [] mixed (by kernel_rfl) (by simp only [go_sem]) fun K195 hK195 => ?_
                      simp only [go_sem, decide_false, decide_true, Bool.not_true, Bool.not_false, h9, hcap0, hcap1, Nat.zero_add, hal, hall, hmx, hmx2, bytesR_rows, hb0, hb1, hb2, hb3, hg0, hg1, hg2, hg3, hge, hgt3, hp0, hp1, hp2, Int.toNat_zero, Int.toNat_one, Int.reduceToNat, Int.toNat_natCast, hnn, hnn2, hw1, hw2, hbc, hq1, hq2, hq3, hq4, hq6, hq7, hq8]
                      all_goals repeat' (first | apply And.intro | intro _)
                      all_goals
                        refine hK195 _ _ ?_ ?_
                        · first | trivial | (simp only [go_sem]; done) | (simp only [go_sem]; simp; done) | (simp only [go_sem]; simp; simp only [go_sem])
                        refine hN194 _ ?_
                        refine seq_k fun N196 M196 hN196 hM196 => ?_
                        refine block_k fun B197 bn197 bx197 br197 bi197 => ?_
                        refine seq_k fun N198 M198 hN198 hM198 => ?_
                        refine region_k fun K199 hK199 => ?_
                        simp only [go_sem, decide_false, decide_true, Bool.not_true, Bool.not_false, h9, hcap0, hcap1, Nat.zero_add, hal, hall, hmx, hmx2, bytesR_rows, hb0, hb1, hb2, hb3, hg0, hg1, hg2, hg3, hge, hgt3, hp0, hp1, hp2, Int.toNat_zero, Int.toNat_one, Int.reduceToNat, Int.toNat_natCast, hnn, hnn2, hw1, hw2, hbc, hq1, hq2, hq3, hq4, hq6, hq7, hq8]
                        all_goals repeat' (first | apply And.intro | intro _)
                        all_goals
                          refine hK199 _ ?_
                          refine hN198 _ ?_
                          refine cond_k rfl (fun hc => ?_) (fun hc => ?_)
                          · exfalso; revert hc; simp [go_sem, decide_false, decide_true, Bool.not_true, Bool.not_false, h9, hcap0, hcap1, Nat.zero_add, hal, hall, hmx, hmx2, bytesR_rows, hb0, hb1, hb2, hb3, hg0, hg1, hg2, hg3, hge, hgt3, hp0, hp1, hp2, Int.toNat_zero, Int.toNat_one, Int.reduceToNat, Int.toNat_natCast, hnn, hnn2, hw1, hw2, hbc, hq1, hq2, hq3, hq4, hq6, hq7, hq8]
                          · try simp only [go_sem, decide_false, decide_true, Bool.not_true, Bool.not_false, h9, hcap0, hcap1, Nat.zero_add, hal, hall, hmx, hmx2, bytesR_rows, hb0, hb1, hb2, hb3, hg0, hg1, hg2, hg3, hge, hgt3, hp0, hp1, hp2, Int.toNat_zero, Int.toNat_one, Int.reduceToNat, Int.toNat_natCast, hnn, hnn2, hw1, hw2, hbc, hq1, hq2, hq3, hq4, hq6, hq7, hq8] at hc
                            all_goals
                              refine seq_k fun N200 M200 hN200 hM200 => ?_
                              refine region_k fun K201 hK201 => ?_
                              simp only [go_sem, decide_false, decide_true, Bool.not_true, Bool.not_false, h9, hcap0, hcap1, Nat.zero_add, hal, hall, hmx, hmx2, bytesR_rows, hb0, hb1, hb2, hb3, hg0, hg1, hg2, hg3, hge, hgt3, hp0, hp1, hp2, Int.toNat_zero, Int.toNat_one, Int.reduceToNat, Int.toNat_natCast, hnn, hnn2, hw1, hw2, hbc, hq1, hq2, hq3, hq4, hq6, hq7, hq8]
                              all_goals repeat' (first | apply And.intro | intro _)
                              all_goals
                                refine hK201 _ ?_
                                refine hN200 _ ?_
                                refine cond_k rfl (fun hc => ?_) (fun hc => ?_)
                                · exfalso; revert hc; simp [go_sem, decide_false, decide_true, Bool.not_true, Bool.not_false, h9, hcap0, hcap1, Nat.zero_add, hal, hall, hmx, hmx2, bytesR_rows, hb0, hb1, hb2, hb3, hg0, hg1, hg2, hg3, hge, hgt3, hp0, hp1, hp2, Int.toNat_zero, Int.toNat_one, Int.reduceToNat, Int.toNat_natCast, hnn, hnn2, hw1, hw2, hbc, hq1, hq2, hq3, hq4, hq6, hq7, hq8]
                                · try simp only [go_sem, decide_false, decide_true, Bool.not_true, Bool.not_false, h9, hcap0, hcap1, Nat.zero_add, hal, hall, hmx, hmx2, bytesR_rows, hb0, hb1, hb2, hb3, hg0, hg1, hg2, hg3, hge, hgt3, hp0, hp1, hp2, Int.toNat_zero, Int.toNat_one, Int.reduceToNat, Int.toNat_natCast, hnn, hnn2, hw1, hw2, hbc, hq1, hq2, hq3, hq4, hq6, hq7, hq8] at hc
                                  all_goals
                                    refine seq_k fun N202 M202 hN202 hM202 => ?_
                                    refine region_k fun K203 hK203 => ?_
                                    simp only [go_sem, decide_false, decide_true, Bool.not_true, Bool.not_false, h9, hcap0, hcap1, Nat.zero_add, hal, hall, hmx, hmx2, bytesR_rows, hb0, hb1, hb2, hb3, hg0, hg1, hg2, hg3, hge, hgt3, hp0, hp1, hp2, Int.toNat_zero, Int.toNat_one, Int.reduceToNat, Int.toNat_natCast, hnn, hnn2, hw1, hw2, hbc, hq1, hq2, hq3, hq4, hq6, hq7, hq8]
                                    all_goals repeat' (first | apply And.intro | intro _)
                                    all_goals
                                      refine hK203 _ ?_
                                      refine hN202 _ ?_
                                      refine cond_k rfl (fun hc => ?_) (fun hc => ?_)
                                      · exfalso; revert hc; simp [go_sem, decide_false, decide_true, Bool.not_true, Bool.not_false, h9, hcap0, hcap1, Nat.zero_add, hal, hall, hmx, hmx2, bytesR_rows, hb0, hb1, hb2, hb3, hg0, hg1, hg2, hg3, hge, hgt3, hp0, hp1, hp2, Int.toNat_zero, Int.toNat_one, Int.reduceToNat, Int.toNat_natCast, hnn, hnn2, hw1, hw2, hbc, hq1, hq2, hq3, hq4, hq6, hq7, hq8]
                                      · try simp only [go_sem, decide_false, decide_true, Bool.not_true, Bool.not_false, h9, hcap0, hcap1, Nat.zero_add, hal, hall, hmx, hmx2, bytesR_rows, hb0, hb1, hb2, hb3, hg0, hg1, hg2, hg3, hge, hgt3, hp0, hp1, hp2, Int.toNat_zero, Int.toNat_one, Int.reduceToNat, Int.toNat_natCast, hnn, hnn2, hw1, hw2, hbc, hq1, hq2, hq3, hq4, hq6, hq7, hq8] at hc
                                        all_goals
                                          refine skip_k ?_
                                          refine bn197 _ ?_
                                          refine hN196 _ ?_
                                          refine seq_k fun N204 M204 hN204 hM204 => ?_
                                          refine seq_k fun N205 M205 hN205 hM205 => ?_
                                          refine region_k fun K206 hK206 => ?_
                                          simp only [go_sem, decide_false, decide_true, Bool.not_true, Bool.not_false, h9, hcap0, hcap1, Nat.zero_add, hal, hall, hmx, hmx2, bytesR_rows, hb0, hb1, hb2, hb3, hg0, hg1, hg2, hg3, hge, hgt3, hp0, hp1, hp2, Int.toNat_zero, Int.toNat_one, Int.reduceToNat, Int.toNat_natCast, hnn, hnn2, hw1, hw2, hbc, hq1, hq2, hq3, hq4, hq6, hq7, hq8]
                                          all_goals repeat' (first | apply And.intro | intro _)
                                          all_goals
                                            refine hK206 _ ?_
                                            refine hN205 _ ?_
                                            refine cond_k rfl (fun hc => ?_) (fun hc => ?_)
                                            · try simp only [go_sem, decide_false, decide_true, Bool.not_true, Bool.not_false, h9, hcap0, hcap1, Nat.zero_add, hal, hall, hmx, hmx2, bytesR_rows, hb0, hb1, hb2, hb3, hg0, hg1, hg2, hg3, hge, hgt3, hp0, hp1, hp2, Int.toNat_zero, Int.toNat_one, Int.reduceToNat, Int.toNat_natCast, hnn, hnn2, hw1, hw2, hbc, hq1, hq2, hq3, hq4, hq6, hq7, hq8] at hc
                                              all_goals
                                                refine exit_k ?_
                                                refine hM204 _ _ ?_
                                                refine bi193 _ _ (by decide) ?_
                                                refine hM12 _ _ ?_
                                                refine bx11 _ ?_
                                                refine hN10 _ ?_
                                                refine seq_k fun N207 M207 hN207 hM207 => ?_
                                                refine region_k fun K208 hK208 => ?_
                                                simp only [go_sem, decide_false, decide_true, Bool.not_true, Bool.not_false, h9, hcap0, hcap1, Nat.zero_add, hal, hall, hmx, hmx2, bytesR_rows, hb0, hb1, hb2, hb3, hg0, hg1, hg2, hg3, hge, hgt3, hp0, hp1, hp2, Int.toNat_zero, Int.toNat_one, Int.reduceToNat, Int.toNat_natCast, hnn, hnn2, hw1, hw2, hbc, hq1, hq2, hq3, hq4, hq6, hq7, hq8]
                                                all_goals repeat' (first | apply And.intro | intro _)
                                                all_goals
                                                  refine hK208 _ ?_
                                                  refine hN207 _ ?_
                                                  refine ret_k ?_
                                                  simp only [go_sem, decide_false, decide_true, Bool.not_true, Bool.not_false, h9, hcap0, hcap1, Nat.zero_add, hal, hall, hmx, hmx2, bytesR_rows, hb0, hb1, hb2, hb3, hg0, hg1, hg2, hg3, hge, hgt3, hp0, hp1, hp2, Int.toNat_zero, Int.toNat_one, Int.reduceToNat, Int.toNat_natCast, hnn, hnn2, hw1, hw2, hbc, hq1, hq2, hq3, hq4, hq6, hq7, hq8]
                                                  all_goals (rw [hfp, hfe]; exact feed_end (b := true) (by simp [look]) rfl (by simp [look]) rfl (by decide))
                                            · exfalso; revert hc; simp [go_sem, decide_false, decide_true, Bool.not_true, Bool.not_false, h9, hcap0, hcap1, Nat.zero_add, hal, hall, hmx, hmx2, bytesR_rows, hb0, hb1, hb2, hb3, hg0, hg1, hg2, hg3, hge, hgt3, hp0, hp1, hp2, Int.toNat_zero, Int.toNat_one, Int.reduceToNat, Int.toNat_natCast, hnn, hnn2, hw1, hw2, hbc, hq1, hq2, hq3, hq4, hq6, hq7, hq8]
                  · exfalso; revert hc; simp [go_sem, decide_false, decide_true, Bool.not_true, Bool.not_false, h9, hcap0, hcap1, Nat.zero_add, hal, hall, hmx, hmx2, bytesR_rows, hb0, hb1, hb2, hb3, hg0, hg1, hg2, hg3, hge, hgt3, hp0, hp1, hp2, Int.toNat_zero, Int.toNat_one, Int.reduceToNat, Int.toNat_natCast, hnn, hnn2, hw1, hw2, hbc, hq1, hq2, hq3, hq4, hq6, hq7, hq8]
              · simp only [fV_of _ hl0, fM_of _ hl0, List.cons_append, List.nil_append]
                have hlb : 4 * l.length + bt.length ≤ all.length := hv.2.2
                have hnx := feed_next hv hs (hf_ok hk1 (by omega) hnz (by omega)) hw
                obtain ⟨b0, hb0⟩ : ∃ b, bt.getD 0 0 = b := ⟨_, rfl⟩
                obtain ⟨b1, hb1⟩ : ∃ b, bt.getD 1 0 = b := ⟨_, rfl⟩
                obtain ⟨b2, hb2⟩ : ∃ b, bt.getD 2 0 = b := ⟨_, rfl⟩
                obtain ⟨b3, hb3⟩ : ∃ b, bt.getD 3 0 = b := ⟨_, rfl⟩
                have hg0 := rowG (bs := bt) (i := 0) (by omega) hb0
                have hg1 := rowG (bs := bt) (i := 1) (by omega) hb1
                have hg2 := rowG (bs := bt) (i := 2) (by omega) hb2
                have hg3 := rowG (bs := bt) (i := 3) (by omega) hb3
                obtain ⟨n, hn⟩ : ∃ x, nOf bt = x := ⟨_, rfl⟩
                have hk0 : kOf bt = b0.toNat := by rw [kOf, hb0]
                have hn0 : 256 * b2.toNat + b3.toNat = n := by rw [← hn, nOf, hb2, hb3]
                have hnl : n < 65536 := hn ▸ nOf_lt bt
                have hl0 := b0.toNat_lt
                have hl1 := b1.toNat_lt
                have hl2 := b2.toNat_lt
                have hl3 := b3.toNat_lt
                have hid : b1.toNat ≤ 255 := by omega
                have hge : (4 : Int) ≤ ((bt.length : Nat) : Int) := by omega
                have hgt3 : (3 : Int) < ((bt.length : Nat) : Int) := by omega
                have hp0 : (0 : Int) < ((bt.length : Nat) : Int) := by omega
                have hp1 : (1 : Int) < ((bt.length : Nat) : Int) := by omega
                have hp2 : (2 : Int) < ((bt.length : Nat) : Int) := by omega
                have hlo : bt.length ≤ all.length := by have := hv.2.2; simp only at this; omega
                rw [hk0] at hk1 hk2
                rw [hn] at hnz hw hnx
                have hq1 : (b0 < 1) = False := eq_false fun h => by have := UInt8.lt_iff_toNat_lt.mp h; simp at this; omega
                have hq2 : (5 < b0) = False := eq_false fun h => by have := UInt8.lt_iff_toNat_lt.mp h; simp at this; omega
                have hq3 : ¬ (900 : Int) < ((n : Nat) : Int) := by omega
                have hq4 : ¬ ((b0.toNat : Nat) : Int) = 5 := by omega
                have hq6 : (b0 = 5) = False := eq_false fun h => by subst h; simp at hk2
                have hlt : 4 + n ≤ bt.length := by omega
                have hq7 : ¬ ((bt.length : Nat) : Int) < ((n + 4 : Nat) : Int) := by omega
                have hq8 : ¬ ((bt.length - 4 : Nat) : Int) < ((n : Nat) : Int) := by omega
                have hc6 : ((n + 4 : Nat) : Int) ≤ ((bt.length : Nat) : Int) := by omega
                have hc7 : (0 : Int) ≤ ((n + 4 : Nat) : Int) := by omega
                have hc8 : (4 : Int) ≤ ((n + 4 : Nat) : Int) := by omega
                have hd4 : n + 4 - 4 = n := by omega
                have hmi : min n (bt.length - 4) = n := by omega
                have hcap2 : n ≤ 140737488355328 := by omega
                have htk : ((bt.drop 4).take n).length = n := by rw [List.length_take, List.length_drop]; omega
                have hfr : frOf bt = ⟨b0.toNat, b1.toNat, (bt.drop 4).take n⟩ := by rw [frOf, hk0, iOf, hb1, hn]
                have hs61 := seal_bytes (k := 65) (bs := (bt.drop 4).take n) htk.symm
                obtain ⟨hnn, hnn2, hw1, hw2, hcap⟩ : ior (ishl ((b2.toNat : Nat) : Int) (UInt64.toNat 8)) ((b3.toNat : Nat) : Int) = ((n : Nat) : Int) ∧ Go.RowKit.wrap64 (Go.RowKit.wrap64 (((b2.toNat : Nat) : Int) * 256) + ((b3.toNat : Nat) : Int)) = ((n : Nat) : Int) ∧ Go.RowKit.wrap64 (4 + ((n : Nat) : Int)) = ((n + 4 : Nat) : Int) ∧ Go.RowKit.wrap64 (((bt.length : Nat) : Int) - 4) = ((bt.length - 4 : Nat) : Int) ∧ (l.length + 1) * 40 ≤ 140737488355328 := ⟨n_shl hl2 hl3 hn0, n_mul hl2 hl3 hn0, wnat (by omega) (by omega), wnat (by omega) (by omega), by omega⟩
                have hbc : bt.length ≤ 140737488355328 := by clear hnn hnn2 hw1 hw2 hcap; omega
                
                refine seq_k fun N209 M209 hN209 hM209 => ?_
                refine seq_k fun N210 M210 hN210 hM210 => ?_
                refine region_k fun K211 hK211 => ?_
                simp only [go_sem, decide_false, decide_true, Bool.not_true, Bool.not_false, h9, hcap0, hcap1, Nat.zero_add, hal, hall, hmx, hmx2, bytesR_rows, hb0, hb1, hb2, hb3, hg0, hg1, hg2, hg3, hge, hgt3, hp0, hp1, hp2, Int.toNat_zero, Int.toNat_one, Int.reduceToNat, Int.toNat_natCast, hnn, hnn2, hw1, hw2, hbc, hq1, hq2, hq3, hq4, hq6, hq7, hq8, hc6, hc7, hc8, hd4, hmi, hcap2, htk, hs61, hcap, List.length_take, List.length_drop]
                all_goals repeat' (first | apply And.intro | intro _)
                all_goals
                  refine hK211 _ ?_
                  refine hN210 _ ?_
                  refine cond_k rfl (fun hc => ?_) (fun hc => ?_)
                  · try simp only [go_sem, decide_false, decide_true, Bool.not_true, Bool.not_false, h9, hcap0, hcap1, Nat.zero_add, hal, hall, hmx, hmx2, bytesR_rows, hb0, hb1, hb2, hb3, hg0, hg1, hg2, hg3, hge, hgt3, hp0, hp1, hp2, Int.toNat_zero, Int.toNat_one, Int.reduceToNat, Int.toNat_natCast, hnn, hnn2, hw1, hw2, hbc, hq1, hq2, hq3, hq4, hq6, hq7, hq8, hc6, hc7, hc8, hd4, hmi, hcap2, htk, hs61, hcap, List.length_take, List.length_drop] at hc
                    all_goals
                      refine skip_k ?_
                      refine hN209 _ ?_
                      refine block_k fun B212 bn212 bx212 br212 bi212 => ?_
                      refine seq_k fun N213 M213 hN213 hM213 => ?_
                      refine draw_k [21, 22, 23, 24, 25, 26, 27, 28, 9] [0, 1, 3, 7, 0, 16, 48, 127, 255] [] mixed (by kernel_rfl) (by simp only [go_sem]) fun K214 hK214 => ?_
                      simp only [go_sem, decide_false, decide_true, Bool.not_true, Bool.not_false, h9, hcap0, hcap1, Nat.zero_add, hal, hall, hmx, hmx2, bytesR_rows, hb0, hb1, hb2, hb3, hg0, hg1, hg2, hg3, hge, hgt3, hp0, hp1, hp2, Int.toNat_zero, Int.toNat_one, Int.reduceToNat, Int.toNat_natCast, hnn, hnn2, hw1, hw2, hbc, hq1, hq2, hq3, hq4, hq6, hq7, hq8, hc6, hc7, hc8, hd4, hmi, hcap2, htk, hs61, hcap, List.length_take, List.length_drop]
                      all_goals repeat' (first | apply And.intro | intro _)
                      all_goals
                        refine hK214 _ _ ?_ ?_
                        · first | trivial | (simp only [go_sem]; done) | (simp only [go_sem]; simp; done) | (simp only [go_sem]; simp; simp only [go_sem])
                        refine hN213 _ ?_
                        refine seq_k fun N215 M215 hN215 hM215 => ?_
                        refine block_k fun B216 bn216 bx216 br216 bi216 => ?_
                        refine seq_k fun N217 M217 hN217 hM217 => ?_
                        refine region_k fun K218 hK218 => ?_
                        simp only [go_sem, decide_false, decide_true, Bool.not_true, Bool.not_false, h9, hcap0, hcap1, Nat.zero_add, hal, hall, hmx, hmx2, bytesR_rows, hb0, hb1, hb2, hb3, hg0, hg1, hg2, hg3, hge, hgt3, hp0, hp1, hp2, Int.toNat_zero, Int.toNat_one, Int.reduceToNat, Int.toNat_natCast, hnn, hnn2, hw1, hw2, hbc, hq1, hq2, hq3, hq4, hq6, hq7, hq8, hc6, hc7, hc8, hd4, hmi, hcap2, htk, hs61, hcap, List.length_take, List.length_drop]
                        all_goals repeat' (first | apply And.intro | intro _)
                        all_goals
                          refine hK218 _ ?_
                          refine hN217 _ ?_
                          refine cond_k rfl (fun hc => ?_) (fun hc => ?_)
                          · exfalso; revert hc; simp [go_sem, decide_false, decide_true, Bool.not_true, Bool.not_false, h9, hcap0, hcap1, Nat.zero_add, hal, hall, hmx, hmx2, bytesR_rows, hb0, hb1, hb2, hb3, hg0, hg1, hg2, hg3, hge, hgt3, hp0, hp1, hp2, Int.toNat_zero, Int.toNat_one, Int.reduceToNat, Int.toNat_natCast, hnn, hnn2, hw1, hw2, hbc, hq1, hq2, hq3, hq4, hq6, hq7, hq8, hc6, hc7, hc8, hd4, hmi, hcap2, htk, hs61, hcap, List.length_take, List.length_drop]
                          · try simp only [go_sem, decide_false, decide_true, Bool.not_true, Bool.not_false, h9, hcap0, hcap1, Nat.zero_add, hal, hall, hmx, hmx2, bytesR_rows, hb0, hb1, hb2, hb3, hg0, hg1, hg2, hg3, hge, hgt3, hp0, hp1, hp2, Int.toNat_zero, Int.toNat_one, Int.reduceToNat, Int.toNat_natCast, hnn, hnn2, hw1, hw2, hbc, hq1, hq2, hq3, hq4, hq6, hq7, hq8, hc6, hc7, hc8, hd4, hmi, hcap2, htk, hs61, hcap, List.length_take, List.length_drop] at hc
                            all_goals
                              refine seq_k fun N219 M219 hN219 hM219 => ?_
                              refine region_k fun K220 hK220 => ?_
                              simp only [go_sem, decide_false, decide_true, Bool.not_true, Bool.not_false, h9, hcap0, hcap1, Nat.zero_add, hal, hall, hmx, hmx2, bytesR_rows, hb0, hb1, hb2, hb3, hg0, hg1, hg2, hg3, hge, hgt3, hp0, hp1, hp2, Int.toNat_zero, Int.toNat_one, Int.reduceToNat, Int.toNat_natCast, hnn, hnn2, hw1, hw2, hbc, hq1, hq2, hq3, hq4, hq6, hq7, hq8, hc6, hc7, hc8, hd4, hmi, hcap2, htk, hs61, hcap, List.length_take, List.length_drop]
                              all_goals repeat' (first | apply And.intro | intro _)
                              all_goals
                                refine hK220 _ ?_
                                refine hN219 _ ?_
                                refine cond_k rfl (fun hc => ?_) (fun hc => ?_)
                                · exfalso; revert hc; simp [go_sem, decide_false, decide_true, Bool.not_true, Bool.not_false, h9, hcap0, hcap1, Nat.zero_add, hal, hall, hmx, hmx2, bytesR_rows, hb0, hb1, hb2, hb3, hg0, hg1, hg2, hg3, hge, hgt3, hp0, hp1, hp2, Int.toNat_zero, Int.toNat_one, Int.reduceToNat, Int.toNat_natCast, hnn, hnn2, hw1, hw2, hbc, hq1, hq2, hq3, hq4, hq6, hq7, hq8, hc6, hc7, hc8, hd4, hmi, hcap2, htk, hs61, hcap, List.length_take, List.length_drop]
                                · try simp only [go_sem, decide_false, decide_true, Bool.not_true, Bool.not_false, h9, hcap0, hcap1, Nat.zero_add, hal, hall, hmx, hmx2, bytesR_rows, hb0, hb1, hb2, hb3, hg0, hg1, hg2, hg3, hge, hgt3, hp0, hp1, hp2, Int.toNat_zero, Int.toNat_one, Int.reduceToNat, Int.toNat_natCast, hnn, hnn2, hw1, hw2, hbc, hq1, hq2, hq3, hq4, hq6, hq7, hq8, hc6, hc7, hc8, hd4, hmi, hcap2, htk, hs61, hcap, List.length_take, List.length_drop] at hc
                                  all_goals
                                    refine seq_k fun N221 M221 hN221 hM221 => ?_
                                    refine region_k fun K222 hK222 => ?_
                                    simp only [go_sem, decide_false, decide_true, Bool.not_true, Bool.not_false, h9, hcap0, hcap1, Nat.zero_add, hal, hall, hmx, hmx2, bytesR_rows, hb0, hb1, hb2, hb3, hg0, hg1, hg2, hg3, hge, hgt3, hp0, hp1, hp2, Int.toNat_zero, Int.toNat_one, Int.reduceToNat, Int.toNat_natCast, hnn, hnn2, hw1, hw2, hbc, hq1, hq2, hq3, hq4, hq6, hq7, hq8, hc6, hc7, hc8, hd4, hmi, hcap2, htk, hs61, hcap, List.length_take, List.length_drop]
                                    all_goals repeat' (first | apply And.intro | intro _)
                                    all_goals
                                      refine hK222 _ ?_
                                      refine hN221 _ ?_
                                      refine cond_k rfl (fun hc => ?_) (fun hc => ?_)
                                      · exfalso; revert hc; simp [go_sem, decide_false, decide_true, Bool.not_true, Bool.not_false, h9, hcap0, hcap1, Nat.zero_add, hal, hall, hmx, hmx2, bytesR_rows, hb0, hb1, hb2, hb3, hg0, hg1, hg2, hg3, hge, hgt3, hp0, hp1, hp2, Int.toNat_zero, Int.toNat_one, Int.reduceToNat, Int.toNat_natCast, hnn, hnn2, hw1, hw2, hbc, hq1, hq2, hq3, hq4, hq6, hq7, hq8, hc6, hc7, hc8, hd4, hmi, hcap2, htk, hs61, hcap, List.length_take, List.length_drop]
                                      · try simp only [go_sem, decide_false, decide_true, Bool.not_true, Bool.not_false, h9, hcap0, hcap1, Nat.zero_add, hal, hall, hmx, hmx2, bytesR_rows, hb0, hb1, hb2, hb3, hg0, hg1, hg2, hg3, hge, hgt3, hp0, hp1, hp2, Int.toNat_zero, Int.toNat_one, Int.reduceToNat, Int.toNat_natCast, hnn, hnn2, hw1, hw2, hbc, hq1, hq2, hq3, hq4, hq6, hq7, hq8, hc6, hc7, hc8, hd4, hmi, hcap2, htk, hs61, hcap, List.length_take, List.length_drop] at hc
                                        all_goals
                                          refine skip_k ?_
                                          refine bn216 _ ?_
                                          refine hN215 _ ?_
                                          refine seq_k fun N223 M223 hN223 hM223 => ?_
                                          refine seq_k fun N224 M224 hN224 hM224 => ?_
                                          refine region_k fun K225 hK225 => ?_
                                          simp only [go_sem, decide_false, decide_true, Bool.not_true, Bool.not_false, h9, hcap0, hcap1, Nat.zero_add, hal, hall, hmx, hmx2, bytesR_rows, hb0, hb1, hb2, hb3, hg0, hg1, hg2, hg3, hge, hgt3, hp0, hp1, hp2, Int.toNat_zero, Int.toNat_one, Int.reduceToNat, Int.toNat_natCast, hnn, hnn2, hw1, hw2, hbc, hq1, hq2, hq3, hq4, hq6, hq7, hq8, hc6, hc7, hc8, hd4, hmi, hcap2, htk, hs61, hcap, List.length_take, List.length_drop]
                                          all_goals repeat' (first | apply And.intro | intro _)
                                          all_goals
                                            refine hK225 _ ?_
                                            refine hN224 _ ?_
                                            refine cond_k rfl (fun hc => ?_) (fun hc => ?_)
                                            · exfalso; revert hc; simp [go_sem, decide_false, decide_true, Bool.not_true, Bool.not_false, h9, hcap0, hcap1, Nat.zero_add, hal, hall, hmx, hmx2, bytesR_rows, hb0, hb1, hb2, hb3, hg0, hg1, hg2, hg3, hge, hgt3, hp0, hp1, hp2, Int.toNat_zero, Int.toNat_one, Int.reduceToNat, Int.toNat_natCast, hnn, hnn2, hw1, hw2, hbc, hq1, hq2, hq3, hq4, hq6, hq7, hq8, hc6, hc7, hc8, hd4, hmi, hcap2, htk, hs61, hcap, List.length_take, List.length_drop]
                                            · try simp only [go_sem, decide_false, decide_true, Bool.not_true, Bool.not_false, h9, hcap0, hcap1, Nat.zero_add, hal, hall, hmx, hmx2, bytesR_rows, hb0, hb1, hb2, hb3, hg0, hg1, hg2, hg3, hge, hgt3, hp0, hp1, hp2, Int.toNat_zero, Int.toNat_one, Int.reduceToNat, Int.toNat_natCast, hnn, hnn2, hw1, hw2, hbc, hq1, hq2, hq3, hq4, hq6, hq7, hq8, hc6, hc7, hc8, hd4, hmi, hcap2, htk, hs61, hcap, List.length_take, List.length_drop] at hc
                                              all_goals
                                                refine skip_k ?_
                                                refine hN223 _ ?_
                                                refine seq_k fun N226 M226 hN226 hM226 => ?_
                                                refine draw_k [54, 55, 56, 57, 58, 59, 60, 61, 62, 63, 64, 65, 66, 67, 8] [0, 0, 2, 6, 0, 16, 48, 0, 0, 256, 896, 1920, 4094, 8190, 16383, 32767] [] mixed (by kernel_rfl) (by simp only [go_sem]) fun K227 hK227 => ?_
                                                simp only [go_sem, decide_false, decide_true, Bool.not_true, Bool.not_false, h9, hcap0, hcap1, Nat.zero_add, hal, hall, hmx, hmx2, bytesR_rows, hb0, hb1, hb2, hb3, hg0, hg1, hg2, hg3, hge, hgt3, hp0, hp1, hp2, Int.toNat_zero, Int.toNat_one, Int.reduceToNat, Int.toNat_natCast, hnn, hnn2, hw1, hw2, hbc, hq1, hq2, hq3, hq4, hq6, hq7, hq8, hc6, hc7, hc8, hd4, hmi, hcap2, htk, hs61, hcap, List.length_take, List.length_drop]
                                                all_goals repeat' (first | apply And.intro | intro _)
                                                all_goals
                                                  refine hK227 _ _ ?_ ?_
                                                  · first | trivial | (simp only [go_sem]; done) | (simp only [go_sem]; simp; done) | (simp only [go_sem]; simp; simp only [go_sem])
                                                  refine hN226 _ ?_
                                                  refine ht_seal 65 (((bt.drop 4).take n).map .u8) (b := true) (by simp only [pls_bytes, look]; simp) (by decide) ?_
                                                  simp only [St.laid, sealE, sealM, sealV, sealW, List.map_cons, List.map_nil, sealL_pl, sealL_fn0, hs61, sealL_sne (j := 68) (k := 65) (by decide), sealL_sne (j := 67) (k := 65) (by decide), frsC_seal, map_sealB, Nat.reduceLT, Nat.reduceEqDiff, if_true, if_false, reduceIte]
                                                  refine region_k fun K228 hK228 => ?_
                                                  simp only [go_sem, decide_false, decide_true, Bool.not_true, Bool.not_false, h9, hcap0, hcap1, Nat.zero_add, hal, hall, hmx, hmx2, bytesR_rows, hb0, hb1, hb2, hb3, hg0, hg1, hg2, hg3, hge, hgt3, hp0, hp1, hp2, Int.toNat_zero, Int.toNat_one, Int.reduceToNat, Int.toNat_natCast, hnn, hnn2, hw1, hw2, hbc, hq1, hq2, hq3, hq4, hq6, hq7, hq8, hc6, hc7, hc8, hd4, hmi, hcap2, htk, hs61, hcap, List.length_take, List.length_drop]
                                                  all_goals repeat' (first | apply And.intro | intro _)
                                                  all_goals
                                                    refine hK228 _ ?_
                                                    refine bn212 _ ?_
                                                    refine hN12 ⟨(c - 1, l ++ [frOf bt], bt.drop (4 + n)), hnx⟩ _ ?_ ?_ ?_
                                                    · (have hcl0 := hv.2.1; simp only at hcl0; show c - 1 < c; clear hnn hnn2 hw1 hw2 hcap; omega)
                                                    · (simp only [go_sem, fV_snoc, fV_one, Nat.add_comm 4 n, leX, List.cons_append, List.nil_append]; try simp [fV_snoc, fV_one])
                                                    · (simp only [fM_snoc, frsC_snoc, hfr, go_sem, leX, List.cons_append, List.nil_append]; try simp [fM_one, frsC_one, leX, look, pls, sealL_pl])
                  · exfalso; revert hc; simp [go_sem, decide_false, decide_true, Bool.not_true, Bool.not_false, h9, hcap0, hcap1, Nat.zero_add, hal, hall, hmx, hmx2, bytesR_rows, hb0, hb1, hb2, hb3, hg0, hg1, hg2, hg3, hge, hgt3, hp0, hp1, hp2, Int.toNat_zero, Int.toNat_one, Int.reduceToNat, Int.toNat_natCast, hnn, hnn2, hw1, hw2, hbc, hq1, hq2, hq3, hq4, hq6, hq7, hq8, hc6, hc7, hc8, hd4, hmi, hcap2, htk, hs61, hcap, List.length_take, List.length_drop]
              · simp only [fV_of _ hl0, fM_of _ hl0, List.cons_append, List.nil_append]
                have hlb : 4 * l.length + bt.length ≤ all.length := hv.2.2
                have hnx := feed_next hv hs (hf_ok (by omega) (by omega) (by omega) (fun _ => hnz)) (by omega)
                obtain ⟨b0, hb0⟩ : ∃ b, bt.getD 0 0 = b := ⟨_, rfl⟩
                obtain ⟨b1, hb1⟩ : ∃ b, bt.getD 1 0 = b := ⟨_, rfl⟩
                obtain ⟨b2, hb2⟩ : ∃ b, bt.getD 2 0 = b := ⟨_, rfl⟩
                obtain ⟨b3, hb3⟩ : ∃ b, bt.getD 3 0 = b := ⟨_, rfl⟩
                have hg0 := rowG (bs := bt) (i := 0) (by omega) hb0
                have hg1 := rowG (bs := bt) (i := 1) (by omega) hb1
                have hg2 := rowG (bs := bt) (i := 2) (by omega) hb2
                have hg3 := rowG (bs := bt) (i := 3) (by omega) hb3
                obtain ⟨n, hn⟩ : ∃ x, nOf bt = x := ⟨_, rfl⟩
                have hk0 : kOf bt = b0.toNat := by rw [kOf, hb0]
                have hn0 : 256 * b2.toNat + b3.toNat = n := by rw [← hn, nOf, hb2, hb3]
                have hnl : n < 65536 := hn ▸ nOf_lt bt
                have hl0 := b0.toNat_lt
                have hl1 := b1.toNat_lt
                have hl2 := b2.toNat_lt
                have hl3 := b3.toNat_lt
                have hid : b1.toNat ≤ 255 := by omega
                have hge : (4 : Int) ≤ ((bt.length : Nat) : Int) := by omega
                have hgt3 : (3 : Int) < ((bt.length : Nat) : Int) := by omega
                have hp0 : (0 : Int) < ((bt.length : Nat) : Int) := by omega
                have hp1 : (1 : Int) < ((bt.length : Nat) : Int) := by omega
                have hp2 : (2 : Int) < ((bt.length : Nat) : Int) := by omega
                have hlo : bt.length ≤ all.length := by have := hv.2.2; simp only at this; omega
                rw [hk0] at hk
                rw [hn] at hnz hnx
                have hk1 : 1 ≤ b0.toNat := by omega
                have hk2 : b0.toNat ≤ 5 := by omega
                have hq1 : (b0 < 1) = False := eq_false fun h => by have := UInt8.lt_iff_toNat_lt.mp h; simp at this; omega
                have hq2 : (5 < b0) = False := eq_false fun h => by have := UInt8.lt_iff_toNat_lt.mp h; simp at this; omega
                have hq3 : ¬ (900 : Int) < ((n : Nat) : Int) := by omega
                have hq4 : (((b0.toNat : Nat) : Int) = 5) = True := eq_true (by omega)
                have hq5 : ¬ (0 : Int) < ((n : Nat) : Int) := by omega
                have hq6 : (b0 = 5) = True := eq_true (UInt8.toNat_inj.mp hk)
                have hlt : 4 + n ≤ bt.length := by omega
                have hq7 : ¬ ((bt.length : Nat) : Int) < ((n + 4 : Nat) : Int) := by omega
                have hq8 : ¬ ((bt.length - 4 : Nat) : Int) < ((n : Nat) : Int) := by omega
                have hc6 : ((n + 4 : Nat) : Int) ≤ ((bt.length : Nat) : Int) := by omega
                have hc7 : (0 : Int) ≤ ((n + 4 : Nat) : Int) := by omega
                have hc8 : (4 : Int) ≤ ((n + 4 : Nat) : Int) := by omega
                have hd4 : n + 4 - 4 = n := by omega
                have hmi : min n (bt.length - 4) = n := by omega
                have hcap2 : n ≤ 140737488355328 := by omega
                have htk : ((bt.drop 4).take n).length = n := by rw [List.length_take, List.length_drop]; omega
                have hfr : frOf bt = ⟨b0.toNat, b1.toNat, (bt.drop 4).take n⟩ := by rw [frOf, hk0, iOf, hb1, hn]
                have hs61 := seal_bytes (k := 65) (bs := (bt.drop 4).take n) htk.symm
                obtain ⟨hnn, hnn2, hw1, hw2, hcap⟩ : ior (ishl ((b2.toNat : Nat) : Int) (UInt64.toNat 8)) ((b3.toNat : Nat) : Int) = ((n : Nat) : Int) ∧ Go.RowKit.wrap64 (Go.RowKit.wrap64 (((b2.toNat : Nat) : Int) * 256) + ((b3.toNat : Nat) : Int)) = ((n : Nat) : Int) ∧ Go.RowKit.wrap64 (4 + ((n : Nat) : Int)) = ((n + 4 : Nat) : Int) ∧ Go.RowKit.wrap64 (((bt.length : Nat) : Int) - 4) = ((bt.length - 4 : Nat) : Int) ∧ (l.length + 1) * 40 ≤ 140737488355328 := ⟨n_shl hl2 hl3 hn0, n_mul hl2 hl3 hn0, wnat (by omega) (by omega), wnat (by omega) (by omega), by omega⟩
                have hbc : bt.length ≤ 140737488355328 := by clear hnn hnn2 hw1 hw2 hcap; omega
                
                refine seq_k fun N229 M229 hN229 hM229 => ?_
                refine seq_k fun N230 M230 hN230 hM230 => ?_
                refine region_k fun K231 hK231 => ?_
                simp only [go_sem, decide_false, decide_true, Bool.not_true, Bool.not_false, h9, hcap0, hcap1, Nat.zero_add, hal, hall, hmx, hmx2, bytesR_rows, hb0, hb1, hb2, hb3, hg0, hg1, hg2, hg3, hge, hgt3, hp0, hp1, hp2, Int.toNat_zero, Int.toNat_one, Int.reduceToNat, Int.toNat_natCast, hnn, hnn2, hw1, hw2, hbc, hq1, hq2, hq3, hq4, hq6, hq7, hq8, hc6, hc7, hc8, hd4, hmi, hcap2, htk, hs61, hcap, List.length_take, List.length_drop, hq5]
                all_goals repeat' (first | apply And.intro | intro _)
                all_goals
                  refine hK231 _ ?_
                  refine hN230 _ ?_
                  refine cond_k rfl (fun hc => ?_) (fun hc => ?_)
                  · try simp only [go_sem, decide_false, decide_true, Bool.not_true, Bool.not_false, h9, hcap0, hcap1, Nat.zero_add, hal, hall, hmx, hmx2, bytesR_rows, hb0, hb1, hb2, hb3, hg0, hg1, hg2, hg3, hge, hgt3, hp0, hp1, hp2, Int.toNat_zero, Int.toNat_one, Int.reduceToNat, Int.toNat_natCast, hnn, hnn2, hw1, hw2, hbc, hq1, hq2, hq3, hq4, hq6, hq7, hq8, hc6, hc7, hc8, hd4, hmi, hcap2, htk, hs61, hcap, List.length_take, List.length_drop, hq5] at hc
                    all_goals
                      refine skip_k ?_
                      refine hN229 _ ?_
                      refine block_k fun B232 bn232 bx232 br232 bi232 => ?_
                      refine seq_k fun N233 M233 hN233 hM233 => ?_
                      refine draw_k [21, 22, 23, 24, 25, 26, 27, 28, 9] [0, 1, 3, 7, 0, 16, 48, 127, 255] [] mixed (by kernel_rfl) (by simp only [go_sem]) fun K234 hK234 => ?_
                      simp only [go_sem, decide_false, decide_true, Bool.not_true, Bool.not_false, h9, hcap0, hcap1, Nat.zero_add, hal, hall, hmx, hmx2, bytesR_rows, hb0, hb1, hb2, hb3, hg0, hg1, hg2, hg3, hge, hgt3, hp0, hp1, hp2, Int.toNat_zero, Int.toNat_one, Int.reduceToNat, Int.toNat_natCast, hnn, hnn2, hw1, hw2, hbc, hq1, hq2, hq3, hq4, hq6, hq7, hq8, hc6, hc7, hc8, hd4, hmi, hcap2, htk, hs61, hcap, List.length_take, List.length_drop, hq5]
                      all_goals repeat' (first | apply And.intro | intro _)
                      all_goals
                        refine hK234 _ _ ?_ ?_
                        · first | trivial | (simp only [go_sem]; done) | (simp only [go_sem]; simp; done) | (simp only [go_sem]; simp; simp only [go_sem])
                        refine hN233 _ ?_
                        refine seq_k fun N235 M235 hN235 hM235 => ?_
                        refine block_k fun B236 bn236 bx236 br236 bi236 => ?_
                        refine seq_k fun N237 M237 hN237 hM237 => ?_
                        refine region_k fun K238 hK238 => ?_
                        simp only [go_sem, decide_false, decide_true, Bool.not_true, Bool.not_false, h9, hcap0, hcap1, Nat.zero_add, hal, hall, hmx, hmx2, bytesR_rows, hb0, hb1, hb2, hb3, hg0, hg1, hg2, hg3, hge, hgt3, hp0, hp1, hp2, Int.toNat_zero, Int.toNat_one, Int.reduceToNat, Int.toNat_natCast, hnn, hnn2, hw1, hw2, hbc, hq1, hq2, hq3, hq4, hq6, hq7, hq8, hc6, hc7, hc8, hd4, hmi, hcap2, htk, hs61, hcap, List.length_take, List.length_drop, hq5]
                        all_goals repeat' (first | apply And.intro | intro _)
                        all_goals
                          refine hK238 _ ?_
                          refine hN237 _ ?_
                          refine cond_k rfl (fun hc => ?_) (fun hc => ?_)
                          · exfalso; revert hc; simp [go_sem, decide_false, decide_true, Bool.not_true, Bool.not_false, h9, hcap0, hcap1, Nat.zero_add, hal, hall, hmx, hmx2, bytesR_rows, hb0, hb1, hb2, hb3, hg0, hg1, hg2, hg3, hge, hgt3, hp0, hp1, hp2, Int.toNat_zero, Int.toNat_one, Int.reduceToNat, Int.toNat_natCast, hnn, hnn2, hw1, hw2, hbc, hq1, hq2, hq3, hq4, hq6, hq7, hq8, hc6, hc7, hc8, hd4, hmi, hcap2, htk, hs61, hcap, List.length_take, List.length_drop, hq5]
                          · try simp only [go_sem, decide_false, decide_true, Bool.not_true, Bool.not_false, h9, hcap0, hcap1, Nat.zero_add, hal, hall, hmx, hmx2, bytesR_rows, hb0, hb1, hb2, hb3, hg0, hg1, hg2, hg3, hge, hgt3, hp0, hp1, hp2, Int.toNat_zero, Int.toNat_one, Int.reduceToNat, Int.toNat_natCast, hnn, hnn2, hw1, hw2, hbc, hq1, hq2, hq3, hq4, hq6, hq7, hq8, hc6, hc7, hc8, hd4, hmi, hcap2, htk, hs61, hcap, List.length_take, List.length_drop, hq5] at hc
                            all_goals
                              refine seq_k fun N239 M239 hN239 hM239 => ?_
                              refine region_k fun K240 hK240 => ?_
                              simp only [go_sem, decide_false, decide_true, Bool.not_true, Bool.not_false, h9, hcap0, hcap1, Nat.zero_add, hal, hall, hmx, hmx2, bytesR_rows, hb0, hb1, hb2, hb3, hg0, hg1, hg2, hg3, hge, hgt3, hp0, hp1, hp2, Int.toNat_zero, Int.toNat_one, Int.reduceToNat, Int.toNat_natCast, hnn, hnn2, hw1, hw2, hbc, hq1, hq2, hq3, hq4, hq6, hq7, hq8, hc6, hc7, hc8, hd4, hmi, hcap2, htk, hs61, hcap, List.length_take, List.length_drop, hq5]
                              all_goals repeat' (first | apply And.intro | intro _)
                              all_goals
                                refine hK240 _ ?_
                                refine hN239 _ ?_
                                refine cond_k rfl (fun hc => ?_) (fun hc => ?_)
                                · exfalso; revert hc; simp [go_sem, decide_false, decide_true, Bool.not_true, Bool.not_false, h9, hcap0, hcap1, Nat.zero_add, hal, hall, hmx, hmx2, bytesR_rows, hb0, hb1, hb2, hb3, hg0, hg1, hg2, hg3, hge, hgt3, hp0, hp1, hp2, Int.toNat_zero, Int.toNat_one, Int.reduceToNat, Int.toNat_natCast, hnn, hnn2, hw1, hw2, hbc, hq1, hq2, hq3, hq4, hq6, hq7, hq8, hc6, hc7, hc8, hd4, hmi, hcap2, htk, hs61, hcap, List.length_take, List.length_drop, hq5]
                                · try simp only [go_sem, decide_false, decide_true, Bool.not_true, Bool.not_false, h9, hcap0, hcap1, Nat.zero_add, hal, hall, hmx, hmx2, bytesR_rows, hb0, hb1, hb2, hb3, hg0, hg1, hg2, hg3, hge, hgt3, hp0, hp1, hp2, Int.toNat_zero, Int.toNat_one, Int.reduceToNat, Int.toNat_natCast, hnn, hnn2, hw1, hw2, hbc, hq1, hq2, hq3, hq4, hq6, hq7, hq8, hc6, hc7, hc8, hd4, hmi, hcap2, htk, hs61, hcap, List.length_take, List.length_drop, hq5] at hc
                                  all_goals
                                    refine seq_k fun N241 M241 hN241 hM241 => ?_
                                    refine region_k fun K242 hK242 => ?_
                                    simp only [go_sem, decide_false, decide_true, Bool.not_true, Bool.not_false, h9, hcap0, hcap1, Nat.zero_add, hal, hall, hmx, hmx2, bytesR_rows, hb0, hb1, hb2, hb3, hg0, hg1, hg2, hg3, hge, hgt3, hp0, hp1, hp2, Int.toNat_zero, Int.toNat_one, Int.reduceToNat, Int.toNat_natCast, hnn, hnn2, hw1, hw2, hbc, hq1, hq2, hq3, hq4, hq6, hq7, hq8, hc6, hc7, hc8, hd4, hmi, hcap2, htk, hs61, hcap, List.length_take, List.length_drop, hq5]
                                    all_goals repeat' (first | apply And.intro | intro _)
                                    all_goals
                                      refine hK242 _ ?_
                                      refine hN241 _ ?_
                                      refine cond_k rfl (fun hc => ?_) (fun hc => ?_)
                                      · exfalso; revert hc; simp [go_sem, decide_false, decide_true, Bool.not_true, Bool.not_false, h9, hcap0, hcap1, Nat.zero_add, hal, hall, hmx, hmx2, bytesR_rows, hb0, hb1, hb2, hb3, hg0, hg1, hg2, hg3, hge, hgt3, hp0, hp1, hp2, Int.toNat_zero, Int.toNat_one, Int.reduceToNat, Int.toNat_natCast, hnn, hnn2, hw1, hw2, hbc, hq1, hq2, hq3, hq4, hq6, hq7, hq8, hc6, hc7, hc8, hd4, hmi, hcap2, htk, hs61, hcap, List.length_take, List.length_drop, hq5]
                                      · try simp only [go_sem, decide_false, decide_true, Bool.not_true, Bool.not_false, h9, hcap0, hcap1, Nat.zero_add, hal, hall, hmx, hmx2, bytesR_rows, hb0, hb1, hb2, hb3, hg0, hg1, hg2, hg3, hge, hgt3, hp0, hp1, hp2, Int.toNat_zero, Int.toNat_one, Int.reduceToNat, Int.toNat_natCast, hnn, hnn2, hw1, hw2, hbc, hq1, hq2, hq3, hq4, hq6, hq7, hq8, hc6, hc7, hc8, hd4, hmi, hcap2, htk, hs61, hcap, List.length_take, List.length_drop, hq5] at hc
                                        all_goals
                                          refine skip_k ?_
                                          refine bn236 _ ?_
                                          refine hN235 _ ?_
                                          refine seq_k fun N243 M243 hN243 hM243 => ?_
                                          refine seq_k fun N244 M244 hN244 hM244 => ?_
                                          refine region_k fun K245 hK245 => ?_
                                          simp only [go_sem, decide_false, decide_true, Bool.not_true, Bool.not_false, h9, hcap0, hcap1, Nat.zero_add, hal, hall, hmx, hmx2, bytesR_rows, hb0, hb1, hb2, hb3, hg0, hg1, hg2, hg3, hge, hgt3, hp0, hp1, hp2, Int.toNat_zero, Int.toNat_one, Int.reduceToNat, Int.toNat_natCast, hnn, hnn2, hw1, hw2, hbc, hq1, hq2, hq3, hq4, hq6, hq7, hq8, hc6, hc7, hc8, hd4, hmi, hcap2, htk, hs61, hcap, List.length_take, List.length_drop, hq5]
                                          all_goals repeat' (first | apply And.intro | intro _)
                                          all_goals
                                            refine hK245 _ ?_
                                            refine hN244 _ ?_
                                            refine cond_k rfl (fun hc => ?_) (fun hc => ?_)
                                            · exfalso; revert hc; simp [go_sem, decide_false, decide_true, Bool.not_true, Bool.not_false, h9, hcap0, hcap1, Nat.zero_add, hal, hall, hmx, hmx2, bytesR_rows, hb0, hb1, hb2, hb3, hg0, hg1, hg2, hg3, hge, hgt3, hp0, hp1, hp2, Int.toNat_zero, Int.toNat_one, Int.reduceToNat, Int.toNat_natCast, hnn, hnn2, hw1, hw2, hbc, hq1, hq2, hq3, hq4, hq6, hq7, hq8, hc6, hc7, hc8, hd4, hmi, hcap2, htk, hs61, hcap, List.length_take, List.length_drop, hq5]
                                            · try simp only [go_sem, decide_false, decide_true, Bool.not_true, Bool.not_false, h9, hcap0, hcap1, Nat.zero_add, hal, hall, hmx, hmx2, bytesR_rows, hb0, hb1, hb2, hb3, hg0, hg1, hg2, hg3, hge, hgt3, hp0, hp1, hp2, Int.toNat_zero, Int.toNat_one, Int.reduceToNat, Int.toNat_natCast, hnn, hnn2, hw1, hw2, hbc, hq1, hq2, hq3, hq4, hq6, hq7, hq8, hc6, hc7, hc8, hd4, hmi, hcap2, htk, hs61, hcap, List.length_take, List.length_drop, hq5] at hc
                                              all_goals
                                                refine skip_k ?_
                                                refine hN243 _ ?_
                                                refine seq_k fun N246 M246 hN246 hM246 => ?_
                                                refine draw_k [54, 55, 56, 57, 58, 59, 60, 61, 62, 63, 64, 65, 66, 67, 8] [0, 0, 2, 6, 0, 16, 48, 0, 0, 256, 896, 1920, 4094, 8190, 16383, 32767] [] mixed (by kernel_rfl) (by simp only [go_sem]) fun K247 hK247 => ?_
                                                simp only [go_sem, decide_false, decide_true, Bool.not_true, Bool.not_false, h9, hcap0, hcap1, Nat.zero_add, hal, hall, hmx, hmx2, bytesR_rows, hb0, hb1, hb2, hb3, hg0, hg1, hg2, hg3, hge, hgt3, hp0, hp1, hp2, Int.toNat_zero, Int.toNat_one, Int.reduceToNat, Int.toNat_natCast, hnn, hnn2, hw1, hw2, hbc, hq1, hq2, hq3, hq4, hq6, hq7, hq8, hc6, hc7, hc8, hd4, hmi, hcap2, htk, hs61, hcap, List.length_take, List.length_drop, hq5]
                                                all_goals repeat' (first | apply And.intro | intro _)
                                                all_goals
                                                  refine hK247 _ _ ?_ ?_
                                                  · first | trivial | (simp only [go_sem]; done) | (simp only [go_sem]; simp; done) | (simp only [go_sem]; simp; simp only [go_sem])
                                                  refine hN246 _ ?_
                                                  refine ht_seal 65 (((bt.drop 4).take n).map .u8) (b := true) (by simp only [pls_bytes, look]; simp) (by decide) ?_
                                                  simp only [St.laid, sealE, sealM, sealV, sealW, List.map_cons, List.map_nil, sealL_pl, sealL_fn0, hs61, sealL_sne (j := 68) (k := 65) (by decide), sealL_sne (j := 67) (k := 65) (by decide), frsC_seal, map_sealB, Nat.reduceLT, Nat.reduceEqDiff, if_true, if_false, reduceIte]
                                                  refine region_k fun K248 hK248 => ?_
                                                  simp only [go_sem, decide_false, decide_true, Bool.not_true, Bool.not_false, h9, hcap0, hcap1, Nat.zero_add, hal, hall, hmx, hmx2, bytesR_rows, hb0, hb1, hb2, hb3, hg0, hg1, hg2, hg3, hge, hgt3, hp0, hp1, hp2, Int.toNat_zero, Int.toNat_one, Int.reduceToNat, Int.toNat_natCast, hnn, hnn2, hw1, hw2, hbc, hq1, hq2, hq3, hq4, hq6, hq7, hq8, hc6, hc7, hc8, hd4, hmi, hcap2, htk, hs61, hcap, List.length_take, List.length_drop, hq5]
                                                  all_goals repeat' (first | apply And.intro | intro _)
                                                  all_goals
                                                    refine hK248 _ ?_
                                                    refine bn232 _ ?_
                                                    refine hN12 ⟨(c - 1, l ++ [frOf bt], bt.drop (4 + n)), hnx⟩ _ ?_ ?_ ?_
                                                    · (have hcl0 := hv.2.1; simp only at hcl0; show c - 1 < c; clear hnn hnn2 hw1 hw2 hcap; omega)
                                                    · (simp only [go_sem, fV_snoc, fV_one, Nat.add_comm 4 n, leX, List.cons_append, List.nil_append]; try simp [fV_snoc, fV_one])
                                                    · (simp only [fM_snoc, frsC_snoc, hfr, go_sem, leX, List.cons_append, List.nil_append]; try simp [fM_one, frsC_one, leX, look, pls, sealL_pl])
                  · exfalso; revert hc; simp [go_sem, decide_false, decide_true, Bool.not_true, Bool.not_false, h9, hcap0, hcap1, Nat.zero_add, hal, hall, hmx, hmx2, bytesR_rows, hb0, hb1, hb2, hb3, hg0, hg1, hg2, hg3, hge, hgt3, hp0, hp1, hp2, Int.toNat_zero, Int.toNat_one, Int.reduceToNat, Int.toNat_natCast, hnn, hnn2, hw1, hw2, hbc, hq1, hq2, hq3, hq4, hq6, hq7, hq8, hc6, hc7, hc8, hd4, hmi, hcap2, htk, hs61, hcap, List.length_take, List.length_drop, hq5]
end Go.Sy
