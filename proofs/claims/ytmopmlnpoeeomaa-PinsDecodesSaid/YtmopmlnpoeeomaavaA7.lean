/- Walks: pins, read off bytes, as the document's answer does it; whether pins are the same. -/
import Derived.Test.YtmopmlnpoeeomaavaA6
import Derived.Test.YtmopmlnpoeeomaavE3
set_option linter.unusedVariables false
set_option linter.unusedSimpArgs false
namespace Go.Sy
open Go.Proofs
attribute [local irreducible] atCall HT runOps runD onC onE onO onG goV goA goS onSt onGuard
set_option maxHeartbeats 400000 in
theorem key_ (s : List UInt8) (hs : s.length = 32) :
    Ct Try.prog 47 [.w (.one (.pl (.str s)))] (fun v m => v = .w (.agg (bytesC s))) := by
  have h1 : min 32 32 = 32 := rfl
  have h2 : s.take 32 = s := List.take_of_length_le (by omega)
  have h3 : (List.replicate 32 (0 : UInt8)).drop 32 = [] := rfl
  refine Ct.k Try.func47 rfl Try.ntmps47 (congrArg Array.toList Try.results47) (by simp) fun w0 ro => ?_
  refine seq_k fun N1 M1 hN1 hM1 => ?_
  refine region_k fun K2 hK2 => ?_
  simp only [go_sem, hs, h1, h2, h3, List.append_nil]
  all_goals repeat' (first | apply And.intro | intro _)
  all_goals
    refine hK2 _ ?_
    refine hN1 _ ?_
    refine seq_k fun N3 M3 hN3 hM3 => ?_
    refine region_k fun K4 hK4 => ?_
    simp only [go_sem, hs, h1, h2, h3, List.append_nil]
    all_goals repeat' (first | apply And.intro | intro _)
    all_goals
      refine hK4 _ ?_
      refine hN3 _ ?_
      refine seq_k fun N5 M5 hN5 hM5 => ?_
      refine text_k [4, 5, 6] (by simp only [go_sem]) fun K6 hK6 => ?_
      simp only [go_sem, hs, h1, h2, h3, List.append_nil]
      all_goals repeat' (first | apply And.intro | intro _)
      all_goals
        refine hK6 _ _ ?_
        refine hN5 _ ?_
        refine seq_k fun N7 M7 hN7 hM7 => ?_
        refine region_k fun K8 hK8 => ?_
        simp only [go_sem, hs, h1, h2, h3, List.append_nil]
        all_goals repeat' (first | apply And.intro | intro _)
        all_goals
          refine hK8 _ ?_
          refine hN7 _ ?_
          refine ret_k ?_
          simp only [go_sem, hs, h1, h2, h3, List.append_nil]
          all_goals rfl
set_option maxHeartbeats 400000 in
theorem pins_of_empty (ex : Bool) :
    Ct Try.prog 28 [.w (.one (.pl (.R ex 1 (byteRows []))))] (Told (pinsV [] 4)) := by
  refine Ct.k Try.func28 rfl Try.ntmps28 (congrArg Array.toList Try.results28) (by simp) fun w0 ro => ?_
  refine seq_k fun N1 M1 hN1 hM1 => ?_
  refine region_k fun K2 hK2 => ?_
  simp only [go_sem, bytesR, Option.map_some, decide_true]
  all_goals repeat' (first | apply And.intro | intro _)
  all_goals
    refine hK2 _ ?_
    refine hN1 _ ?_
    refine seq_k fun N3 M3 hN3 hM3 => ?_
    refine region_k fun K4 hK4 => ?_
    simp only [go_sem, bytesR, Option.map_some, decide_true]
    all_goals repeat' (first | apply And.intro | intro _)
    all_goals
      refine hK4 _ ?_
      refine hN3 _ ?_
      refine seq_k fun N5 M5 hN5 hM5 => ?_
      refine seq_k fun N6 M6 hN6 hM6 => ?_
      refine region_k fun K7 hK7 => ?_
      simp only [go_sem, bytesR, Option.map_some, decide_true]
      all_goals repeat' (first | apply And.intro | intro _)
      all_goals
        refine hK7 _ ?_
        refine hN6 _ ?_
        refine cond_k rfl (fun hc => ?_) (fun hc => ?_)
        · try simp only [go_sem, bytesR, Option.map_some, decide_true] at hc
          all_goals
            refine seq_k fun N8 M8 hN8 hM8 => ?_
            refine region_k fun K9 hK9 => ?_
            simp only [go_sem, bytesR, Option.map_some, decide_true]
            all_goals repeat' (first | apply And.intro | intro _)
            all_goals
              refine hK9 _ ?_
              refine hN8 _ ?_
              refine ret_k ?_
              refine hM5 _ _ ?_
              simp only [go_sem, bytesR, Option.map_some, decide_true]
              all_goals (exact pins_nil)
        · exfalso; revert hc; simp [go_sem, bytesR, Option.map_some, decide_true]
set_option maxHeartbeats 400000 in
theorem pins_of_big (bs : List UInt8) (hbs : bs.length ≤ 9223372036854775807) (ex : Bool) (h0 : 0 < bs.length) (h8 : 8 < pn bs) :
    Ct Try.prog 28 [.w (.one (.pl (.R ex 1 (byteRows bs))))] (Told (pinsV [] 1)) := by
  obtain ⟨c0, hc0⟩ : ∃ b, bs.getD 0 0 = b := ⟨_, rfl⟩
  obtain ⟨n, hn⟩ : ∃ x, c0.toNat = x := ⟨_, rfl⟩
  have hpn0 : pn bs = n := by rw [pn, hc0, hn]
  have hz : (bs = []) = False := by simp; intro e; subst e; simp at h0
  have hlt : (0 : Int) < ((bs.length : Nat) : Int) := by omega
  have hone : (1 : Int) ≤ ((bs.length : Nat) : Int) := by omega
  have h81 : (8 : Int) < ((n : Nat) : Int) := by omega
  refine Ct.k Try.func28 rfl Try.ntmps28 (congrArg Array.toList Try.results28) (by simp) fun w0 ro => ?_
  refine seq_k fun N1 M1 hN1 hM1 => ?_
  refine region_k fun K2 hK2 => ?_
  simp only [go_sem, bytesR_rows, hz, hc0, hn, h81, hlt, hone, Int.toNat_zero, decide_false, decide_true, hbs]
  all_goals repeat' (first | apply And.intro | intro _)
  all_goals
    refine hK2 _ ?_
    refine hN1 _ ?_
    refine seq_k fun N3 M3 hN3 hM3 => ?_
    refine region_k fun K4 hK4 => ?_
    simp only [go_sem, bytesR_rows, hz, hc0, hn, h81, hlt, hone, Int.toNat_zero, decide_false, decide_true, hbs]
    all_goals repeat' (first | apply And.intro | intro _)
    all_goals
      refine hK4 _ ?_
      refine hN3 _ ?_
      refine seq_k fun N5 M5 hN5 hM5 => ?_
      refine seq_k fun N6 M6 hN6 hM6 => ?_
      refine region_k fun K7 hK7 => ?_
      simp only [go_sem, bytesR_rows, hz, hc0, hn, h81, hlt, hone, Int.toNat_zero, decide_false, decide_true, hbs]
      all_goals repeat' (first | apply And.intro | intro _)
      all_goals
        refine hK7 _ ?_
        refine hN6 _ ?_
        refine cond_k rfl (fun hc => ?_) (fun hc => ?_)
        · exfalso; revert hc; simp [go_sem, bytesR_rows, hz, hc0, hn, h81, hlt, hone, Int.toNat_zero, decide_false, decide_true, hbs]
        · try simp only [go_sem, bytesR_rows, hz, hc0, hn, h81, hlt, hone, Int.toNat_zero, decide_false, decide_true, hbs] at hc
          all_goals
            refine skip_k ?_
            refine hN5 _ ?_
            refine seq_k fun N8 M8 hN8 hM8 => ?_
            refine region_k fun K9 hK9 => ?_
            simp only [go_sem, bytesR_rows, hz, hc0, hn, h81, hlt, hone, Int.toNat_zero, decide_false, decide_true, hbs]
            all_goals repeat' (first | apply And.intro | intro _)
            all_goals
              refine hK9 _ ?_
              refine hN8 _ ?_
              refine seq_k fun N10 M10 hN10 hM10 => ?_
              refine seq_k fun N11 M11 hN11 hM11 => ?_
              refine region_k fun K12 hK12 => ?_
              simp only [go_sem, bytesR_rows, hz, hc0, hn, h81, hlt, hone, Int.toNat_zero, decide_false, decide_true, hbs]
              all_goals repeat' (first | apply And.intro | intro _)
              all_goals
                refine hK12 _ ?_
                refine hN11 _ ?_
                refine cond_k rfl (fun hc => ?_) (fun hc => ?_)
                · try simp only [go_sem, bytesR_rows, hz, hc0, hn, h81, hlt, hone, Int.toNat_zero, decide_false, decide_true, hbs] at hc
                  all_goals
                    refine seq_k fun N13 M13 hN13 hM13 => ?_
                    refine region_k fun K14 hK14 => ?_
                    simp only [go_sem, bytesR_rows, hz, hc0, hn, h81, hlt, hone, Int.toNat_zero, decide_false, decide_true, hbs]
                    all_goals repeat' (first | apply And.intro | intro _)
                    all_goals
                      refine hK14 _ ?_
                      refine hN13 _ ?_
                      refine ret_k ?_
                      refine hM10 _ _ ?_
                      simp only [go_sem, bytesR_rows, hz, hc0, hn, h81, hlt, hone, Int.toNat_zero, decide_false, decide_true, hbs]
                      all_goals (exact pins_nil)
                · exfalso; revert hc; simp [go_sem, bytesR_rows, hz, hc0, hn, h81, hlt, hone, Int.toNat_zero, decide_false, decide_true, hbs]
set_option maxHeartbeats 3200000 in
theorem pins_of_loop (bs : List UInt8) (hbs : bs.length ≤ 9223372036854775807) (ex : Bool) (h0 : 0 < bs.length) (h8 : ¬ 8 < pn bs) :
    Ct Try.prog 28 [.w (.one (.pl (.R ex 1 (byteRows bs))))] (Told (pinsV (decP bs).2 (decP bs).1)) := by
  obtain ⟨c0, hc0⟩ : ∃ b, bs.getD 0 0 = b := ⟨_, rfl⟩
  obtain ⟨n, hn⟩ : ∃ x, c0.toNat = x := ⟨_, rfl⟩
  have hpn0 : pn bs = n := by rw [pn, hc0, hn]
  have hz : (bs = []) = False := by simp; intro e; subst e; simp at h0
  have hlt : (0 : Int) < ((bs.length : Nat) : Int) := by omega
  have hone : (1 : Int) ≤ ((bs.length : Nat) : Int) := by omega
  have h81 : ¬ (8 : Int) < ((n : Nat) : Int) := by omega
  refine Ct.k Try.func28 rfl Try.ntmps28 (congrArg Array.toList Try.results28) (by simp) fun w0 ro => ?_
  refine seq_k fun N1 M1 hN1 hM1 => ?_
  refine region_k fun K2 hK2 => ?_
  simp only [go_sem, bytesR_rows, hz, hc0, hn, h81, hlt, hone, Int.toNat_zero, decide_false, decide_true, hbs]
  all_goals repeat' (first | apply And.intro | intro _)
  all_goals
    refine hK2 _ ?_
    refine hN1 _ ?_
    refine seq_k fun N3 M3 hN3 hM3 => ?_
    refine region_k fun K4 hK4 => ?_
    simp only [go_sem, bytesR_rows, hz, hc0, hn, h81, hlt, hone, Int.toNat_zero, decide_false, decide_true, hbs]
    all_goals repeat' (first | apply And.intro | intro _)
    all_goals
      refine hK4 _ ?_
      refine hN3 _ ?_
      refine seq_k fun N5 M5 hN5 hM5 => ?_
      refine seq_k fun N6 M6 hN6 hM6 => ?_
      refine region_k fun K7 hK7 => ?_
      simp only [go_sem, bytesR_rows, hz, hc0, hn, h81, hlt, hone, Int.toNat_zero, decide_false, decide_true, hbs]
      all_goals repeat' (first | apply And.intro | intro _)
      all_goals
        refine hK7 _ ?_
        refine hN6 _ ?_
        refine cond_k rfl (fun hc => ?_) (fun hc => ?_)
        · exfalso; revert hc; simp [go_sem, bytesR_rows, hz, hc0, hn, h81, hlt, hone, Int.toNat_zero, decide_false, decide_true, hbs]
        · try simp only [go_sem, bytesR_rows, hz, hc0, hn, h81, hlt, hone, Int.toNat_zero, decide_false, decide_true, hbs] at hc
          all_goals
            refine skip_k ?_
            refine hN5 _ ?_
            refine seq_k fun N8 M8 hN8 hM8 => ?_
            refine region_k fun K9 hK9 => ?_
            simp only [go_sem, bytesR_rows, hz, hc0, hn, h81, hlt, hone, Int.toNat_zero, decide_false, decide_true, hbs]
            all_goals repeat' (first | apply And.intro | intro _)
            all_goals
              refine hK9 _ ?_
              refine hN8 _ ?_
              refine seq_k fun N10 M10 hN10 hM10 => ?_
              refine seq_k fun N11 M11 hN11 hM11 => ?_
              refine region_k fun K12 hK12 => ?_
              simp only [go_sem, bytesR_rows, hz, hc0, hn, h81, hlt, hone, Int.toNat_zero, decide_false, decide_true, hbs]
              all_goals repeat' (first | apply And.intro | intro _)
              all_goals
                refine hK12 _ ?_
                refine hN11 _ ?_
                refine cond_k rfl (fun hc => ?_) (fun hc => ?_)
                · exfalso; revert hc; simp [go_sem, bytesR_rows, hz, hc0, hn, h81, hlt, hone, Int.toNat_zero, decide_false, decide_true, hbs]
                · try simp only [go_sem, bytesR_rows, hz, hc0, hn, h81, hlt, hone, Int.toNat_zero, decide_false, decide_true, hbs] at hc
                  all_goals
                    refine skip_k ?_
                    refine hN10 _ ?_
                    refine seq_k fun N13 M13 hN13 hM13 => ?_
                    refine region_k fun K14 hK14 => ?_
                    simp only [go_sem, bytesR_rows, hz, hc0, hn, h81, hlt, hone, Int.toNat_zero, decide_false, decide_true, hbs]
                    all_goals repeat' (first | apply And.intro | intro _)
                    all_goals
                      refine hK14 _ ?_
                      refine hN13 _ ?_
                      refine seq_k fun N15 M15 hN15 hM15 => ?_
                      refine region_k fun K16 hK16 => ?_
                      simp only [go_sem, bytesR_rows, hz, hc0, hn, h81, hlt, hone, Int.toNat_zero, decide_false, decide_true, hbs]
                      all_goals repeat' (first | apply And.intro | intro _)
                      all_goals
                        refine hK16 _ ?_
                        refine hN15 _ ?_
                        refine seq_k fun N17 M17 hN17 hM17 => ?_
                        refine seq_k fun N18 M18 hN18 hM18 => ?_
                        refine region_k fun K19 hK19 => ?_
                        simp only [go_sem, bytesR_rows, hz, hc0, hn, h81, hlt, hone, Int.toNat_zero, decide_false, decide_true, hbs]
                        all_goals repeat' (first | apply And.intro | intro _)
                        all_goals
                          refine hK19 _ ?_
                          refine hN18 _ ?_
                          refine block_k fun B20 bn20 bx20 br20 bi20 => ?_
                          refine ht_dropE [0, 5, 9, 10, 11, 12, 13, 14, 15, 16, 17, 18, 19] ?_
                          simp only [dropE_mk, fgt_nil, fgt_cons, List.contains_cons, List.contains_nil, Nat.reduceBEq, beq_self_eq_true, Bool.or_false, Bool.or_true, Bool.true_or, Bool.false_or, Bool.false_eq_true, reduceIte]
                          refine loop_k (fun y => [(21, .w (.one (.pl (.i (y.1.1 : Nat))))), (4, .w (.one (.pl (.str y.1.2.2)))), (6, outV 57 y.1.2.1)]) (fun y => outM 57 y.1.2.1) (fun y => n - y.1.1) (⟨(0, [], bs.drop 1), Nat.zero_le _, rfl, fun p hp => (by cases hp), rfl, Nat.le_refl _⟩ : {y : Nat × List PinD × List UInt8 // DInv n (bs.drop 1) y}) ?_ ?_ ?_
                          · (simp only [go_sem, outV_nil, leX, List.cons_append, List.nil_append]; try simp)
                          · (simp only [go_sem, outM_nil, leX, List.cons_append, List.nil_append]; try simp)
                          intro ⟨y, hv⟩ N21 M21 hN21 hM21
                          simp only [List.cons_append, List.nil_append]
                          obtain ⟨i, l, bt⟩ := y
                          have hd := dec_cases n i l bt hv.1
                          rcases hd with ⟨hlt0, hle⟩ | ⟨hlt0, hpos, hle⟩ | ⟨hlt0, hle, hgt, rfl⟩ | ⟨hlt0, hle, hgt, hl0⟩ | ⟨hlt0, hle, hgt, rfl⟩ | ⟨hlt0, hle, hgt, hl0⟩ | ⟨he, hle⟩ | ⟨he, hle, rfl⟩ | ⟨he, hle, hl0, hf⟩ | ⟨he, hle, hl0, hf⟩
                          · have hfe := dinv_fault hv hlt0 (by rw [fault_len0 hle]; decide)
                            rw [fault_len0 hle] at hfe
                            have hil : ((i : Nat) : Int) < ((n : Nat) : Int) := by omega
                            have hz : (bt = []) = True := by simp [List.eq_nil_of_length_eq_zero hle]
                            refine seq_k fun N22 M22 hN22 hM22 => ?_
                            refine region_k fun K23 hK23 => ?_
                            simp only [go_sem, bytesR_rows, hz, hc0, hn, h81, hlt, hone, Int.toNat_zero, decide_false, decide_true, hbs, hil, hz, decide_true, decide_false]
                            all_goals repeat' (first | apply And.intro | intro _)
                            all_goals
                              refine hK23 _ ?_
                              refine hN22 _ ?_
                              refine seq_k fun N24 M24 hN24 hM24 => ?_
                              refine cond_k rfl (fun hc => ?_) (fun hc => ?_)
                              · try simp only [go_sem, bytesR_rows, hz, hc0, hn, h81, hlt, hone, Int.toNat_zero, decide_false, decide_true, hbs, hil, hz, decide_true, decide_false] at hc
                                all_goals
                                  refine skip_k ?_
                                  refine hN24 _ ?_
                                  refine seq_k fun N25 M25 hN25 hM25 => ?_
                                  refine block_k fun B26 bn26 bx26 br26 bi26 => ?_
                                  refine seq_k fun N27 M27 hN27 hM27 => ?_
                                  refine seq_k fun N28 M28 hN28 hM28 => ?_
                                  refine region_k fun K29 hK29 => ?_
                                  simp only [go_sem, bytesR_rows, hz, hc0, hn, h81, hlt, hone, Int.toNat_zero, decide_false, decide_true, hbs, hil, hz, decide_true, decide_false]
                                  all_goals repeat' (first | apply And.intro | intro _)
                                  all_goals
                                    refine hK29 _ ?_
                                    refine hN28 _ ?_
                                    refine cond_k rfl (fun hc => ?_) (fun hc => ?_)
                                    · try simp only [go_sem, bytesR_rows, hz, hc0, hn, h81, hlt, hone, Int.toNat_zero, decide_false, decide_true, hbs, hil, hz, decide_true, decide_false] at hc
                                      all_goals
                                        refine seq_k fun N30 M30 hN30 hM30 => ?_
                                        refine region_k fun K31 hK31 => ?_
                                        simp only [go_sem, bytesR_rows, hz, hc0, hn, h81, hlt, hone, Int.toNat_zero, decide_false, decide_true, hbs, hil, hz, decide_true, decide_false]
                                        all_goals repeat' (first | apply And.intro | intro _)
                                        all_goals
                                          refine hK31 _ ?_
                                          refine hN30 _ ?_
                                          refine ret_k ?_
                                          refine hM27 _ _ ?_
                                          refine br26 _ ?_
                                          refine hM25 _ _ ?_
                                          refine hM21 _ _ ?_
                                          refine br20 _ ?_
                                          refine hM17 _ _ ?_
                                          simp only [go_sem, bytesR_rows, hz, hc0, hn, h81, hlt, hone, Int.toNat_zero, decide_false, decide_true, hbs, hil, hz, decide_true, decide_false]
                                          all_goals (exact bad_end h0 h8 hpn0 hfe)
                                    · exfalso; revert hc; simp [go_sem, bytesR_rows, hz, hc0, hn, h81, hlt, hone, Int.toNat_zero, decide_false, decide_true, hbs, hil, hz, decide_true, decide_false]
                              · exfalso; revert hc; simp [go_sem, bytesR_rows, hz, hc0, hn, h81, hlt, hone, Int.toNat_zero, decide_false, decide_true, hbs, hil, hz, decide_true, decide_false]
                          · have hfe := dinv_fault hv hlt0 (by rw [fault_short hpos hle]; decide)
                            rw [fault_short hpos hle] at hfe
                            obtain ⟨b0, hb0⟩ : ∃ b, bt.getD 0 0 = b := ⟨_, rfl⟩
                            obtain ⟨x, hx⟩ : ∃ x, b0.toNat = x := ⟨_, rfl⟩
                            have hpn : pn bt = x := by rw [pn, hb0, hx]
                            have hx255 : x ≤ 255 := hpn ▸ pn_le bt
                            try rw [hpn] at hle
                            try rw [hpn] at hgt
                            have hil : ((i : Nat) : Int) < ((n : Nat) : Int) := by omega
                            have hlt1 : 0 < bt.length := by omega
                            have hz : (bt = []) = False := by simp; intro e; subst e; simp at hlt1
                            have hlt : (0 : Int) < ((bt.length : Nat) : Int) := by omega
                            have hbl : bt.length ≤ 9223372036854775807 := by have := hv.2.2.2.2; simp only [List.length_drop] at this; omega
                            have hsh : ((bt.length : Nat) : Int) < ((x + 34 : Nat) : Int) := by omega
                            obtain ⟨hw1, hw2, hw3, hw4, hw5, hs1⟩ : Go.RowKit.wrap64 (1 + ((x : Nat) : Int)) = ((x + 1 : Nat) : Int) ∧ Go.RowKit.wrap64 (((x + 1 : Nat) : Int) + 32) = ((x + 33 : Nat) : Int) ∧ Go.RowKit.wrap64 (34 + ((x : Nat) : Int)) = ((x + 34 : Nat) : Int) ∧ Go.RowKit.wrap64 (((x + 1 : Nat) : Int) + 33) = ((x + 34 : Nat) : Int) ∧ Go.RowKit.wrap64 (33 + ((x : Nat) : Int)) = ((x + 33 : Nat) : Int) ∧ Go.RowKit.wrap64 (((i : Nat) : Int) + 1) = ((i + 1 : Nat) : Int) := ⟨wnat (by omega) (by omega), wnat (by omega) (by omega), wnat (by omega) (by omega), wnat (by omega) (by omega), wnat (by omega) (by omega), wnat (by omega) (by omega)⟩
                            
                            refine seq_k fun N32 M32 hN32 hM32 => ?_
                            refine region_k fun K33 hK33 => ?_
                            simp only [go_sem, bytesR_rows, hz, hc0, hn, h81, hlt, hone, Int.toNat_zero, decide_false, decide_true, hbs, hil, hw1, hw2, hw3, hw4, hw5, hs1, hb0, hx, Int.toNat_natCast, Int.toNat_zero, decide_true, decide_false, hbl, hz, hlt, hsh]
                            all_goals repeat' (first | apply And.intro | intro _)
                            all_goals
                              refine hK33 _ ?_
                              refine hN32 _ ?_
                              refine seq_k fun N34 M34 hN34 hM34 => ?_
                              refine cond_k rfl (fun hc => ?_) (fun hc => ?_)
                              · try simp only [go_sem, bytesR_rows, hz, hc0, hn, h81, hlt, hone, Int.toNat_zero, decide_false, decide_true, hbs, hil, hw1, hw2, hw3, hw4, hw5, hs1, hb0, hx, Int.toNat_natCast, Int.toNat_zero, decide_true, decide_false, hbl, hz, hlt, hsh] at hc
                                all_goals
                                  refine skip_k ?_
                                  refine hN34 _ ?_
                                  refine seq_k fun N35 M35 hN35 hM35 => ?_
                                  refine block_k fun B36 bn36 bx36 br36 bi36 => ?_
                                  refine seq_k fun N37 M37 hN37 hM37 => ?_
                                  refine seq_k fun N38 M38 hN38 hM38 => ?_
                                  refine region_k fun K39 hK39 => ?_
                                  simp only [go_sem, bytesR_rows, hz, hc0, hn, h81, hlt, hone, Int.toNat_zero, decide_false, decide_true, hbs, hil, hw1, hw2, hw3, hw4, hw5, hs1, hb0, hx, Int.toNat_natCast, Int.toNat_zero, decide_true, decide_false, hbl, hz, hlt, hsh]
                                  all_goals repeat' (first | apply And.intro | intro _)
                                  all_goals
                                    refine hK39 _ ?_
                                    refine hN38 _ ?_
                                    refine cond_k rfl (fun hc => ?_) (fun hc => ?_)
                                    · exfalso; revert hc; simp [go_sem, bytesR_rows, hz, hc0, hn, h81, hlt, hone, Int.toNat_zero, decide_false, decide_true, hbs, hil, hw1, hw2, hw3, hw4, hw5, hs1, hb0, hx, Int.toNat_natCast, Int.toNat_zero, decide_true, decide_false, hbl, hz, hlt, hsh]
                                    · try simp only [go_sem, bytesR_rows, hz, hc0, hn, h81, hlt, hone, Int.toNat_zero, decide_false, decide_true, hbs, hil, hw1, hw2, hw3, hw4, hw5, hs1, hb0, hx, Int.toNat_natCast, Int.toNat_zero, decide_true, decide_false, hbl, hz, hlt, hsh] at hc
                                      all_goals
                                        refine skip_k ?_
                                        refine hN37 _ ?_
                                        refine seq_k fun N40 M40 hN40 hM40 => ?_
                                        refine region_k fun K41 hK41 => ?_
                                        simp only [go_sem, bytesR_rows, hz, hc0, hn, h81, hlt, hone, Int.toNat_zero, decide_false, decide_true, hbs, hil, hw1, hw2, hw3, hw4, hw5, hs1, hb0, hx, Int.toNat_natCast, Int.toNat_zero, decide_true, decide_false, hbl, hz, hlt, hsh]
                                        all_goals repeat' (first | apply And.intro | intro _)
                                        all_goals
                                          refine hK41 _ ?_
                                          refine hN40 _ ?_
                                          refine seq_k fun N42 M42 hN42 hM42 => ?_
                                          refine seq_k fun N43 M43 hN43 hM43 => ?_
                                          refine region_k fun K44 hK44 => ?_
                                          simp only [go_sem, bytesR_rows, hz, hc0, hn, h81, hlt, hone, Int.toNat_zero, decide_false, decide_true, hbs, hil, hw1, hw2, hw3, hw4, hw5, hs1, hb0, hx, Int.toNat_natCast, Int.toNat_zero, decide_true, decide_false, hbl, hz, hlt, hsh]
                                          all_goals repeat' (first | apply And.intro | intro _)
                                          all_goals
                                            refine hK44 _ ?_
                                            refine hN43 _ ?_
                                            refine cond_k rfl (fun hc => ?_) (fun hc => ?_)
                                            · try simp only [go_sem, bytesR_rows, hz, hc0, hn, h81, hlt, hone, Int.toNat_zero, decide_false, decide_true, hbs, hil, hw1, hw2, hw3, hw4, hw5, hs1, hb0, hx, Int.toNat_natCast, Int.toNat_zero, decide_true, decide_false, hbl, hz, hlt, hsh] at hc
                                              all_goals
                                                refine seq_k fun N45 M45 hN45 hM45 => ?_
                                                refine region_k fun K46 hK46 => ?_
                                                simp only [go_sem, bytesR_rows, hz, hc0, hn, h81, hlt, hone, Int.toNat_zero, decide_false, decide_true, hbs, hil, hw1, hw2, hw3, hw4, hw5, hs1, hb0, hx, Int.toNat_natCast, Int.toNat_zero, decide_true, decide_false, hbl, hz, hlt, hsh]
                                                all_goals repeat' (first | apply And.intro | intro _)
                                                all_goals
                                                  refine hK46 _ ?_
                                                  refine hN45 _ ?_
                                                  refine ret_k ?_
                                                  refine hM42 _ _ ?_
                                                  refine br36 _ ?_
                                                  refine hM35 _ _ ?_
                                                  refine hM21 _ _ ?_
                                                  refine br20 _ ?_
                                                  refine hM17 _ _ ?_
                                                  simp only [go_sem, bytesR_rows, hz, hc0, hn, h81, hlt, hone, Int.toNat_zero, decide_false, decide_true, hbs, hil, hw1, hw2, hw3, hw4, hw5, hs1, hb0, hx, Int.toNat_natCast, Int.toNat_zero, decide_true, decide_false, hbl, hz, hlt, hsh]
                                                  all_goals (exact bad_end h0 h8 hpn0 hfe)
                                            · exfalso; revert hc; simp [go_sem, bytesR_rows, hz, hc0, hn, h81, hlt, hone, Int.toNat_zero, decide_false, decide_true, hbs, hil, hw1, hw2, hw3, hw4, hw5, hs1, hb0, hx, Int.toNat_natCast, Int.toNat_zero, decide_true, decide_false, hbl, hz, hlt, hsh]
                              · exfalso; revert hc; simp [go_sem, bytesR_rows, hz, hc0, hn, h81, hlt, hone, Int.toNat_zero, decide_false, decide_true, hbs, hil, hw1, hw2, hw3, hw4, hw5, hs1, hb0, hx, Int.toNat_natCast, Int.toNat_zero, decide_true, decide_false, hbl, hz, hlt, hsh]
                          · have hfe := dinv_fault hv hlt0 (by rw [fault_form hle hgt]; decide)
                            rw [fault_form hle hgt] at hfe
                            simp only [outV_nil, outM_nil, List.cons_append, List.nil_append]
                            obtain ⟨b0, hb0⟩ : ∃ b, bt.getD 0 0 = b := ⟨_, rfl⟩
                            obtain ⟨x, hx⟩ : ∃ x, b0.toNat = x := ⟨_, rfl⟩
                            have hpn : pn bt = x := by rw [pn, hb0, hx]
                            have hx255 : x ≤ 255 := hpn ▸ pn_le bt
                            try rw [hpn] at hle
                            try rw [hpn] at hgt
                            have hil : ((i : Nat) : Int) < ((n : Nat) : Int) := by omega
                            have hlt1 : 0 < bt.length := by omega
                            have hz : (bt = []) = False := by simp; intro e; subst e; simp at hlt1
                            have hlt : (0 : Int) < ((bt.length : Nat) : Int) := by omega
                            have hbl : bt.length ≤ 9223372036854775807 := by have := hv.2.2.2.2; simp only [List.length_drop] at this; omega
                            have hsh : ¬ ((bt.length : Nat) : Int) < ((x + 34 : Nat) : Int) := by omega
                            have hmin : min (bt.length - (x + 1)) 32 = 32 := by omega
                            have hmin2 : min 32 (bt.length - (x + 1)) = 32 := by omega
                            have hk32 : ((bt.drop (x + 1)).take 32).length = 32 := by rw [List.length_take, List.length_drop]; omega
                            have hc1 : (1 : Int) ≤ ((x + 1 : Nat) : Int) := by omega
                            have hc2 : ((x + 1 : Nat) : Int) ≤ ((bt.length : Nat) : Int) := by omega
                            have hc3 : (0 : Int) ≤ ((x + 33 : Nat) : Int) := by omega
                            have hc4 : ((x + 33 : Nat) : Int) < ((bt.length : Nat) : Int) := by omega
                            have hc5 : (0 : Int) ≤ ((x + 34 : Nat) : Int) := by omega
                            have hc6 : ((x + 34 : Nat) : Int) ≤ ((bt.length : Nat) : Int) := by omega
                            have hc7 : (0 : Int) ≤ ((x + 1 : Nat) : Int) := by omega
                            have hc8 : ((x + 1 : Nat) : Int) ≤ ((x + 33 : Nat) : Int) := by omega
                            have hc9 : ((x + 33 : Nat) : Int) ≤ ((bt.length : Nat) : Int) := by omega
                            have hd1 : x + 1 - 1 = x := by omega
                            have hd2 : x + 33 - (x + 1) = 32 := by omega
                            obtain ⟨hw1, hw2, hw3, hw4, hw5, hs1⟩ : Go.RowKit.wrap64 (1 + ((x : Nat) : Int)) = ((x + 1 : Nat) : Int) ∧ Go.RowKit.wrap64 (((x + 1 : Nat) : Int) + 32) = ((x + 33 : Nat) : Int) ∧ Go.RowKit.wrap64 (34 + ((x : Nat) : Int)) = ((x + 34 : Nat) : Int) ∧ Go.RowKit.wrap64 (((x + 1 : Nat) : Int) + 33) = ((x + 34 : Nat) : Int) ∧ Go.RowKit.wrap64 (33 + ((x : Nat) : Int)) = ((x + 33 : Nat) : Int) ∧ Go.RowKit.wrap64 (((i : Nat) : Int) + 1) = ((i + 1 : Nat) : Int) := ⟨wnat (by omega) (by omega), wnat (by omega) (by omega), wnat (by omega) (by omega), wnat (by omega) (by omega), wnat (by omega) (by omega), wnat (by omega) (by omega)⟩
                            
                            refine seq_k fun N47 M47 hN47 hM47 => ?_
                            refine region_k fun K48 hK48 => ?_
                            simp only [go_sem, bytesR_rows, hz, hc0, hn, h81, hlt, hone, Int.toNat_zero, decide_false, decide_true, hbs, hil, hw1, hw2, hw3, hw4, hw5, hs1, hb0, hx, Int.toNat_natCast, Int.toNat_zero, decide_true, decide_false, hbl, hz, hlt, hsh, hmin, hmin2, hk32, hc1, hc2, hc3, hc4, hc5, hc6, hc7, hc8, hc9, hd1, hd2, List.length_drop, List.length_take, hgt]
                            all_goals repeat' (first | apply And.intro | intro _)
                            all_goals
                              refine hK48 _ ?_
                              refine hN47 _ ?_
                              refine seq_k fun N49 M49 hN49 hM49 => ?_
                              refine cond_k rfl (fun hc => ?_) (fun hc => ?_)
                              · try simp only [go_sem, bytesR_rows, hz, hc0, hn, h81, hlt, hone, Int.toNat_zero, decide_false, decide_true, hbs, hil, hw1, hw2, hw3, hw4, hw5, hs1, hb0, hx, Int.toNat_natCast, Int.toNat_zero, decide_true, decide_false, hbl, hz, hlt, hsh, hmin, hmin2, hk32, hc1, hc2, hc3, hc4, hc5, hc6, hc7, hc8, hc9, hd1, hd2, List.length_drop, List.length_take, hgt] at hc
                                all_goals
                                  refine skip_k ?_
                                  refine hN49 _ ?_
                                  refine seq_k fun N50 M50 hN50 hM50 => ?_
                                  refine block_k fun B51 bn51 bx51 br51 bi51 => ?_
                                  refine seq_k fun N52 M52 hN52 hM52 => ?_
                                  refine seq_k fun N53 M53 hN53 hM53 => ?_
                                  refine region_k fun K54 hK54 => ?_
                                  simp only [go_sem, bytesR_rows, hz, hc0, hn, h81, hlt, hone, Int.toNat_zero, decide_false, decide_true, hbs, hil, hw1, hw2, hw3, hw4, hw5, hs1, hb0, hx, Int.toNat_natCast, Int.toNat_zero, decide_true, decide_false, hbl, hz, hlt, hsh, hmin, hmin2, hk32, hc1, hc2, hc3, hc4, hc5, hc6, hc7, hc8, hc9, hd1, hd2, List.length_drop, List.length_take, hgt]
                                  all_goals repeat' (first | apply And.intro | intro _)
                                  all_goals
                                    refine hK54 _ ?_
                                    refine hN53 _ ?_
                                    refine cond_k rfl (fun hc => ?_) (fun hc => ?_)
                                    · exfalso; revert hc; simp [go_sem, bytesR_rows, hz, hc0, hn, h81, hlt, hone, Int.toNat_zero, decide_false, decide_true, hbs, hil, hw1, hw2, hw3, hw4, hw5, hs1, hb0, hx, Int.toNat_natCast, Int.toNat_zero, decide_true, decide_false, hbl, hz, hlt, hsh, hmin, hmin2, hk32, hc1, hc2, hc3, hc4, hc5, hc6, hc7, hc8, hc9, hd1, hd2, List.length_drop, List.length_take, hgt]
                                    · try simp only [go_sem, bytesR_rows, hz, hc0, hn, h81, hlt, hone, Int.toNat_zero, decide_false, decide_true, hbs, hil, hw1, hw2, hw3, hw4, hw5, hs1, hb0, hx, Int.toNat_natCast, Int.toNat_zero, decide_true, decide_false, hbl, hz, hlt, hsh, hmin, hmin2, hk32, hc1, hc2, hc3, hc4, hc5, hc6, hc7, hc8, hc9, hd1, hd2, List.length_drop, List.length_take, hgt] at hc
                                      all_goals
                                        refine skip_k ?_
                                        refine hN52 _ ?_
                                        refine seq_k fun N55 M55 hN55 hM55 => ?_
                                        refine region_k fun K56 hK56 => ?_
                                        simp only [go_sem, bytesR_rows, hz, hc0, hn, h81, hlt, hone, Int.toNat_zero, decide_false, decide_true, hbs, hil, hw1, hw2, hw3, hw4, hw5, hs1, hb0, hx, Int.toNat_natCast, Int.toNat_zero, decide_true, decide_false, hbl, hz, hlt, hsh, hmin, hmin2, hk32, hc1, hc2, hc3, hc4, hc5, hc6, hc7, hc8, hc9, hd1, hd2, List.length_drop, List.length_take, hgt]
                                        all_goals repeat' (first | apply And.intro | intro _)
                                        all_goals
                                          refine hK56 _ ?_
                                          refine hN55 _ ?_
                                          refine seq_k fun N57 M57 hN57 hM57 => ?_
                                          refine seq_k fun N58 M58 hN58 hM58 => ?_
                                          refine region_k fun K59 hK59 => ?_
                                          simp only [go_sem, bytesR_rows, hz, hc0, hn, h81, hlt, hone, Int.toNat_zero, decide_false, decide_true, hbs, hil, hw1, hw2, hw3, hw4, hw5, hs1, hb0, hx, Int.toNat_natCast, Int.toNat_zero, decide_true, decide_false, hbl, hz, hlt, hsh, hmin, hmin2, hk32, hc1, hc2, hc3, hc4, hc5, hc6, hc7, hc8, hc9, hd1, hd2, List.length_drop, List.length_take, hgt]
                                          all_goals repeat' (first | apply And.intro | intro _)
                                          all_goals
                                            refine hK59 _ ?_
                                            refine hN58 _ ?_
                                            refine cond_k rfl (fun hc => ?_) (fun hc => ?_)
                                            · exfalso; revert hc; simp [go_sem, bytesR_rows, hz, hc0, hn, h81, hlt, hone, Int.toNat_zero, decide_false, decide_true, hbs, hil, hw1, hw2, hw3, hw4, hw5, hs1, hb0, hx, Int.toNat_natCast, Int.toNat_zero, decide_true, decide_false, hbl, hz, hlt, hsh, hmin, hmin2, hk32, hc1, hc2, hc3, hc4, hc5, hc6, hc7, hc8, hc9, hd1, hd2, List.length_drop, List.length_take, hgt]
                                            · try simp only [go_sem, bytesR_rows, hz, hc0, hn, h81, hlt, hone, Int.toNat_zero, decide_false, decide_true, hbs, hil, hw1, hw2, hw3, hw4, hw5, hs1, hb0, hx, Int.toNat_natCast, Int.toNat_zero, decide_true, decide_false, hbl, hz, hlt, hsh, hmin, hmin2, hk32, hc1, hc2, hc3, hc4, hc5, hc6, hc7, hc8, hc9, hd1, hd2, List.length_drop, List.length_take, hgt] at hc
                                              all_goals
                                                refine skip_k ?_
                                                refine hN57 _ ?_
                                                refine seq_k fun N60 M60 hN60 hM60 => ?_
                                                refine seq_k fun N61 M61 hN61 hM61 => ?_
                                                refine region_k fun K62 hK62 => ?_
                                                simp only [go_sem, bytesR_rows, hz, hc0, hn, h81, hlt, hone, Int.toNat_zero, decide_false, decide_true, hbs, hil, hw1, hw2, hw3, hw4, hw5, hs1, hb0, hx, Int.toNat_natCast, Int.toNat_zero, decide_true, decide_false, hbl, hz, hlt, hsh, hmin, hmin2, hk32, hc1, hc2, hc3, hc4, hc5, hc6, hc7, hc8, hc9, hd1, hd2, List.length_drop, List.length_take, hgt]
                                                all_goals repeat' (first | apply And.intro | intro _)
                                                all_goals
                                                  refine hK62 _ ?_
                                                  refine hN61 _ ?_
                                                  refine cond_k rfl (fun hc => ?_) (fun hc => ?_)
                                                  · try simp only [go_sem, bytesR_rows, hz, hc0, hn, h81, hlt, hone, Int.toNat_zero, decide_false, decide_true, hbs, hil, hw1, hw2, hw3, hw4, hw5, hs1, hb0, hx, Int.toNat_natCast, Int.toNat_zero, decide_true, decide_false, hbl, hz, hlt, hsh, hmin, hmin2, hk32, hc1, hc2, hc3, hc4, hc5, hc6, hc7, hc8, hc9, hd1, hd2, List.length_drop, List.length_take, hgt] at hc
                                                    all_goals
                                                      refine seq_k fun N63 M63 hN63 hM63 => ?_
                                                      refine region_k fun K64 hK64 => ?_
                                                      simp only [go_sem, bytesR_rows, hz, hc0, hn, h81, hlt, hone, Int.toNat_zero, decide_false, decide_true, hbs, hil, hw1, hw2, hw3, hw4, hw5, hs1, hb0, hx, Int.toNat_natCast, Int.toNat_zero, decide_true, decide_false, hbl, hz, hlt, hsh, hmin, hmin2, hk32, hc1, hc2, hc3, hc4, hc5, hc6, hc7, hc8, hc9, hd1, hd2, List.length_drop, List.length_take, hgt]
                                                      all_goals repeat' (first | apply And.intro | intro _)
                                                      all_goals
                                                        refine hK64 _ ?_
                                                        refine hN63 _ ?_
                                                        refine ret_k ?_
                                                        refine hM60 _ _ ?_
                                                        refine br51 _ ?_
                                                        refine hM50 _ _ ?_
                                                        refine hM21 _ _ ?_
                                                        refine br20 _ ?_
                                                        refine hM17 _ _ ?_
                                                        simp only [go_sem, bytesR_rows, hz, hc0, hn, h81, hlt, hone, Int.toNat_zero, decide_false, decide_true, hbs, hil, hw1, hw2, hw3, hw4, hw5, hs1, hb0, hx, Int.toNat_natCast, Int.toNat_zero, decide_true, decide_false, hbl, hz, hlt, hsh, hmin, hmin2, hk32, hc1, hc2, hc3, hc4, hc5, hc6, hc7, hc8, hc9, hd1, hd2, List.length_drop, List.length_take, hgt]
                                                        all_goals (exact bad_end h0 h8 hpn0 hfe)
                                                  · exfalso; revert hc; simp [go_sem, bytesR_rows, hz, hc0, hn, h81, hlt, hone, Int.toNat_zero, decide_false, decide_true, hbs, hil, hw1, hw2, hw3, hw4, hw5, hs1, hb0, hx, Int.toNat_natCast, Int.toNat_zero, decide_true, decide_false, hbl, hz, hlt, hsh, hmin, hmin2, hk32, hc1, hc2, hc3, hc4, hc5, hc6, hc7, hc8, hc9, hd1, hd2, List.length_drop, List.length_take, hgt]
                              · exfalso; revert hc; simp [go_sem, bytesR_rows, hz, hc0, hn, h81, hlt, hone, Int.toNat_zero, decide_false, decide_true, hbs, hil, hw1, hw2, hw3, hw4, hw5, hs1, hb0, hx, Int.toNat_natCast, Int.toNat_zero, decide_true, decide_false, hbl, hz, hlt, hsh, hmin, hmin2, hk32, hc1, hc2, hc3, hc4, hc5, hc6, hc7, hc8, hc9, hd1, hd2, List.length_drop, List.length_take, hgt]
                          · have hfe := dinv_fault hv hlt0 (by rw [fault_form hle hgt]; decide)
                            rw [fault_form hle hgt] at hfe
                            simp only [outV_of _ hl0, outM_of _ hl0, List.cons_append, List.nil_append]
                            have hok := hv.2.2.1
                            have hpl := pinsC_length hok
                            have hli : l.length = i := hv.2.2.2.1
                            have hcap : (l.length + 1) * 56 ≤ 140737488355328 := by omega
                            obtain ⟨b0, hb0⟩ : ∃ b, bt.getD 0 0 = b := ⟨_, rfl⟩
                            obtain ⟨x, hx⟩ : ∃ x, b0.toNat = x := ⟨_, rfl⟩
                            have hpn : pn bt = x := by rw [pn, hb0, hx]
                            have hx255 : x ≤ 255 := hpn ▸ pn_le bt
                            try rw [hpn] at hle
                            try rw [hpn] at hgt
                            have hil : ((i : Nat) : Int) < ((n : Nat) : Int) := by omega
                            have hlt1 : 0 < bt.length := by omega
                            have hz : (bt = []) = False := by simp; intro e; subst e; simp at hlt1
                            have hlt : (0 : Int) < ((bt.length : Nat) : Int) := by omega
                            have hbl : bt.length ≤ 9223372036854775807 := by have := hv.2.2.2.2; simp only [List.length_drop] at this; omega
                            have hsh : ¬ ((bt.length : Nat) : Int) < ((x + 34 : Nat) : Int) := by omega
                            have hmin : min (bt.length - (x + 1)) 32 = 32 := by omega
                            have hmin2 : min 32 (bt.length - (x + 1)) = 32 := by omega
                            have hk32 : ((bt.drop (x + 1)).take 32).length = 32 := by rw [List.length_take, List.length_drop]; omega
                            have hc1 : (1 : Int) ≤ ((x + 1 : Nat) : Int) := by omega
                            have hc2 : ((x + 1 : Nat) : Int) ≤ ((bt.length : Nat) : Int) := by omega
                            have hc3 : (0 : Int) ≤ ((x + 33 : Nat) : Int) := by omega
                            have hc4 : ((x + 33 : Nat) : Int) < ((bt.length : Nat) : Int) := by omega
                            have hc5 : (0 : Int) ≤ ((x + 34 : Nat) : Int) := by omega
                            have hc6 : ((x + 34 : Nat) : Int) ≤ ((bt.length : Nat) : Int) := by omega
                            have hc7 : (0 : Int) ≤ ((x + 1 : Nat) : Int) := by omega
                            have hc8 : ((x + 1 : Nat) : Int) ≤ ((x + 33 : Nat) : Int) := by omega
                            have hc9 : ((x + 33 : Nat) : Int) ≤ ((bt.length : Nat) : Int) := by omega
                            have hd1 : x + 1 - 1 = x := by omega
                            have hd2 : x + 33 - (x + 1) = 32 := by omega
                            obtain ⟨hw1, hw2, hw3, hw4, hw5, hs1⟩ : Go.RowKit.wrap64 (1 + ((x : Nat) : Int)) = ((x + 1 : Nat) : Int) ∧ Go.RowKit.wrap64 (((x + 1 : Nat) : Int) + 32) = ((x + 33 : Nat) : Int) ∧ Go.RowKit.wrap64 (34 + ((x : Nat) : Int)) = ((x + 34 : Nat) : Int) ∧ Go.RowKit.wrap64 (((x + 1 : Nat) : Int) + 33) = ((x + 34 : Nat) : Int) ∧ Go.RowKit.wrap64 (33 + ((x : Nat) : Int)) = ((x + 33 : Nat) : Int) ∧ Go.RowKit.wrap64 (((i : Nat) : Int) + 1) = ((i + 1 : Nat) : Int) := ⟨wnat (by omega) (by omega), wnat (by omega) (by omega), wnat (by omega) (by omega), wnat (by omega) (by omega), wnat (by omega) (by omega), wnat (by omega) (by omega)⟩
                            
                            refine seq_k fun N65 M65 hN65 hM65 => ?_
                            refine region_k fun K66 hK66 => ?_
                            simp only [go_sem, bytesR_rows, hz, hc0, hn, h81, hlt, hone, Int.toNat_zero, decide_false, decide_true, hbs, hil, hw1, hw2, hw3, hw4, hw5, hs1, hb0, hx, Int.toNat_natCast, Int.toNat_zero, decide_true, decide_false, hbl, hz, hlt, hsh, hmin, hmin2, hk32, hc1, hc2, hc3, hc4, hc5, hc6, hc7, hc8, hc9, hd1, hd2, List.length_drop, List.length_take, hgt, hpl, hcap]
                            all_goals repeat' (first | apply And.intro | intro _)
                            all_goals
                              refine hK66 _ ?_
                              refine hN65 _ ?_
                              refine seq_k fun N67 M67 hN67 hM67 => ?_
                              refine cond_k rfl (fun hc => ?_) (fun hc => ?_)
                              · try simp only [go_sem, bytesR_rows, hz, hc0, hn, h81, hlt, hone, Int.toNat_zero, decide_false, decide_true, hbs, hil, hw1, hw2, hw3, hw4, hw5, hs1, hb0, hx, Int.toNat_natCast, Int.toNat_zero, decide_true, decide_false, hbl, hz, hlt, hsh, hmin, hmin2, hk32, hc1, hc2, hc3, hc4, hc5, hc6, hc7, hc8, hc9, hd1, hd2, List.length_drop, List.length_take, hgt, hpl, hcap] at hc
                                all_goals
                                  refine skip_k ?_
                                  refine hN67 _ ?_
                                  refine seq_k fun N68 M68 hN68 hM68 => ?_
                                  refine block_k fun B69 bn69 bx69 br69 bi69 => ?_
                                  refine seq_k fun N70 M70 hN70 hM70 => ?_
                                  refine seq_k fun N71 M71 hN71 hM71 => ?_
                                  refine region_k fun K72 hK72 => ?_
                                  simp only [go_sem, bytesR_rows, hz, hc0, hn, h81, hlt, hone, Int.toNat_zero, decide_false, decide_true, hbs, hil, hw1, hw2, hw3, hw4, hw5, hs1, hb0, hx, Int.toNat_natCast, Int.toNat_zero, decide_true, decide_false, hbl, hz, hlt, hsh, hmin, hmin2, hk32, hc1, hc2, hc3, hc4, hc5, hc6, hc7, hc8, hc9, hd1, hd2, List.length_drop, List.length_take, hgt, hpl, hcap]
                                  all_goals repeat' (first | apply And.intro | intro _)
                                  all_goals
                                    refine hK72 _ ?_
                                    refine hN71 _ ?_
                                    refine cond_k rfl (fun hc => ?_) (fun hc => ?_)
                                    · exfalso; revert hc; simp [go_sem, bytesR_rows, hz, hc0, hn, h81, hlt, hone, Int.toNat_zero, decide_false, decide_true, hbs, hil, hw1, hw2, hw3, hw4, hw5, hs1, hb0, hx, Int.toNat_natCast, Int.toNat_zero, decide_true, decide_false, hbl, hz, hlt, hsh, hmin, hmin2, hk32, hc1, hc2, hc3, hc4, hc5, hc6, hc7, hc8, hc9, hd1, hd2, List.length_drop, List.length_take, hgt, hpl, hcap]
                                    · try simp only [go_sem, bytesR_rows, hz, hc0, hn, h81, hlt, hone, Int.toNat_zero, decide_false, decide_true, hbs, hil, hw1, hw2, hw3, hw4, hw5, hs1, hb0, hx, Int.toNat_natCast, Int.toNat_zero, decide_true, decide_false, hbl, hz, hlt, hsh, hmin, hmin2, hk32, hc1, hc2, hc3, hc4, hc5, hc6, hc7, hc8, hc9, hd1, hd2, List.length_drop, List.length_take, hgt, hpl, hcap] at hc
                                      all_goals
                                        refine skip_k ?_
                                        refine hN70 _ ?_
                                        refine seq_k fun N73 M73 hN73 hM73 => ?_
                                        refine region_k fun K74 hK74 => ?_
                                        simp only [go_sem, bytesR_rows, hz, hc0, hn, h81, hlt, hone, Int.toNat_zero, decide_false, decide_true, hbs, hil, hw1, hw2, hw3, hw4, hw5, hs1, hb0, hx, Int.toNat_natCast, Int.toNat_zero, decide_true, decide_false, hbl, hz, hlt, hsh, hmin, hmin2, hk32, hc1, hc2, hc3, hc4, hc5, hc6, hc7, hc8, hc9, hd1, hd2, List.length_drop, List.length_take, hgt, hpl, hcap]
                                        all_goals repeat' (first | apply And.intro | intro _)
                                        all_goals
                                          refine hK74 _ ?_
                                          refine hN73 _ ?_
                                          refine seq_k fun N75 M75 hN75 hM75 => ?_
                                          refine seq_k fun N76 M76 hN76 hM76 => ?_
                                          refine region_k fun K77 hK77 => ?_
                                          simp only [go_sem, bytesR_rows, hz, hc0, hn, h81, hlt, hone, Int.toNat_zero, decide_false, decide_true, hbs, hil, hw1, hw2, hw3, hw4, hw5, hs1, hb0, hx, Int.toNat_natCast, Int.toNat_zero, decide_true, decide_false, hbl, hz, hlt, hsh, hmin, hmin2, hk32, hc1, hc2, hc3, hc4, hc5, hc6, hc7, hc8, hc9, hd1, hd2, List.length_drop, List.length_take, hgt, hpl, hcap]
                                          all_goals repeat' (first | apply And.intro | intro _)
                                          all_goals
                                            refine hK77 _ ?_
                                            refine hN76 _ ?_
                                            refine cond_k rfl (fun hc => ?_) (fun hc => ?_)
                                            · exfalso; revert hc; simp [go_sem, bytesR_rows, hz, hc0, hn, h81, hlt, hone, Int.toNat_zero, decide_false, decide_true, hbs, hil, hw1, hw2, hw3, hw4, hw5, hs1, hb0, hx, Int.toNat_natCast, Int.toNat_zero, decide_true, decide_false, hbl, hz, hlt, hsh, hmin, hmin2, hk32, hc1, hc2, hc3, hc4, hc5, hc6, hc7, hc8, hc9, hd1, hd2, List.length_drop, List.length_take, hgt, hpl, hcap]
                                            · try simp only [go_sem, bytesR_rows, hz, hc0, hn, h81, hlt, hone, Int.toNat_zero, decide_false, decide_true, hbs, hil, hw1, hw2, hw3, hw4, hw5, hs1, hb0, hx, Int.toNat_natCast, Int.toNat_zero, decide_true, decide_false, hbl, hz, hlt, hsh, hmin, hmin2, hk32, hc1, hc2, hc3, hc4, hc5, hc6, hc7, hc8, hc9, hd1, hd2, List.length_drop, List.length_take, hgt, hpl, hcap] at hc
                                              all_goals
                                                refine skip_k ?_
                                                refine hN75 _ ?_
                                                refine seq_k fun N78 M78 hN78 hM78 => ?_
                                                refine seq_k fun N79 M79 hN79 hM79 => ?_
                                                refine region_k fun K80 hK80 => ?_
                                                simp only [go_sem, bytesR_rows, hz, hc0, hn, h81, hlt, hone, Int.toNat_zero, decide_false, decide_true, hbs, hil, hw1, hw2, hw3, hw4, hw5, hs1, hb0, hx, Int.toNat_natCast, Int.toNat_zero, decide_true, decide_false, hbl, hz, hlt, hsh, hmin, hmin2, hk32, hc1, hc2, hc3, hc4, hc5, hc6, hc7, hc8, hc9, hd1, hd2, List.length_drop, List.length_take, hgt, hpl, hcap]
                                                all_goals repeat' (first | apply And.intro | intro _)
                                                all_goals
                                                  refine hK80 _ ?_
                                                  refine hN79 _ ?_
                                                  refine cond_k rfl (fun hc => ?_) (fun hc => ?_)
                                                  · try simp only [go_sem, bytesR_rows, hz, hc0, hn, h81, hlt, hone, Int.toNat_zero, decide_false, decide_true, hbs, hil, hw1, hw2, hw3, hw4, hw5, hs1, hb0, hx, Int.toNat_natCast, Int.toNat_zero, decide_true, decide_false, hbl, hz, hlt, hsh, hmin, hmin2, hk32, hc1, hc2, hc3, hc4, hc5, hc6, hc7, hc8, hc9, hd1, hd2, List.length_drop, List.length_take, hgt, hpl, hcap] at hc
                                                    all_goals
                                                      refine seq_k fun N81 M81 hN81 hM81 => ?_
                                                      refine region_k fun K82 hK82 => ?_
                                                      simp only [go_sem, bytesR_rows, hz, hc0, hn, h81, hlt, hone, Int.toNat_zero, decide_false, decide_true, hbs, hil, hw1, hw2, hw3, hw4, hw5, hs1, hb0, hx, Int.toNat_natCast, Int.toNat_zero, decide_true, decide_false, hbl, hz, hlt, hsh, hmin, hmin2, hk32, hc1, hc2, hc3, hc4, hc5, hc6, hc7, hc8, hc9, hd1, hd2, List.length_drop, List.length_take, hgt, hpl, hcap]
                                                      all_goals repeat' (first | apply And.intro | intro _)
                                                      all_goals
                                                        refine hK82 _ ?_
                                                        refine hN81 _ ?_
                                                        refine ret_k ?_
                                                        refine hM78 _ _ ?_
                                                        refine br69 _ ?_
                                                        refine hM68 _ _ ?_
                                                        refine hM21 _ _ ?_
                                                        refine br20 _ ?_
                                                        refine hM17 _ _ ?_
                                                        simp only [go_sem, bytesR_rows, hz, hc0, hn, h81, hlt, hone, Int.toNat_zero, decide_false, decide_true, hbs, hil, hw1, hw2, hw3, hw4, hw5, hs1, hb0, hx, Int.toNat_natCast, Int.toNat_zero, decide_true, decide_false, hbl, hz, hlt, hsh, hmin, hmin2, hk32, hc1, hc2, hc3, hc4, hc5, hc6, hc7, hc8, hc9, hd1, hd2, List.length_drop, List.length_take, hgt, hpl, hcap]
                                                        all_goals (exact bad_end h0 h8 hpn0 hfe)
                                                  · exfalso; revert hc; simp [go_sem, bytesR_rows, hz, hc0, hn, h81, hlt, hone, Int.toNat_zero, decide_false, decide_true, hbs, hil, hw1, hw2, hw3, hw4, hw5, hs1, hb0, hx, Int.toNat_natCast, Int.toNat_zero, decide_true, decide_false, hbl, hz, hlt, hsh, hmin, hmin2, hk32, hc1, hc2, hc3, hc4, hc5, hc6, hc7, hc8, hc9, hd1, hd2, List.length_drop, List.length_take, hgt, hpl, hcap]
                              · exfalso; revert hc; simp [go_sem, bytesR_rows, hz, hc0, hn, h81, hlt, hone, Int.toNat_zero, decide_false, decide_true, hbs, hil, hw1, hw2, hw3, hw4, hw5, hs1, hb0, hx, Int.toNat_natCast, Int.toNat_zero, decide_true, decide_false, hbl, hz, hlt, hsh, hmin, hmin2, hk32, hc1, hc2, hc3, hc4, hc5, hc6, hc7, hc8, hc9, hd1, hd2, List.length_drop, List.length_take, hgt, hpl, hcap]
                          · have hnx := dinv_next hv hlt0 hle (fault_none hle hgt)
                            simp only [outV_nil, outM_nil, List.cons_append, List.nil_append]
                            obtain ⟨b0, hb0⟩ : ∃ b, bt.getD 0 0 = b := ⟨_, rfl⟩
                            obtain ⟨x, hx⟩ : ∃ x, b0.toNat = x := ⟨_, rfl⟩
                            have hpn : pn bt = x := by rw [pn, hb0, hx]
                            have hx255 : x ≤ 255 := hpn ▸ pn_le bt
                            try rw [hpn] at hle
                            try rw [hpn] at hgt
                            have hil : ((i : Nat) : Int) < ((n : Nat) : Int) := by omega
                            rw [hpn] at hnx
                            have hlt1 : 0 < bt.length := by omega
                            have hz : (bt = []) = False := by simp; intro e; subst e; simp at hlt1
                            have hlt : (0 : Int) < ((bt.length : Nat) : Int) := by omega
                            have hbl : bt.length ≤ 9223372036854775807 := by have := hv.2.2.2.2; simp only [List.length_drop] at this; omega
                            have hsh : ¬ ((bt.length : Nat) : Int) < ((x + 34 : Nat) : Int) := by omega
                            have hmin : min (bt.length - (x + 1)) 32 = 32 := by omega
                            have hmin2 : min 32 (bt.length - (x + 1)) = 32 := by omega
                            have hk32 : ((bt.drop (x + 1)).take 32).length = 32 := by rw [List.length_take, List.length_drop]; omega
                            have hc1 : (1 : Int) ≤ ((x + 1 : Nat) : Int) := by omega
                            have hc2 : ((x + 1 : Nat) : Int) ≤ ((bt.length : Nat) : Int) := by omega
                            have hc3 : (0 : Int) ≤ ((x + 33 : Nat) : Int) := by omega
                            have hc4 : ((x + 33 : Nat) : Int) < ((bt.length : Nat) : Int) := by omega
                            have hc5 : (0 : Int) ≤ ((x + 34 : Nat) : Int) := by omega
                            have hc6 : ((x + 34 : Nat) : Int) ≤ ((bt.length : Nat) : Int) := by omega
                            have hc7 : (0 : Int) ≤ ((x + 1 : Nat) : Int) := by omega
                            have hc8 : ((x + 1 : Nat) : Int) ≤ ((x + 33 : Nat) : Int) := by omega
                            have hc9 : ((x + 33 : Nat) : Int) ≤ ((bt.length : Nat) : Int) := by omega
                            have hd1 : x + 1 - 1 = x := by omega
                            have hd2 : x + 33 - (x + 1) = 32 := by omega
                            have hpo : pinOf bt = ⟨(bt.drop 1).take x, (bt.drop (x + 1)).take 32, decide (bt.getD (x + 33) 0 = 1)⟩ := by rw [pinOf, hpn]
                            obtain ⟨hw1, hw2, hw3, hw4, hw5, hs1⟩ : Go.RowKit.wrap64 (1 + ((x : Nat) : Int)) = ((x + 1 : Nat) : Int) ∧ Go.RowKit.wrap64 (((x + 1 : Nat) : Int) + 32) = ((x + 33 : Nat) : Int) ∧ Go.RowKit.wrap64 (34 + ((x : Nat) : Int)) = ((x + 34 : Nat) : Int) ∧ Go.RowKit.wrap64 (((x + 1 : Nat) : Int) + 33) = ((x + 34 : Nat) : Int) ∧ Go.RowKit.wrap64 (33 + ((x : Nat) : Int)) = ((x + 33 : Nat) : Int) ∧ Go.RowKit.wrap64 (((i : Nat) : Int) + 1) = ((i + 1 : Nat) : Int) := ⟨wnat (by omega) (by omega), wnat (by omega) (by omega), wnat (by omega) (by omega), wnat (by omega) (by omega), wnat (by omega) (by omega), wnat (by omega) (by omega)⟩
                            
                            refine seq_k fun N83 M83 hN83 hM83 => ?_
                            refine region_k fun K84 hK84 => ?_
                            simp only [go_sem, bytesR_rows, hz, hc0, hn, h81, hlt, hone, Int.toNat_zero, decide_false, decide_true, hbs, hil, hw1, hw2, hw3, hw4, hw5, hs1, hb0, hx, Int.toNat_natCast, Int.toNat_zero, decide_true, decide_false, hbl, hz, hlt, hsh, hmin, hmin2, hk32, hc1, hc2, hc3, hc4, hc5, hc6, hc7, hc8, hc9, hd1, hd2, List.length_drop, List.length_take, hgt]
                            all_goals repeat' (first | apply And.intro | intro _)
                            all_goals
                              refine hK84 _ ?_
                              refine hN83 _ ?_
                              refine seq_k fun N85 M85 hN85 hM85 => ?_
                              refine cond_k rfl (fun hc => ?_) (fun hc => ?_)
                              · try simp only [go_sem, bytesR_rows, hz, hc0, hn, h81, hlt, hone, Int.toNat_zero, decide_false, decide_true, hbs, hil, hw1, hw2, hw3, hw4, hw5, hs1, hb0, hx, Int.toNat_natCast, Int.toNat_zero, decide_true, decide_false, hbl, hz, hlt, hsh, hmin, hmin2, hk32, hc1, hc2, hc3, hc4, hc5, hc6, hc7, hc8, hc9, hd1, hd2, List.length_drop, List.length_take, hgt] at hc
                                all_goals
                                  refine skip_k ?_
                                  refine hN85 _ ?_
                                  refine seq_k fun N86 M86 hN86 hM86 => ?_
                                  refine block_k fun B87 bn87 bx87 br87 bi87 => ?_
                                  refine seq_k fun N88 M88 hN88 hM88 => ?_
                                  refine seq_k fun N89 M89 hN89 hM89 => ?_
                                  refine region_k fun K90 hK90 => ?_
                                  simp only [go_sem, bytesR_rows, hz, hc0, hn, h81, hlt, hone, Int.toNat_zero, decide_false, decide_true, hbs, hil, hw1, hw2, hw3, hw4, hw5, hs1, hb0, hx, Int.toNat_natCast, Int.toNat_zero, decide_true, decide_false, hbl, hz, hlt, hsh, hmin, hmin2, hk32, hc1, hc2, hc3, hc4, hc5, hc6, hc7, hc8, hc9, hd1, hd2, List.length_drop, List.length_take, hgt]
                                  all_goals repeat' (first | apply And.intro | intro _)
                                  all_goals
                                    refine hK90 _ ?_
                                    refine hN89 _ ?_
                                    refine cond_k rfl (fun hc => ?_) (fun hc => ?_)
                                    · exfalso; revert hc; simp [go_sem, bytesR_rows, hz, hc0, hn, h81, hlt, hone, Int.toNat_zero, decide_false, decide_true, hbs, hil, hw1, hw2, hw3, hw4, hw5, hs1, hb0, hx, Int.toNat_natCast, Int.toNat_zero, decide_true, decide_false, hbl, hz, hlt, hsh, hmin, hmin2, hk32, hc1, hc2, hc3, hc4, hc5, hc6, hc7, hc8, hc9, hd1, hd2, List.length_drop, List.length_take, hgt]
                                    · try simp only [go_sem, bytesR_rows, hz, hc0, hn, h81, hlt, hone, Int.toNat_zero, decide_false, decide_true, hbs, hil, hw1, hw2, hw3, hw4, hw5, hs1, hb0, hx, Int.toNat_natCast, Int.toNat_zero, decide_true, decide_false, hbl, hz, hlt, hsh, hmin, hmin2, hk32, hc1, hc2, hc3, hc4, hc5, hc6, hc7, hc8, hc9, hd1, hd2, List.length_drop, List.length_take, hgt] at hc
                                      all_goals
                                        refine skip_k ?_
                                        refine hN88 _ ?_
                                        refine seq_k fun N91 M91 hN91 hM91 => ?_
                                        refine region_k fun K92 hK92 => ?_
                                        simp only [go_sem, bytesR_rows, hz, hc0, hn, h81, hlt, hone, Int.toNat_zero, decide_false, decide_true, hbs, hil, hw1, hw2, hw3, hw4, hw5, hs1, hb0, hx, Int.toNat_natCast, Int.toNat_zero, decide_true, decide_false, hbl, hz, hlt, hsh, hmin, hmin2, hk32, hc1, hc2, hc3, hc4, hc5, hc6, hc7, hc8, hc9, hd1, hd2, List.length_drop, List.length_take, hgt]
                                        all_goals repeat' (first | apply And.intro | intro _)
                                        all_goals
                                          refine hK92 _ ?_
                                          refine hN91 _ ?_
                                          refine seq_k fun N93 M93 hN93 hM93 => ?_
                                          refine seq_k fun N94 M94 hN94 hM94 => ?_
                                          refine region_k fun K95 hK95 => ?_
                                          simp only [go_sem, bytesR_rows, hz, hc0, hn, h81, hlt, hone, Int.toNat_zero, decide_false, decide_true, hbs, hil, hw1, hw2, hw3, hw4, hw5, hs1, hb0, hx, Int.toNat_natCast, Int.toNat_zero, decide_true, decide_false, hbl, hz, hlt, hsh, hmin, hmin2, hk32, hc1, hc2, hc3, hc4, hc5, hc6, hc7, hc8, hc9, hd1, hd2, List.length_drop, List.length_take, hgt]
                                          all_goals repeat' (first | apply And.intro | intro _)
                                          all_goals
                                            refine hK95 _ ?_
                                            refine hN94 _ ?_
                                            refine cond_k rfl (fun hc => ?_) (fun hc => ?_)
                                            · exfalso; revert hc; simp [go_sem, bytesR_rows, hz, hc0, hn, h81, hlt, hone, Int.toNat_zero, decide_false, decide_true, hbs, hil, hw1, hw2, hw3, hw4, hw5, hs1, hb0, hx, Int.toNat_natCast, Int.toNat_zero, decide_true, decide_false, hbl, hz, hlt, hsh, hmin, hmin2, hk32, hc1, hc2, hc3, hc4, hc5, hc6, hc7, hc8, hc9, hd1, hd2, List.length_drop, List.length_take, hgt]
                                            · try simp only [go_sem, bytesR_rows, hz, hc0, hn, h81, hlt, hone, Int.toNat_zero, decide_false, decide_true, hbs, hil, hw1, hw2, hw3, hw4, hw5, hs1, hb0, hx, Int.toNat_natCast, Int.toNat_zero, decide_true, decide_false, hbl, hz, hlt, hsh, hmin, hmin2, hk32, hc1, hc2, hc3, hc4, hc5, hc6, hc7, hc8, hc9, hd1, hd2, List.length_drop, List.length_take, hgt] at hc
                                              all_goals
                                                refine skip_k ?_
                                                refine hN93 _ ?_
                                                refine seq_k fun N96 M96 hN96 hM96 => ?_
                                                refine seq_k fun N97 M97 hN97 hM97 => ?_
                                                refine region_k fun K98 hK98 => ?_
                                                simp only [go_sem, bytesR_rows, hz, hc0, hn, h81, hlt, hone, Int.toNat_zero, decide_false, decide_true, hbs, hil, hw1, hw2, hw3, hw4, hw5, hs1, hb0, hx, Int.toNat_natCast, Int.toNat_zero, decide_true, decide_false, hbl, hz, hlt, hsh, hmin, hmin2, hk32, hc1, hc2, hc3, hc4, hc5, hc6, hc7, hc8, hc9, hd1, hd2, List.length_drop, List.length_take, hgt]
                                                all_goals repeat' (first | apply And.intro | intro _)
                                                all_goals
                                                  refine hK98 _ ?_
                                                  refine hN97 _ ?_
                                                  refine cond_k rfl (fun hc => ?_) (fun hc => ?_)
                                                  · exfalso; revert hc; simp [go_sem, bytesR_rows, hz, hc0, hn, h81, hlt, hone, Int.toNat_zero, decide_false, decide_true, hbs, hil, hw1, hw2, hw3, hw4, hw5, hs1, hb0, hx, Int.toNat_natCast, Int.toNat_zero, decide_true, decide_false, hbl, hz, hlt, hsh, hmin, hmin2, hk32, hc1, hc2, hc3, hc4, hc5, hc6, hc7, hc8, hc9, hd1, hd2, List.length_drop, List.length_take, hgt]
                                                  · try simp only [go_sem, bytesR_rows, hz, hc0, hn, h81, hlt, hone, Int.toNat_zero, decide_false, decide_true, hbs, hil, hw1, hw2, hw3, hw4, hw5, hs1, hb0, hx, Int.toNat_natCast, Int.toNat_zero, decide_true, decide_false, hbl, hz, hlt, hsh, hmin, hmin2, hk32, hc1, hc2, hc3, hc4, hc5, hc6, hc7, hc8, hc9, hd1, hd2, List.length_drop, List.length_take, hgt] at hc
                                                    all_goals
                                                      refine skip_k ?_
                                                      refine hN96 _ ?_
                                                      refine seq_k fun N99 M99 hN99 hM99 => ?_
                                                      refine draw_k [38, 39, 40, 41, 42, 43, 44, 45, 46, 47, 48, 49, 50, 51, 52, 53, 54, 55, 56, 57, 6] [0, 0, 0, 4, 14, 0, 0, 64, 0, 256, 992, 2016, 0, 0, 8192, 28672, 61440, 131070, 262142, 524287, 1048575] [] mixed (by kernel_rfl) (by simp only [go_sem]) fun K100 hK100 => ?_
                                                      simp only [go_sem, bytesR_rows, hz, hc0, hn, h81, hlt, hone, Int.toNat_zero, decide_false, decide_true, hbs, hil, hw1, hw2, hw3, hw4, hw5, hs1, hb0, hx, Int.toNat_natCast, Int.toNat_zero, decide_true, decide_false, hbl, hz, hlt, hsh, hmin, hmin2, hk32, hc1, hc2, hc3, hc4, hc5, hc6, hc7, hc8, hc9, hd1, hd2, List.length_drop, List.length_take, hgt]
                                                      all_goals repeat' (first | apply And.intro | intro _)
                                                      all_goals refine call_draw (fun k => k) (.w (.agg (bytesC ((bt.drop (x + 1)).take 32)))) [] (fun _ _ => rfl) (by first | rfl | (simp only [go_sem, bytesR_rows, hz, hc0, hn, h81, hlt, hone, Int.toNat_zero, decide_false, decide_true, hbs, hil, hw1, hw2, hw3, hw4, hw5, hs1, hb0, hx, Int.toNat_natCast, Int.toNat_zero, decide_true, decide_false, hbl, hz, hlt, hsh, hmin, hmin2, hk32, hc1, hc2, hc3, hc4, hc5, hc6, hc7, hc8, hc9, hd1, hd2, List.length_drop, List.length_take, hgt]; rfl) | simp only [go_sem, bytesR_rows, hz, hc0, hn, h81, hlt, hone, Int.toNat_zero, decide_false, decide_true, hbs, hil, hw1, hw2, hw3, hw4, hw5, hs1, hb0, hx, Int.toNat_natCast, Int.toNat_zero, decide_true, decide_false, hbl, hz, hlt, hsh, hmin, hmin2, hk32, hc1, hc2, hc3, hc4, hc5, hc6, hc7, hc8, hc9, hd1, hd2, List.length_drop, List.length_take, hgt]) ((key_ _ hk32).plain fun _ _ h => h) ?_ ?_
                                                      all_goals try (refine And.intro ?_ (And.intro ?_ (And.intro ?_ ?_)) <;> first | rfl | simp only [go_sem])
                                                      all_goals simp only [go_sem, bytesR_rows, hz, hc0, hn, h81, hlt, hone, Int.toNat_zero, decide_false, decide_true, hbs, hil, hw1, hw2, hw3, hw4, hw5, hs1, hb0, hx, Int.toNat_natCast, Int.toNat_zero, decide_true, decide_false, hbl, hz, hlt, hsh, hmin, hmin2, hk32, hc1, hc2, hc3, hc4, hc5, hc6, hc7, hc8, hc9, hd1, hd2, List.length_drop, List.length_take, hgt]
                                                      all_goals repeat' (first | apply And.intro | intro _)
                                                      all_goals
                                                        refine hK100 _ _ ?_ ?_
                                                        · first | trivial | (simp only [go_sem]; done) | (simp only [go_sem]; simp; done) | (simp only [go_sem]; simp; simp only [go_sem])
                                                        refine hN99 _ ?_
                                                        refine region_k fun K101 hK101 => ?_
                                                        simp only [go_sem, bytesR_rows, hz, hc0, hn, h81, hlt, hone, Int.toNat_zero, decide_false, decide_true, hbs, hil, hw1, hw2, hw3, hw4, hw5, hs1, hb0, hx, Int.toNat_natCast, Int.toNat_zero, decide_true, decide_false, hbl, hz, hlt, hsh, hmin, hmin2, hk32, hc1, hc2, hc3, hc4, hc5, hc6, hc7, hc8, hc9, hd1, hd2, List.length_drop, List.length_take, hgt]
                                                        all_goals repeat' (first | apply And.intro | intro _)
                                                        all_goals
                                                          refine hK101 _ ?_
                                                          refine bn87 _ ?_
                                                          refine hN86 _ ?_
                                                          refine region_k fun K102 hK102 => ?_
                                                          simp only [go_sem, bytesR_rows, hz, hc0, hn, h81, hlt, hone, Int.toNat_zero, decide_false, decide_true, hbs, hil, hw1, hw2, hw3, hw4, hw5, hs1, hb0, hx, Int.toNat_natCast, Int.toNat_zero, decide_true, decide_false, hbl, hz, hlt, hsh, hmin, hmin2, hk32, hc1, hc2, hc3, hc4, hc5, hc6, hc7, hc8, hc9, hd1, hd2, List.length_drop, List.length_take, hgt]
                                                          all_goals repeat' (first | apply And.intro | intro _)
                                                          all_goals
                                                            refine hK102 _ ?_
                                                            refine hN21 ⟨(i + 1, [] ++ [pinOf bt], bt.drop (x + 34)), hnx⟩ _ ?_ ?_ ?_
                                                            · (clear hw1 hw2 hw3 hw4 hw5 hs1; dsimp only; omega)
                                                            · (simp only [go_sem, outV_snoc, outV_one, leX, List.cons_append, List.nil_append]; try simp)
                                                            · (simp only [outM_snoc, pinsC_snoc, hpo, go_sem, leX, List.cons_append, List.nil_append]; try simp [outM_one, pinsC_one, pls, leX, look])
                              · exfalso; revert hc; simp [go_sem, bytesR_rows, hz, hc0, hn, h81, hlt, hone, Int.toNat_zero, decide_false, decide_true, hbs, hil, hw1, hw2, hw3, hw4, hw5, hs1, hb0, hx, Int.toNat_natCast, Int.toNat_zero, decide_true, decide_false, hbl, hz, hlt, hsh, hmin, hmin2, hk32, hc1, hc2, hc3, hc4, hc5, hc6, hc7, hc8, hc9, hd1, hd2, List.length_drop, List.length_take, hgt]
                          · have hnx := dinv_next hv hlt0 hle (fault_none hle hgt)
                            simp only [outV_of _ hl0, outM_of _ hl0, List.cons_append, List.nil_append]
                            have hok := hv.2.2.1
                            have hpl := pinsC_length hok
                            have hli : l.length = i := hv.2.2.2.1
                            have hcap : (l.length + 1) * 56 ≤ 140737488355328 := by omega
                            obtain ⟨b0, hb0⟩ : ∃ b, bt.getD 0 0 = b := ⟨_, rfl⟩
                            obtain ⟨x, hx⟩ : ∃ x, b0.toNat = x := ⟨_, rfl⟩
                            have hpn : pn bt = x := by rw [pn, hb0, hx]
                            have hx255 : x ≤ 255 := hpn ▸ pn_le bt
                            try rw [hpn] at hle
                            try rw [hpn] at hgt
                            have hil : ((i : Nat) : Int) < ((n : Nat) : Int) := by omega
                            rw [hpn] at hnx
                            have hlt1 : 0 < bt.length := by omega
                            have hz : (bt = []) = False := by simp; intro e; subst e; simp at hlt1
                            have hlt : (0 : Int) < ((bt.length : Nat) : Int) := by omega
                            have hbl : bt.length ≤ 9223372036854775807 := by have := hv.2.2.2.2; simp only [List.length_drop] at this; omega
                            have hsh : ¬ ((bt.length : Nat) : Int) < ((x + 34 : Nat) : Int) := by omega
                            have hmin : min (bt.length - (x + 1)) 32 = 32 := by omega
                            have hmin2 : min 32 (bt.length - (x + 1)) = 32 := by omega
                            have hk32 : ((bt.drop (x + 1)).take 32).length = 32 := by rw [List.length_take, List.length_drop]; omega
                            have hc1 : (1 : Int) ≤ ((x + 1 : Nat) : Int) := by omega
                            have hc2 : ((x + 1 : Nat) : Int) ≤ ((bt.length : Nat) : Int) := by omega
                            have hc3 : (0 : Int) ≤ ((x + 33 : Nat) : Int) := by omega
                            have hc4 : ((x + 33 : Nat) : Int) < ((bt.length : Nat) : Int) := by omega
                            have hc5 : (0 : Int) ≤ ((x + 34 : Nat) : Int) := by omega
                            have hc6 : ((x + 34 : Nat) : Int) ≤ ((bt.length : Nat) : Int) := by omega
                            have hc7 : (0 : Int) ≤ ((x + 1 : Nat) : Int) := by omega
                            have hc8 : ((x + 1 : Nat) : Int) ≤ ((x + 33 : Nat) : Int) := by omega
                            have hc9 : ((x + 33 : Nat) : Int) ≤ ((bt.length : Nat) : Int) := by omega
                            have hd1 : x + 1 - 1 = x := by omega
                            have hd2 : x + 33 - (x + 1) = 32 := by omega
                            have hpo : pinOf bt = ⟨(bt.drop 1).take x, (bt.drop (x + 1)).take 32, decide (bt.getD (x + 33) 0 = 1)⟩ := by rw [pinOf, hpn]
                            obtain ⟨hw1, hw2, hw3, hw4, hw5, hs1⟩ : Go.RowKit.wrap64 (1 + ((x : Nat) : Int)) = ((x + 1 : Nat) : Int) ∧ Go.RowKit.wrap64 (((x + 1 : Nat) : Int) + 32) = ((x + 33 : Nat) : Int) ∧ Go.RowKit.wrap64 (34 + ((x : Nat) : Int)) = ((x + 34 : Nat) : Int) ∧ Go.RowKit.wrap64 (((x + 1 : Nat) : Int) + 33) = ((x + 34 : Nat) : Int) ∧ Go.RowKit.wrap64 (33 + ((x : Nat) : Int)) = ((x + 33 : Nat) : Int) ∧ Go.RowKit.wrap64 (((i : Nat) : Int) + 1) = ((i + 1 : Nat) : Int) := ⟨wnat (by omega) (by omega), wnat (by omega) (by omega), wnat (by omega) (by omega), wnat (by omega) (by omega), wnat (by omega) (by omega), wnat (by omega) (by omega)⟩
                            
                            refine seq_k fun N103 M103 hN103 hM103 => ?_
                            refine region_k fun K104 hK104 => ?_
                            simp only [go_sem, bytesR_rows, hz, hc0, hn, h81, hlt, hone, Int.toNat_zero, decide_false, decide_true, hbs, hil, hw1, hw2, hw3, hw4, hw5, hs1, hb0, hx, Int.toNat_natCast, Int.toNat_zero, decide_true, decide_false, hbl, hz, hlt, hsh, hmin, hmin2, hk32, hc1, hc2, hc3, hc4, hc5, hc6, hc7, hc8, hc9, hd1, hd2, List.length_drop, List.length_take, hgt, hpl, hcap]
                            all_goals repeat' (first | apply And.intro | intro _)
                            all_goals
                              refine hK104 _ ?_
                              refine hN103 _ ?_
                              refine seq_k fun N105 M105 hN105 hM105 => ?_
                              refine cond_k rfl (fun hc => ?_) (fun hc => ?_)
                              · try simp only [go_sem, bytesR_rows, hz, hc0, hn, h81, hlt, hone, Int.toNat_zero, decide_false, decide_true, hbs, hil, hw1, hw2, hw3, hw4, hw5, hs1, hb0, hx, Int.toNat_natCast, Int.toNat_zero, decide_true, decide_false, hbl, hz, hlt, hsh, hmin, hmin2, hk32, hc1, hc2, hc3, hc4, hc5, hc6, hc7, hc8, hc9, hd1, hd2, List.length_drop, List.length_take, hgt, hpl, hcap] at hc
                                all_goals
                                  refine skip_k ?_
                                  refine hN105 _ ?_
                                  refine seq_k fun N106 M106 hN106 hM106 => ?_
                                  refine block_k fun B107 bn107 bx107 br107 bi107 => ?_
                                  refine seq_k fun N108 M108 hN108 hM108 => ?_
                                  refine seq_k fun N109 M109 hN109 hM109 => ?_
                                  refine region_k fun K110 hK110 => ?_
                                  simp only [go_sem, bytesR_rows, hz, hc0, hn, h81, hlt, hone, Int.toNat_zero, decide_false, decide_true, hbs, hil, hw1, hw2, hw3, hw4, hw5, hs1, hb0, hx, Int.toNat_natCast, Int.toNat_zero, decide_true, decide_false, hbl, hz, hlt, hsh, hmin, hmin2, hk32, hc1, hc2, hc3, hc4, hc5, hc6, hc7, hc8, hc9, hd1, hd2, List.length_drop, List.length_take, hgt, hpl, hcap]
                                  all_goals repeat' (first | apply And.intro | intro _)
                                  all_goals
                                    refine hK110 _ ?_
                                    refine hN109 _ ?_
                                    refine cond_k rfl (fun hc => ?_) (fun hc => ?_)
                                    · exfalso; revert hc; simp [go_sem, bytesR_rows, hz, hc0, hn, h81, hlt, hone, Int.toNat_zero, decide_false, decide_true, hbs, hil, hw1, hw2, hw3, hw4, hw5, hs1, hb0, hx, Int.toNat_natCast, Int.toNat_zero, decide_true, decide_false, hbl, hz, hlt, hsh, hmin, hmin2, hk32, hc1, hc2, hc3, hc4, hc5, hc6, hc7, hc8, hc9, hd1, hd2, List.length_drop, List.length_take, hgt, hpl, hcap]
                                    · try simp only [go_sem, bytesR_rows, hz, hc0, hn, h81, hlt, hone, Int.toNat_zero, decide_false, decide_true, hbs, hil, hw1, hw2, hw3, hw4, hw5, hs1, hb0, hx, Int.toNat_natCast, Int.toNat_zero, decide_true, decide_false, hbl, hz, hlt, hsh, hmin, hmin2, hk32, hc1, hc2, hc3, hc4, hc5, hc6, hc7, hc8, hc9, hd1, hd2, List.length_drop, List.length_take, hgt, hpl, hcap] at hc
                                      all_goals
                                        refine skip_k ?_
                                        refine hN108 _ ?_
                                        refine seq_k fun N111 M111 hN111 hM111 => ?_
                                        refine region_k fun K112 hK112 => ?_
                                        simp only [go_sem, bytesR_rows, hz, hc0, hn, h81, hlt, hone, Int.toNat_zero, decide_false, decide_true, hbs, hil, hw1, hw2, hw3, hw4, hw5, hs1, hb0, hx, Int.toNat_natCast, Int.toNat_zero, decide_true, decide_false, hbl, hz, hlt, hsh, hmin, hmin2, hk32, hc1, hc2, hc3, hc4, hc5, hc6, hc7, hc8, hc9, hd1, hd2, List.length_drop, List.length_take, hgt, hpl, hcap]
                                        all_goals repeat' (first | apply And.intro | intro _)
                                        all_goals
                                          refine hK112 _ ?_
                                          refine hN111 _ ?_
                                          refine seq_k fun N113 M113 hN113 hM113 => ?_
                                          refine seq_k fun N114 M114 hN114 hM114 => ?_
                                          refine region_k fun K115 hK115 => ?_
                                          simp only [go_sem, bytesR_rows, hz, hc0, hn, h81, hlt, hone, Int.toNat_zero, decide_false, decide_true, hbs, hil, hw1, hw2, hw3, hw4, hw5, hs1, hb0, hx, Int.toNat_natCast, Int.toNat_zero, decide_true, decide_false, hbl, hz, hlt, hsh, hmin, hmin2, hk32, hc1, hc2, hc3, hc4, hc5, hc6, hc7, hc8, hc9, hd1, hd2, List.length_drop, List.length_take, hgt, hpl, hcap]
                                          all_goals repeat' (first | apply And.intro | intro _)
                                          all_goals
                                            refine hK115 _ ?_
                                            refine hN114 _ ?_
                                            refine cond_k rfl (fun hc => ?_) (fun hc => ?_)
                                            · exfalso; revert hc; simp [go_sem, bytesR_rows, hz, hc0, hn, h81, hlt, hone, Int.toNat_zero, decide_false, decide_true, hbs, hil, hw1, hw2, hw3, hw4, hw5, hs1, hb0, hx, Int.toNat_natCast, Int.toNat_zero, decide_true, decide_false, hbl, hz, hlt, hsh, hmin, hmin2, hk32, hc1, hc2, hc3, hc4, hc5, hc6, hc7, hc8, hc9, hd1, hd2, List.length_drop, List.length_take, hgt, hpl, hcap]
                                            · try simp only [go_sem, bytesR_rows, hz, hc0, hn, h81, hlt, hone, Int.toNat_zero, decide_false, decide_true, hbs, hil, hw1, hw2, hw3, hw4, hw5, hs1, hb0, hx, Int.toNat_natCast, Int.toNat_zero, decide_true, decide_false, hbl, hz, hlt, hsh, hmin, hmin2, hk32, hc1, hc2, hc3, hc4, hc5, hc6, hc7, hc8, hc9, hd1, hd2, List.length_drop, List.length_take, hgt, hpl, hcap] at hc
                                              all_goals
                                                refine skip_k ?_
                                                refine hN113 _ ?_
                                                refine seq_k fun N116 M116 hN116 hM116 => ?_
                                                refine seq_k fun N117 M117 hN117 hM117 => ?_
                                                refine region_k fun K118 hK118 => ?_
                                                simp only [go_sem, bytesR_rows, hz, hc0, hn, h81, hlt, hone, Int.toNat_zero, decide_false, decide_true, hbs, hil, hw1, hw2, hw3, hw4, hw5, hs1, hb0, hx, Int.toNat_natCast, Int.toNat_zero, decide_true, decide_false, hbl, hz, hlt, hsh, hmin, hmin2, hk32, hc1, hc2, hc3, hc4, hc5, hc6, hc7, hc8, hc9, hd1, hd2, List.length_drop, List.length_take, hgt, hpl, hcap]
                                                all_goals repeat' (first | apply And.intro | intro _)
                                                all_goals
                                                  refine hK118 _ ?_
                                                  refine hN117 _ ?_
                                                  refine cond_k rfl (fun hc => ?_) (fun hc => ?_)
                                                  · exfalso; revert hc; simp [go_sem, bytesR_rows, hz, hc0, hn, h81, hlt, hone, Int.toNat_zero, decide_false, decide_true, hbs, hil, hw1, hw2, hw3, hw4, hw5, hs1, hb0, hx, Int.toNat_natCast, Int.toNat_zero, decide_true, decide_false, hbl, hz, hlt, hsh, hmin, hmin2, hk32, hc1, hc2, hc3, hc4, hc5, hc6, hc7, hc8, hc9, hd1, hd2, List.length_drop, List.length_take, hgt, hpl, hcap]
                                                  · try simp only [go_sem, bytesR_rows, hz, hc0, hn, h81, hlt, hone, Int.toNat_zero, decide_false, decide_true, hbs, hil, hw1, hw2, hw3, hw4, hw5, hs1, hb0, hx, Int.toNat_natCast, Int.toNat_zero, decide_true, decide_false, hbl, hz, hlt, hsh, hmin, hmin2, hk32, hc1, hc2, hc3, hc4, hc5, hc6, hc7, hc8, hc9, hd1, hd2, List.length_drop, List.length_take, hgt, hpl, hcap] at hc
                                                    all_goals
                                                      refine skip_k ?_
                                                      refine hN116 _ ?_
                                                      refine seq_k fun N119 M119 hN119 hM119 => ?_
                                                      refine draw_k [38, 39, 40, 41, 42, 43, 44, 45, 46, 47, 48, 49, 50, 51, 52, 53, 54, 55, 56, 6] [0, 0, 0, 4, 14, 0, 0, 64, 0, 256, 992, 2016, 0, 0, 8192, 28672, 61440, 131070, 262142, 524287, 1048575] [] mixed (by kernel_rfl) (by simp only [go_sem]) fun K120 hK120 => ?_
                                                      simp only [go_sem, bytesR_rows, hz, hc0, hn, h81, hlt, hone, Int.toNat_zero, decide_false, decide_true, hbs, hil, hw1, hw2, hw3, hw4, hw5, hs1, hb0, hx, Int.toNat_natCast, Int.toNat_zero, decide_true, decide_false, hbl, hz, hlt, hsh, hmin, hmin2, hk32, hc1, hc2, hc3, hc4, hc5, hc6, hc7, hc8, hc9, hd1, hd2, List.length_drop, List.length_take, hgt, hpl, hcap]
                                                      all_goals repeat' (first | apply And.intro | intro _)
                                                      all_goals refine call_draw (fun k => k) (.w (.agg (bytesC ((bt.drop (x + 1)).take 32)))) [] (fun _ _ => rfl) (by first | rfl | (simp only [go_sem, bytesR_rows, hz, hc0, hn, h81, hlt, hone, Int.toNat_zero, decide_false, decide_true, hbs, hil, hw1, hw2, hw3, hw4, hw5, hs1, hb0, hx, Int.toNat_natCast, Int.toNat_zero, decide_true, decide_false, hbl, hz, hlt, hsh, hmin, hmin2, hk32, hc1, hc2, hc3, hc4, hc5, hc6, hc7, hc8, hc9, hd1, hd2, List.length_drop, List.length_take, hgt, hpl, hcap]; rfl) | simp only [go_sem, bytesR_rows, hz, hc0, hn, h81, hlt, hone, Int.toNat_zero, decide_false, decide_true, hbs, hil, hw1, hw2, hw3, hw4, hw5, hs1, hb0, hx, Int.toNat_natCast, Int.toNat_zero, decide_true, decide_false, hbl, hz, hlt, hsh, hmin, hmin2, hk32, hc1, hc2, hc3, hc4, hc5, hc6, hc7, hc8, hc9, hd1, hd2, List.length_drop, List.length_take, hgt, hpl, hcap]) ((key_ _ hk32).plain fun _ _ h => h) ?_ ?_
                                                      all_goals try (refine And.intro ?_ (And.intro ?_ (And.intro ?_ ?_)) <;> first | rfl | simp only [go_sem])
                                                      all_goals simp only [go_sem, bytesR_rows, hz, hc0, hn, h81, hlt, hone, Int.toNat_zero, decide_false, decide_true, hbs, hil, hw1, hw2, hw3, hw4, hw5, hs1, hb0, hx, Int.toNat_natCast, Int.toNat_zero, decide_true, decide_false, hbl, hz, hlt, hsh, hmin, hmin2, hk32, hc1, hc2, hc3, hc4, hc5, hc6, hc7, hc8, hc9, hd1, hd2, List.length_drop, List.length_take, hgt, hpl, hcap]
                                                      all_goals repeat' (first | apply And.intro | intro _)
                                                      all_goals
                                                        refine hK120 _ _ ?_ ?_
                                                        · first | trivial | (simp only [go_sem]; done) | (simp only [go_sem]; simp; done) | (simp only [go_sem]; simp; simp only [go_sem])
                                                        refine hN119 _ ?_
                                                        refine region_k fun K121 hK121 => ?_
                                                        simp only [go_sem, bytesR_rows, hz, hc0, hn, h81, hlt, hone, Int.toNat_zero, decide_false, decide_true, hbs, hil, hw1, hw2, hw3, hw4, hw5, hs1, hb0, hx, Int.toNat_natCast, Int.toNat_zero, decide_true, decide_false, hbl, hz, hlt, hsh, hmin, hmin2, hk32, hc1, hc2, hc3, hc4, hc5, hc6, hc7, hc8, hc9, hd1, hd2, List.length_drop, List.length_take, hgt, hpl, hcap]
                                                        all_goals repeat' (first | apply And.intro | intro _)
                                                        all_goals
                                                          refine hK121 _ ?_
                                                          refine bn107 _ ?_
                                                          refine hN106 _ ?_
                                                          refine region_k fun K122 hK122 => ?_
                                                          simp only [go_sem, bytesR_rows, hz, hc0, hn, h81, hlt, hone, Int.toNat_zero, decide_false, decide_true, hbs, hil, hw1, hw2, hw3, hw4, hw5, hs1, hb0, hx, Int.toNat_natCast, Int.toNat_zero, decide_true, decide_false, hbl, hz, hlt, hsh, hmin, hmin2, hk32, hc1, hc2, hc3, hc4, hc5, hc6, hc7, hc8, hc9, hd1, hd2, List.length_drop, List.length_take, hgt, hpl, hcap]
                                                          all_goals repeat' (first | apply And.intro | intro _)
                                                          all_goals
                                                            refine hK122 _ ?_
                                                            refine hN21 ⟨(i + 1, l ++ [pinOf bt], bt.drop (x + 34)), hnx⟩ _ ?_ ?_ ?_
                                                            · (clear hw1 hw2 hw3 hw4 hw5 hs1; dsimp only; omega)
                                                            · (simp only [go_sem, outV_snoc, outV_one, leX, List.cons_append, List.nil_append]; try simp)
                                                            · (simp only [outM_snoc, pinsC_snoc, hpo, go_sem, leX, List.cons_append, List.nil_append]; try simp [outM_one, pinsC_one, pls, leX, look])
                              · exfalso; revert hc; simp [go_sem, bytesR_rows, hz, hc0, hn, h81, hlt, hone, Int.toNat_zero, decide_false, decide_true, hbs, hil, hw1, hw2, hw3, hw4, hw5, hs1, hb0, hx, Int.toNat_natCast, Int.toNat_zero, decide_true, decide_false, hbl, hz, hlt, hsh, hmin, hmin2, hk32, hc1, hc2, hc3, hc4, hc5, hc6, hc7, hc8, hc9, hd1, hd2, List.length_drop, List.length_take, hgt, hpl, hcap]
                          · have hil : ¬ ((i : Nat) : Int) < ((n : Nat) : Int) := by omega
                            have hend := dinv_end (he ▸ hv)
                            have hz : (bt = []) = False := by simp; intro e; subst e; simp at hle
                            refine seq_k fun N123 M123 hN123 hM123 => ?_
                            refine region_k fun K124 hK124 => ?_
                            simp only [go_sem, bytesR_rows, hz, hc0, hn, h81, hlt, hone, Int.toNat_zero, decide_false, decide_true, hbs, hil, hz, decide_true, decide_false]
                            all_goals repeat' (first | apply And.intro | intro _)
                            all_goals
                              refine hK124 _ ?_
                              refine hN123 _ ?_
                              refine seq_k fun N125 M125 hN125 hM125 => ?_
                              refine cond_k rfl (fun hc => ?_) (fun hc => ?_)
                              · exfalso; revert hc; simp [go_sem, bytesR_rows, hz, hc0, hn, h81, hlt, hone, Int.toNat_zero, decide_false, decide_true, hbs, hil, hz, decide_true, decide_false]
                              · try simp only [go_sem, bytesR_rows, hz, hc0, hn, h81, hlt, hone, Int.toNat_zero, decide_false, decide_true, hbs, hil, hz, decide_true, decide_false] at hc
                                all_goals
                                  refine exit_k ?_
                                  refine hM125 _ _ ?_
                                  refine hM21 _ _ ?_
                                  refine bx20 _ ?_
                                  refine hN17 _ ?_
                                  refine seq_k fun N126 M126 hN126 hM126 => ?_
                                  refine seq_k fun N127 M127 hN127 hM127 => ?_
                                  refine region_k fun K128 hK128 => ?_
                                  simp only [go_sem, bytesR_rows, hz, hc0, hn, h81, hlt, hone, Int.toNat_zero, decide_false, decide_true, hbs, hil, hz, decide_true, decide_false]
                                  all_goals repeat' (first | apply And.intro | intro _)
                                  all_goals
                                    refine hK128 _ ?_
                                    refine hN127 _ ?_
                                    refine cond_k rfl (fun hc => ?_) (fun hc => ?_)
                                    · try simp only [go_sem, bytesR_rows, hz, hc0, hn, h81, hlt, hone, Int.toNat_zero, decide_false, decide_true, hbs, hil, hz, decide_true, decide_false] at hc
                                      all_goals
                                        refine seq_k fun N129 M129 hN129 hM129 => ?_
                                        refine region_k fun K130 hK130 => ?_
                                        simp only [go_sem, bytesR_rows, hz, hc0, hn, h81, hlt, hone, Int.toNat_zero, decide_false, decide_true, hbs, hil, hz, decide_true, decide_false]
                                        all_goals repeat' (first | apply And.intro | intro _)
                                        all_goals
                                          refine hK130 _ ?_
                                          refine hN129 _ ?_
                                          refine ret_k ?_
                                          refine hM126 _ _ ?_
                                          simp only [go_sem, bytesR_rows, hz, hc0, hn, h81, hlt, hone, Int.toNat_zero, decide_false, decide_true, hbs, hil, hz, decide_true, decide_false]
                                          all_goals (exact tail_end h0 h8 hpn0 hend hle)
                                    · exfalso; revert hc; simp [go_sem, bytesR_rows, hz, hc0, hn, h81, hlt, hone, Int.toNat_zero, decide_false, decide_true, hbs, hil, hz, decide_true, decide_false]
                          · have hil : ¬ ((i : Nat) : Int) < ((n : Nat) : Int) := by omega
                            have hend := dinv_end (he ▸ hv)
                            have hz : (bt = []) = True := by simp [List.eq_nil_of_length_eq_zero hle]
                            simp only [outV_nil, outM_nil, List.cons_append, List.nil_append]
                            have hf0 : pinsFault [] = 0 := rfl
                            refine seq_k fun N131 M131 hN131 hM131 => ?_
                            refine region_k fun K132 hK132 => ?_
                            simp only [go_sem, bytesR_rows, hz, hc0, hn, h81, hlt, hone, Int.toNat_zero, decide_false, decide_true, hbs, hil, hz, hf0, decide_true, decide_false]
                            all_goals repeat' (first | apply And.intro | intro _)
                            all_goals
                              refine hK132 _ ?_
                              refine hN131 _ ?_
                              refine seq_k fun N133 M133 hN133 hM133 => ?_
                              refine cond_k rfl (fun hc => ?_) (fun hc => ?_)
                              · exfalso; revert hc; simp [go_sem, bytesR_rows, hz, hc0, hn, h81, hlt, hone, Int.toNat_zero, decide_false, decide_true, hbs, hil, hz, hf0, decide_true, decide_false]
                              · try simp only [go_sem, bytesR_rows, hz, hc0, hn, h81, hlt, hone, Int.toNat_zero, decide_false, decide_true, hbs, hil, hz, hf0, decide_true, decide_false] at hc
                                all_goals
                                  refine exit_k ?_
                                  refine hM133 _ _ ?_
                                  refine hM21 _ _ ?_
                                  refine bx20 _ ?_
                                  refine hN17 _ ?_
                                  refine seq_k fun N134 M134 hN134 hM134 => ?_
                                  refine seq_k fun N135 M135 hN135 hM135 => ?_
                                  refine region_k fun K136 hK136 => ?_
                                  simp only [go_sem, bytesR_rows, hz, hc0, hn, h81, hlt, hone, Int.toNat_zero, decide_false, decide_true, hbs, hil, hz, hf0, decide_true, decide_false]
                                  all_goals repeat' (first | apply And.intro | intro _)
                                  all_goals
                                    refine hK136 _ ?_
                                    refine hN135 _ ?_
                                    refine cond_k rfl (fun hc => ?_) (fun hc => ?_)
                                    · exfalso; revert hc; simp [go_sem, bytesR_rows, hz, hc0, hn, h81, hlt, hone, Int.toNat_zero, decide_false, decide_true, hbs, hil, hz, hf0, decide_true, decide_false]
                                    · try simp only [go_sem, bytesR_rows, hz, hc0, hn, h81, hlt, hone, Int.toNat_zero, decide_false, decide_true, hbs, hil, hz, hf0, decide_true, decide_false] at hc
                                      all_goals
                                        refine skip_k ?_
                                        refine hN134 _ ?_
                                        refine seq_k fun N137 M137 hN137 hM137 => ?_
                                        refine seq_k fun N138 M138 hN138 hM138 => ?_
                                        refine region_k fun K139 hK139 => ?_
                                        simp only [go_sem, bytesR_rows, hz, hc0, hn, h81, hlt, hone, Int.toNat_zero, decide_false, decide_true, hbs, hil, hz, hf0, decide_true, decide_false]
                                        all_goals repeat' (first | apply And.intro | intro _)
                                        all_goals refine call_view (fun k => k) (fun _ _ => rfl) (by first | rfl | (simp only [go_sem, bytesR_rows, hz, hc0, hn, h81, hlt, hone, Int.toNat_zero, decide_false, decide_true, hbs, hil, hz, hf0, decide_true, decide_false]; rfl) | simp only [go_sem, bytesR_rows, hz, hc0, hn, h81, hlt, hone, Int.toNat_zero, decide_false, decide_true, hbs, hil, hz, hf0, decide_true, decide_false]) (by first | exact ((pins_fault l hok false).plain fun _ _ h => h) | exact (((pins_fault [] (fun p hp => by cases hp) true).nil1 (sz := 34) (sz' := 1)).plain fun _ _ h => h)) ?_
                                        all_goals (rintro v m ⟨hR, hm⟩; subst hR; subst hm)
                                        all_goals refine And.intro (by first | rfl | simp only [go_sem]) (And.intro (by first | rfl | simp only [go_sem]) ?_)
                                        all_goals simp only [go_sem, bytesR_rows, hz, hc0, hn, h81, hlt, hone, Int.toNat_zero, decide_false, decide_true, hbs, hil, hz, hf0, decide_true, decide_false]
                                        all_goals repeat' (first | apply And.intro | intro _)
                                        all_goals
                                          refine hK139 _ ?_
                                          refine hN138 _ ?_
                                          refine seq_k fun N140 M140 hN140 hM140 => ?_
                                          refine region_k fun K141 hK141 => ?_
                                          simp only [go_sem, bytesR_rows, hz, hc0, hn, h81, hlt, hone, Int.toNat_zero, decide_false, decide_true, hbs, hil, hz, hf0, decide_true, decide_false]
                                          all_goals repeat' (first | apply And.intro | intro _)
                                          all_goals
                                            refine hK141 _ ?_
                                            refine hN140 _ ?_
                                            refine cond_k rfl (fun hc => ?_) (fun hc => ?_)
                                            · exfalso; revert hc; simp [go_sem, bytesR_rows, hz, hc0, hn, h81, hlt, hone, Int.toNat_zero, decide_false, decide_true, hbs, hil, hz, hf0, decide_true, decide_false]
                                            · try simp only [go_sem, bytesR_rows, hz, hc0, hn, h81, hlt, hone, Int.toNat_zero, decide_false, decide_true, hbs, hil, hz, hf0, decide_true, decide_false] at hc
                                              all_goals
                                                refine skip_k ?_
                                                refine hN137 _ ?_
                                                refine seq_k fun N142 M142 hN142 hM142 => ?_
                                                refine region_k fun K143 hK143 => ?_
                                                simp only [go_sem, bytesR_rows, hz, hc0, hn, h81, hlt, hone, Int.toNat_zero, decide_false, decide_true, hbs, hil, hz, hf0, decide_true, decide_false]
                                                all_goals repeat' (first | apply And.intro | intro _)
                                                all_goals
                                                  refine hK143 _ ?_
                                                  refine hN142 _ ?_
                                                  refine ret_k ?_
                                                  simp only [go_sem, bytesR_rows, hz, hc0, hn, h81, hlt, hone, Int.toNat_zero, decide_false, decide_true, hbs, hil, hz, hf0, decide_true, decide_false]
                                                  all_goals (exact good_nil h0 h8 hpn0 hend hle)
                          · have hil : ¬ ((i : Nat) : Int) < ((n : Nat) : Int) := by omega
                            have hend := dinv_end (he ▸ hv)
                            have hz : (bt = []) = True := by simp [List.eq_nil_of_length_eq_zero hle]
                            simp only [outV_of _ hl0, outM_of _ hl0, List.cons_append, List.nil_append]
                            have hok := hv.2.2.1
                            have hpl := pinsC_length hok
                            have hli : l.length = i := hv.2.2.2.1
                            have hcap : (l.length + 1) * 56 ≤ 140737488355328 := by omega
                            have hch := pins_chunks hok
                            have hml := rowsL (l := l)
                            
                            refine seq_k fun N144 M144 hN144 hM144 => ?_
                            refine region_k fun K145 hK145 => ?_
                            simp only [go_sem, bytesR_rows, hz, hc0, hn, h81, hlt, hone, Int.toNat_zero, decide_false, decide_true, hbs, hil, hz, hf, hpl, hch, decide_true, decide_false]
                            all_goals repeat' (first | apply And.intro | intro _)
                            all_goals
                              refine hK145 _ ?_
                              refine hN144 _ ?_
                              refine seq_k fun N146 M146 hN146 hM146 => ?_
                              refine cond_k rfl (fun hc => ?_) (fun hc => ?_)
                              · exfalso; revert hc; simp [go_sem, bytesR_rows, hz, hc0, hn, h81, hlt, hone, Int.toNat_zero, decide_false, decide_true, hbs, hil, hz, hf, hpl, hch, decide_true, decide_false]
                              · try simp only [go_sem, bytesR_rows, hz, hc0, hn, h81, hlt, hone, Int.toNat_zero, decide_false, decide_true, hbs, hil, hz, hf, hpl, hch, decide_true, decide_false] at hc
                                all_goals
                                  refine exit_k ?_
                                  refine hM146 _ _ ?_
                                  refine hM21 _ _ ?_
                                  refine bx20 _ ?_
                                  refine hN17 _ ?_
                                  refine seq_k fun N147 M147 hN147 hM147 => ?_
                                  refine seq_k fun N148 M148 hN148 hM148 => ?_
                                  refine region_k fun K149 hK149 => ?_
                                  simp only [go_sem, bytesR_rows, hz, hc0, hn, h81, hlt, hone, Int.toNat_zero, decide_false, decide_true, hbs, hil, hz, hf, hpl, hch, decide_true, decide_false]
                                  all_goals repeat' (first | apply And.intro | intro _)
                                  all_goals
                                    refine hK149 _ ?_
                                    refine hN148 _ ?_
                                    refine cond_k rfl (fun hc => ?_) (fun hc => ?_)
                                    · exfalso; revert hc; simp [go_sem, bytesR_rows, hz, hc0, hn, h81, hlt, hone, Int.toNat_zero, decide_false, decide_true, hbs, hil, hz, hf, hpl, hch, decide_true, decide_false]
                                    · try simp only [go_sem, bytesR_rows, hz, hc0, hn, h81, hlt, hone, Int.toNat_zero, decide_false, decide_true, hbs, hil, hz, hf, hpl, hch, decide_true, decide_false] at hc
                                      all_goals
                                        refine skip_k ?_
                                        refine hN147 _ ?_
                                        refine seq_k fun N150 M150 hN150 hM150 => ?_
                                        refine seq_k fun N151 M151 hN151 hM151 => ?_
                                        refine region_k fun K152 hK152 => ?_
                                        simp only [go_sem, bytesR_rows, hz, hc0, hn, h81, hlt, hone, Int.toNat_zero, decide_false, decide_true, hbs, hil, hz, hf, hpl, hch, decide_true, decide_false]
                                        all_goals repeat' (first | apply And.intro | intro _)
                                        all_goals refine call_view (fun k => k) (fun _ _ => rfl) (by first | rfl | (simp only [go_sem, bytesR_rows, hz, hc0, hn, h81, hlt, hone, Int.toNat_zero, decide_false, decide_true, hbs, hil, hz, hf, hpl, hch, decide_true, decide_false]; rfl) | simp only [go_sem, bytesR_rows, hz, hc0, hn, h81, hlt, hone, Int.toNat_zero, decide_false, decide_true, hbs, hil, hz, hf, hpl, hch, decide_true, decide_false]) (by first | exact ((pins_fault l hok false).plain fun _ _ h => h) | exact (((pins_fault [] (fun p hp => by cases hp) true).nil1 (sz := 34) (sz' := 1)).plain fun _ _ h => h)) ?_
                                        all_goals (rintro v m ⟨hR, hm⟩; subst hR; subst hm)
                                        all_goals refine And.intro (by first | rfl | simp only [go_sem]) (And.intro (by first | rfl | simp only [go_sem]) ?_)
                                        all_goals simp only [go_sem, bytesR_rows, hz, hc0, hn, h81, hlt, hone, Int.toNat_zero, decide_false, decide_true, hbs, hil, hz, hf, hpl, hch, decide_true, decide_false]
                                        all_goals repeat' (first | apply And.intro | intro _)
                                        all_goals
                                          refine hK152 _ ?_
                                          refine hN151 _ ?_
                                          refine seq_k fun N153 M153 hN153 hM153 => ?_
                                          refine region_k fun K154 hK154 => ?_
                                          simp only [go_sem, bytesR_rows, hz, hc0, hn, h81, hlt, hone, Int.toNat_zero, decide_false, decide_true, hbs, hil, hz, hf, hpl, hch, decide_true, decide_false]
                                          all_goals repeat' (first | apply And.intro | intro _)
                                          all_goals
                                            refine hK154 _ ?_
                                            refine hN153 _ ?_
                                            refine cond_k rfl (fun hc => ?_) (fun hc => ?_)
                                            · exfalso; revert hc; simp [go_sem, bytesR_rows, hz, hc0, hn, h81, hlt, hone, Int.toNat_zero, decide_false, decide_true, hbs, hil, hz, hf, hpl, hch, decide_true, decide_false]
                                            · try simp only [go_sem, bytesR_rows, hz, hc0, hn, h81, hlt, hone, Int.toNat_zero, decide_false, decide_true, hbs, hil, hz, hf, hpl, hch, decide_true, decide_false] at hc
                                              all_goals
                                                refine skip_k ?_
                                                refine hN150 _ ?_
                                                refine seq_k fun N155 M155 hN155 hM155 => ?_
                                                refine region_k fun K156 hK156 => ?_
                                                simp only [go_sem, bytesR_rows, hz, hc0, hn, h81, hlt, hone, Int.toNat_zero, decide_false, decide_true, hbs, hil, hz, hf, hpl, hch, decide_true, decide_false]
                                                all_goals repeat' (first | apply And.intro | intro _)
                                                all_goals
                                                  refine hK156 _ ?_
                                                  refine hN155 _ ?_
                                                  refine ret_k ?_
                                                  simp only [go_sem, bytesR_rows, hz, hc0, hn, h81, hlt, hone, Int.toNat_zero, decide_false, decide_true, hbs, hil, hz, hf, hpl, hch, decide_true, decide_false]
                                                  all_goals (exact good_end h0 h8 hpn0 hend hle hf hok rfl (by simp [look]))
                          · have hil : ¬ ((i : Nat) : Int) < ((n : Nat) : Int) := by omega
                            have hend := dinv_end (he ▸ hv)
                            have hz : (bt = []) = True := by simp [List.eq_nil_of_length_eq_zero hle]
                            simp only [outV_of _ hl0, outM_of _ hl0, List.cons_append, List.nil_append]
                            have hok := hv.2.2.1
                            have hpl := pinsC_length hok
                            have hli : l.length = i := hv.2.2.2.1
                            have hcap : (l.length + 1) * 56 ≤ 140737488355328 := by omega
                            have hch := pins_chunks hok
                            have hml := rowsL (l := l)
                            
                            refine seq_k fun N157 M157 hN157 hM157 => ?_
                            refine region_k fun K158 hK158 => ?_
                            simp only [go_sem, bytesR_rows, hz, hc0, hn, h81, hlt, hone, Int.toNat_zero, decide_false, decide_true, hbs, hil, hz, hf, hpl, hch, decide_true, decide_false]
                            all_goals repeat' (first | apply And.intro | intro _)
                            all_goals
                              refine hK158 _ ?_
                              refine hN157 _ ?_
                              refine seq_k fun N159 M159 hN159 hM159 => ?_
                              refine cond_k rfl (fun hc => ?_) (fun hc => ?_)
                              · exfalso; revert hc; simp [go_sem, bytesR_rows, hz, hc0, hn, h81, hlt, hone, Int.toNat_zero, decide_false, decide_true, hbs, hil, hz, hf, hpl, hch, decide_true, decide_false]
                              · try simp only [go_sem, bytesR_rows, hz, hc0, hn, h81, hlt, hone, Int.toNat_zero, decide_false, decide_true, hbs, hil, hz, hf, hpl, hch, decide_true, decide_false] at hc
                                all_goals
                                  refine exit_k ?_
                                  refine hM159 _ _ ?_
                                  refine hM21 _ _ ?_
                                  refine bx20 _ ?_
                                  refine hN17 _ ?_
                                  refine seq_k fun N160 M160 hN160 hM160 => ?_
                                  refine seq_k fun N161 M161 hN161 hM161 => ?_
                                  refine region_k fun K162 hK162 => ?_
                                  simp only [go_sem, bytesR_rows, hz, hc0, hn, h81, hlt, hone, Int.toNat_zero, decide_false, decide_true, hbs, hil, hz, hf, hpl, hch, decide_true, decide_false]
                                  all_goals repeat' (first | apply And.intro | intro _)
                                  all_goals
                                    refine hK162 _ ?_
                                    refine hN161 _ ?_
                                    refine cond_k rfl (fun hc => ?_) (fun hc => ?_)
                                    · exfalso; revert hc; simp [go_sem, bytesR_rows, hz, hc0, hn, h81, hlt, hone, Int.toNat_zero, decide_false, decide_true, hbs, hil, hz, hf, hpl, hch, decide_true, decide_false]
                                    · try simp only [go_sem, bytesR_rows, hz, hc0, hn, h81, hlt, hone, Int.toNat_zero, decide_false, decide_true, hbs, hil, hz, hf, hpl, hch, decide_true, decide_false] at hc
                                      all_goals
                                        refine skip_k ?_
                                        refine hN160 _ ?_
                                        refine seq_k fun N163 M163 hN163 hM163 => ?_
                                        refine seq_k fun N164 M164 hN164 hM164 => ?_
                                        refine region_k fun K165 hK165 => ?_
                                        simp only [go_sem, bytesR_rows, hz, hc0, hn, h81, hlt, hone, Int.toNat_zero, decide_false, decide_true, hbs, hil, hz, hf, hpl, hch, decide_true, decide_false]
                                        all_goals repeat' (first | apply And.intro | intro _)
                                        all_goals refine call_view (fun k => k) (fun _ _ => rfl) (by first | rfl | (simp only [go_sem, bytesR_rows, hz, hc0, hn, h81, hlt, hone, Int.toNat_zero, decide_false, decide_true, hbs, hil, hz, hf, hpl, hch, decide_true, decide_false]; rfl) | simp only [go_sem, bytesR_rows, hz, hc0, hn, h81, hlt, hone, Int.toNat_zero, decide_false, decide_true, hbs, hil, hz, hf, hpl, hch, decide_true, decide_false]) (by first | exact ((pins_fault l hok false).plain fun _ _ h => h) | exact (((pins_fault [] (fun p hp => by cases hp) true).nil1 (sz := 34) (sz' := 1)).plain fun _ _ h => h)) ?_
                                        all_goals (rintro v m ⟨hR, hm⟩; subst hR; subst hm)
                                        all_goals refine And.intro (by first | rfl | simp only [go_sem]) (And.intro (by first | rfl | simp only [go_sem]) ?_)
                                        all_goals simp only [go_sem, bytesR_rows, hz, hc0, hn, h81, hlt, hone, Int.toNat_zero, decide_false, decide_true, hbs, hil, hz, hf, hpl, hch, decide_true, decide_false]
                                        all_goals repeat' (first | apply And.intro | intro _)
                                        all_goals
                                          refine hK165 _ ?_
                                          refine hN164 _ ?_
                                          refine seq_k fun N166 M166 hN166 hM166 => ?_
                                          refine region_k fun K167 hK167 => ?_
                                          simp only [go_sem, bytesR_rows, hz, hc0, hn, h81, hlt, hone, Int.toNat_zero, decide_false, decide_true, hbs, hil, hz, hf, hpl, hch, decide_true, decide_false]
                                          all_goals repeat' (first | apply And.intro | intro _)
                                          all_goals
                                            refine hK167 _ ?_
                                            refine hN166 _ ?_
                                            refine cond_k rfl (fun hc => ?_) (fun hc => ?_)
                                            · try simp only [go_sem, bytesR_rows, hz, hc0, hn, h81, hlt, hone, Int.toNat_zero, decide_false, decide_true, hbs, hil, hz, hf, hpl, hch, decide_true, decide_false] at hc
                                              all_goals
                                                refine seq_k fun N168 M168 hN168 hM168 => ?_
                                                refine region_k fun K169 hK169 => ?_
                                                simp only [go_sem, bytesR_rows, hz, hc0, hn, h81, hlt, hone, Int.toNat_zero, decide_false, decide_true, hbs, hil, hz, hf, hpl, hch, decide_true, decide_false]
                                                all_goals repeat' (first | apply And.intro | intro _)
                                                all_goals
                                                  refine hK169 _ ?_
                                                  refine hN168 _ ?_
                                                  refine ret_k ?_
                                                  refine hM163 _ _ ?_
                                                  simp only [go_sem, bytesR_rows, hz, hc0, hn, h81, hlt, hone, Int.toNat_zero, decide_false, decide_true, hbs, hil, hz, hf, hpl, hch, decide_true, decide_false]
                                                  all_goals (exact fault_end h0 h8 hpn0 hend hle hf)
                                            · exfalso; revert hc; simp [go_sem, bytesR_rows, hz, hc0, hn, h81, hlt, hone, Int.toNat_zero, decide_false, decide_true, hbs, hil, hz, hf, hpl, hch, decide_true, decide_false]
theorem pins_of (bs : List UInt8) (hbs : bs.length ≤ 9223372036854775807) (ex : Bool) : Ct Try.prog 28 [.w (.one (.pl (.R ex 1 (byteRows bs))))] (pinsV (decP bs).2 (decP bs).1) := by
  by_cases h0 : 0 < bs.length
  · by_cases h8 : 8 < pn bs
    · have e : decP bs = (1, []) := by unfold decP; rw [if_neg (by omega), if_pos h8]
      rw [e]; exact (pins_of_big bs hbs ex h0 h8).told
    · exact (pins_of_loop bs hbs ex h0 h8).told
  · have : bs = [] := List.eq_nil_of_length_eq_zero (by omega)
    subst this
    exact (pins_of_empty ex).told
theorem list_same {α : Type} {l l2 : List α} (hn : l.length = l2.length) (h : ∀ j, j < l.length → l[j]? = l2[j]?) : l = l2 := by
  refine List.ext_getElem? fun j => ?_
  by_cases hj : j < l.length
  · exact h j hj
  · rw [List.getElem?_eq_none (by omega), List.getElem?_eq_none (by omega)]
theorem kinds_pin {p : PinD} (h : p.key.length = 32) : (pls (pinC p)).map kindL = ((.s :: (List.replicate 32 (.int .u8) ++ [.b]) : List Kd)).map some := by
  rw [pls_pinC]
  simp only [List.map_cons, List.map_append, kinds_bytes h, List.map_replicate, List.map_nil]
  rfl
theorem eqC_pin {p q : PinD} (h : p.key.length = 32) (h2 : q.key.length = 32) : eqC (pls (pinC p)) (pls (pinC q)) = decide (p = q) := by
  rw [pls_pinC, pls_pinC, eqC_cons, eqC_seg (by omega), eqC_cons, eqC_nil, eqL_str, eqL_b, Bool.and_true]
  obtain ⟨a, b, c⟩ := p
  obtain ⟨a2, b2, c2⟩ := q
  rw [Bool.eq_iff_iff]
  simp
theorem pin_eq {p q : PinD} (h : p.key.length = 32) (h2 : q.key.length = 32) : aggEq Try.prog 47 (.pl (.str p.name) :: (bytesC p.key ++ [.pl (.b p.gone)])) (.pl (.str q.name) :: (bytesC q.key ++ [.pl (.b q.gone)])) = some (decide (p = q)) := by
  have := ae47 (kinds_pin h) (kinds_pin h2)
  rw [eqC_pin h h2, pls_pinC, pls_pinC] at this
  exact this
set_option maxHeartbeats 400000 in
theorem same_pins_len (l l2 : List PinD) (hl : ∀ p ∈ l, p.ok) (hl2 : ∀ p ∈ l2, p.ok) (ex ex2 : Bool) (hn : l.length ≠ l2.length) :
    Ct Try.prog 29 [.w (.one (.pl (.R ex 34 (pinRows l)))), .w (.one (.pl (.R ex2 34 (pinRows l2))))] (fun v m => v = .w (.one (.pl (.b false)))) := by
  have hne : (((l.length : Nat) : Int) = ((l2.length : Nat) : Int)) = False := by simp; omega
  refine Ct.k Try.func29 rfl Try.ntmps29 (congrArg Array.toList Try.results29) (by simp) fun w0 ro => ?_
  refine seq_k fun N1 M1 hN1 hM1 => ?_
  refine region_k fun K2 hK2 => ?_
  simp only [go_sem, hne, decide_true, decide_false, Bool.not_false, Bool.not_true]
  all_goals repeat' (first | apply And.intro | intro _)
  all_goals
    refine hK2 _ ?_
    refine hN1 _ ?_
    refine seq_k fun N3 M3 hN3 hM3 => ?_
    refine seq_k fun N4 M4 hN4 hM4 => ?_
    refine region_k fun K5 hK5 => ?_
    simp only [go_sem, hne, decide_true, decide_false, Bool.not_false, Bool.not_true]
    all_goals repeat' (first | apply And.intro | intro _)
    all_goals
      refine hK5 _ ?_
      refine hN4 _ ?_
      refine cond_k rfl (fun hc => ?_) (fun hc => ?_)
      · try simp only [go_sem, hne, decide_true, decide_false, Bool.not_false, Bool.not_true] at hc
        all_goals
          refine seq_k fun N6 M6 hN6 hM6 => ?_
          refine region_k fun K7 hK7 => ?_
          simp only [go_sem, hne, decide_true, decide_false, Bool.not_false, Bool.not_true]
          all_goals repeat' (first | apply And.intro | intro _)
          all_goals
            refine hK7 _ ?_
            refine hN6 _ ?_
            refine ret_k ?_
            refine hM3 _ _ ?_
            simp only [go_sem, hne, decide_true, decide_false, Bool.not_false, Bool.not_true]
            all_goals rfl
      · exfalso; revert hc; simp [go_sem, hne, decide_true, decide_false, Bool.not_false, Bool.not_true]
set_option maxHeartbeats 800000 in
theorem same_pins_loop (l l2 : List PinD) (hl : ∀ p ∈ l, p.ok) (hl2 : ∀ p ∈ l2, p.ok) (ex ex2 : Bool) (hn : l.length = l2.length) (hll0 : l.length ≤ 9223372036854775807) :
    Ct Try.prog 29 [.w (.one (.pl (.R ex 34 (pinRows l)))), .w (.one (.pl (.R ex2 34 (pinRows l2))))] (fun v m => v = .w (.one (.pl (.b (decide (l = l2)))))) := by
  have hne : (((l.length : Nat) : Int) = ((l2.length : Nat) : Int)) = True := by simp; omega
  have hll : l.length ≤ 9223372036854775807 := hll0
  refine Ct.k Try.func29 rfl Try.ntmps29 (congrArg Array.toList Try.results29) (by simp) fun w0 ro => ?_
  refine seq_k fun N1 M1 hN1 hM1 => ?_
  refine region_k fun K2 hK2 => ?_
  simp only [go_sem, hne, decide_true, decide_false, Bool.not_false, Bool.not_true]
  all_goals repeat' (first | apply And.intro | intro _)
  all_goals
    refine hK2 _ ?_
    refine hN1 _ ?_
    refine seq_k fun N3 M3 hN3 hM3 => ?_
    refine seq_k fun N4 M4 hN4 hM4 => ?_
    refine region_k fun K5 hK5 => ?_
    simp only [go_sem, hne, decide_true, decide_false, Bool.not_false, Bool.not_true]
    all_goals repeat' (first | apply And.intro | intro _)
    all_goals
      refine hK5 _ ?_
      refine hN4 _ ?_
      refine cond_k rfl (fun hc => ?_) (fun hc => ?_)
      · exfalso; revert hc; simp [go_sem, hne, decide_true, decide_false, Bool.not_false, Bool.not_true]
      · try simp only [go_sem, hne, decide_true, decide_false, Bool.not_false, Bool.not_true] at hc
        all_goals
          refine skip_k ?_
          refine hN3 _ ?_
          refine seq_k fun N6 M6 hN6 hM6 => ?_
          refine seq_k fun N7 M7 hN7 hM7 => ?_
          refine region_k fun K8 hK8 => ?_
          simp only [go_sem, hne, decide_true, decide_false, Bool.not_false, Bool.not_true]
          all_goals repeat' (first | apply And.intro | intro _)
          all_goals
            refine hK8 _ ?_
            refine hN7 _ ?_
            refine block_k fun B9 bn9 bx9 br9 bi9 => ?_
            refine ht_dropE [6, 7, 8, 9, 10, 11] ?_
            simp only [dropE_mk, fgt_nil, fgt_cons, List.contains_cons, List.contains_nil, Nat.reduceBEq, beq_self_eq_true, Bool.or_false, Bool.or_true, Bool.true_or, Bool.false_or, Bool.false_eq_true, reduceIte]
            refine loop_k (fun i => [(13, .w (.one (.pl (.i (i.1 : Nat)))))]) (fun _ => []) (fun i => l.length - i.1) (⟨0, Nat.zero_le _, fun j hj => absurd hj (Nat.not_lt_zero j)⟩ : {i : Nat // i ≤ l.length ∧ ∀ k, k < i → l[k]? = l2[k]?}) ?_ ?_ ?_
            · (simp only [go_sem, leX, List.cons_append, List.nil_append]; try simp)
            · (simp only [go_sem, leX, List.cons_append, List.nil_append]; try simp)
            intro ⟨i, hi, hg⟩ N10 M10 hN10 hM10
            simp only [List.cons_append, List.nil_append]
            have hd : (i < l.length ∧ l[i]? ≠ l2[i]?) ∨ (i < l.length ∧ l[i]? = l2[i]?) ∨ l.length ≤ i := by
              rcases Nat.lt_or_ge i l.length with h1 | h1
              · by_cases h2 : l[i]? = l2[i]?
                · exact .inr (.inl ⟨h1, h2⟩)
                · exact .inl ⟨h1, h2⟩
              · exact .inr (.inr h1)
            rcases hd with hgo | hgo | hge
            · obtain ⟨hlt, hne⟩ := hgo
              obtain ⟨p, hp⟩ := get_lt hlt
              obtain ⟨q, hq⟩ := get_lt (l := l2) (i := i) (by omega)
              have hg0 := pinRows_get hp
              have hg1 := pinRows_get hq
              have hpk := (hl p (List.mem_of_getElem? hp)).1
              have hqk := (hl2 q (List.mem_of_getElem? hq)).1
              have hpl := pinC_length hpk
              have hql := pinC_length hqk
              have hc1 : ((i : Nat) : Int) < ((l.length : Nat) : Int) := by omega
              have hc2 : ((i : Nat) : Int) < ((l2.length : Nat) : Int) := by omega
              have hi1 : (0 : Int) ≤ ((i : Nat) : Int) := by omega
              have he := pin_eq hpk hqk
              have hs1 : Go.RowKit.wrap64 (((i : Nat) : Int) + 1) = ((i + 1 : Nat) : Int) := wnat (by omega) (by omega)
              have hx : decide (p = q) = false := by simp; intro e; rw [hp, hq, e] at hne; exact hne rfl
              have hff : decide (l = l2) = false := by simp; intro e; subst e; rw [hp] at hq; cases hq; simp at hx
              refine seq_k fun N11 M11 hN11 hM11 => ?_
              refine region_k fun K12 hK12 => ?_
              simp only [go_sem, hne, decide_true, decide_false, Bool.not_false, Bool.not_true, List.length_map, hg0, hg1, hpk, hqk, hpl, hql, Int.toNat_natCast, hc1, hc2, hi1, hs1, he, hx, Bool.not_false, Bool.not_true]
              all_goals repeat' (first | apply And.intro | intro _)
              all_goals
                refine hK12 _ ?_
                refine hN11 _ ?_
                refine seq_k fun N13 M13 hN13 hM13 => ?_
                refine cond_k rfl (fun hc => ?_) (fun hc => ?_)
                · try simp only [go_sem, hne, decide_true, decide_false, Bool.not_false, Bool.not_true, List.length_map, hg0, hg1, hpk, hqk, hpl, hql, Int.toNat_natCast, hc1, hc2, hi1, hs1, he, hx, Bool.not_false, Bool.not_true] at hc
                  all_goals
                    refine skip_k ?_
                    refine hN13 _ ?_
                    refine seq_k fun N14 M14 hN14 hM14 => ?_
                    refine block_k fun B15 bn15 bx15 br15 bi15 => ?_
                    refine seq_k fun N16 M16 hN16 hM16 => ?_
                    refine region_k fun K17 hK17 => ?_
                    simp only [go_sem, hne, decide_true, decide_false, Bool.not_false, Bool.not_true, List.length_map, hg0, hg1, hpk, hqk, hpl, hql, Int.toNat_natCast, hc1, hc2, hi1, hs1, he, hx, Bool.not_false, Bool.not_true]
                    all_goals repeat' (first | apply And.intro | intro _)
                    all_goals
                      refine hK17 _ ?_
                      refine hN16 _ ?_
                      refine seq_k fun N18 M18 hN18 hM18 => ?_
                      refine draw_k [16, 17, 18, 19, 20, 21, 22, 23, 24] [0, 0, 3, 7, 0, 0, 48, 112, 255] [] mixed (by kernel_rfl) (by simp only [go_sem]) fun K19 hK19 => ?_
                      simp only [go_sem, hne, decide_true, decide_false, Bool.not_false, Bool.not_true, List.length_map, hg0, hg1, hpk, hqk, hpl, hql, Int.toNat_natCast, hc1, hc2, hi1, hs1, he, hx, Bool.not_false, Bool.not_true]
                      all_goals repeat' (first | apply And.intro | intro _)
                      all_goals
                        refine hK19 _ _ ?_ ?_
                        · first | trivial | (simp only [go_sem]; done) | (simp only [go_sem]; simp; done) | (simp only [go_sem]; simp; simp only [go_sem])
                        refine hN18 _ ?_
                        refine cond_k rfl (fun hc => ?_) (fun hc => ?_)
                        · try simp only [go_sem, hne, decide_true, decide_false, Bool.not_false, Bool.not_true, List.length_map, hg0, hg1, hpk, hqk, hpl, hql, Int.toNat_natCast, hc1, hc2, hi1, hs1, he, hx, Bool.not_false, Bool.not_true] at hc
                          all_goals
                            refine seq_k fun N20 M20 hN20 hM20 => ?_
                            refine region_k fun K21 hK21 => ?_
                            simp only [go_sem, hne, decide_true, decide_false, Bool.not_false, Bool.not_true, List.length_map, hg0, hg1, hpk, hqk, hpl, hql, Int.toNat_natCast, hc1, hc2, hi1, hs1, he, hx, Bool.not_false, Bool.not_true]
                            all_goals repeat' (first | apply And.intro | intro _)
                            all_goals
                              refine hK21 _ ?_
                              refine hN20 _ ?_
                              refine ret_k ?_
                              refine br15 _ ?_
                              refine hM14 _ _ ?_
                              refine hM10 _ _ ?_
                              refine br9 _ ?_
                              refine hM6 _ _ ?_
                              simp only [go_sem, hne, decide_true, decide_false, Bool.not_false, Bool.not_true, List.length_map, hg0, hg1, hpk, hqk, hpl, hql, Int.toNat_natCast, hc1, hc2, hi1, hs1, he, hx, Bool.not_false, Bool.not_true]
                              all_goals (rw [hff])
                        · exfalso; revert hc; simp [go_sem, hne, decide_true, decide_false, Bool.not_false, Bool.not_true, List.length_map, hg0, hg1, hpk, hqk, hpl, hql, Int.toNat_natCast, hc1, hc2, hi1, hs1, he, hx, Bool.not_false, Bool.not_true]
                · exfalso; revert hc; simp [go_sem, hne, decide_true, decide_false, Bool.not_false, Bool.not_true, List.length_map, hg0, hg1, hpk, hqk, hpl, hql, Int.toNat_natCast, hc1, hc2, hi1, hs1, he, hx, Bool.not_false, Bool.not_true]
            · obtain ⟨hlt, hne⟩ := hgo
              obtain ⟨p, hp⟩ := get_lt hlt
              obtain ⟨q, hq⟩ := get_lt (l := l2) (i := i) (by omega)
              have hg0 := pinRows_get hp
              have hg1 := pinRows_get hq
              have hpk := (hl p (List.mem_of_getElem? hp)).1
              have hqk := (hl2 q (List.mem_of_getElem? hq)).1
              have hpl := pinC_length hpk
              have hql := pinC_length hqk
              have hc1 : ((i : Nat) : Int) < ((l.length : Nat) : Int) := by omega
              have hc2 : ((i : Nat) : Int) < ((l2.length : Nat) : Int) := by omega
              have hi1 : (0 : Int) ≤ ((i : Nat) : Int) := by omega
              have he := pin_eq hpk hqk
              have hs1 : Go.RowKit.wrap64 (((i : Nat) : Int) + 1) = ((i + 1 : Nat) : Int) := wnat (by omega) (by omega)
              have hx : decide (p = q) = true := by rw [hp, hq] at hne; simpa using hne
              refine seq_k fun N22 M22 hN22 hM22 => ?_
              refine region_k fun K23 hK23 => ?_
              simp only [go_sem, hne, decide_true, decide_false, Bool.not_false, Bool.not_true, List.length_map, hg0, hg1, hpk, hqk, hpl, hql, Int.toNat_natCast, hc1, hc2, hi1, hs1, he, hx, Bool.not_false, Bool.not_true]
              all_goals repeat' (first | apply And.intro | intro _)
              all_goals
                refine hK23 _ ?_
                refine hN22 _ ?_
                refine seq_k fun N24 M24 hN24 hM24 => ?_
                refine cond_k rfl (fun hc => ?_) (fun hc => ?_)
                · try simp only [go_sem, hne, decide_true, decide_false, Bool.not_false, Bool.not_true, List.length_map, hg0, hg1, hpk, hqk, hpl, hql, Int.toNat_natCast, hc1, hc2, hi1, hs1, he, hx, Bool.not_false, Bool.not_true] at hc
                  all_goals
                    refine skip_k ?_
                    refine hN24 _ ?_
                    refine seq_k fun N25 M25 hN25 hM25 => ?_
                    refine block_k fun B26 bn26 bx26 br26 bi26 => ?_
                    refine seq_k fun N27 M27 hN27 hM27 => ?_
                    refine region_k fun K28 hK28 => ?_
                    simp only [go_sem, hne, decide_true, decide_false, Bool.not_false, Bool.not_true, List.length_map, hg0, hg1, hpk, hqk, hpl, hql, Int.toNat_natCast, hc1, hc2, hi1, hs1, he, hx, Bool.not_false, Bool.not_true]
                    all_goals repeat' (first | apply And.intro | intro _)
                    all_goals
                      refine hK28 _ ?_
                      refine hN27 _ ?_
                      refine seq_k fun N29 M29 hN29 hM29 => ?_
                      refine draw_k [16, 17, 18, 19, 20, 21, 22, 23, 24] [0, 0, 3, 7, 0, 0, 48, 112, 255] [] mixed (by kernel_rfl) (by simp only [go_sem]) fun K30 hK30 => ?_
                      simp only [go_sem, hne, decide_true, decide_false, Bool.not_false, Bool.not_true, List.length_map, hg0, hg1, hpk, hqk, hpl, hql, Int.toNat_natCast, hc1, hc2, hi1, hs1, he, hx, Bool.not_false, Bool.not_true]
                      all_goals repeat' (first | apply And.intro | intro _)
                      all_goals
                        refine hK30 _ _ ?_ ?_
                        · first | trivial | (simp only [go_sem]; done) | (simp only [go_sem]; simp; done) | (simp only [go_sem]; simp; simp only [go_sem])
                        refine hN29 _ ?_
                        refine cond_k rfl (fun hc => ?_) (fun hc => ?_)
                        · exfalso; revert hc; simp [go_sem, hne, decide_true, decide_false, Bool.not_false, Bool.not_true, List.length_map, hg0, hg1, hpk, hqk, hpl, hql, Int.toNat_natCast, hc1, hc2, hi1, hs1, he, hx, Bool.not_false, Bool.not_true]
                        · try simp only [go_sem, hne, decide_true, decide_false, Bool.not_false, Bool.not_true, List.length_map, hg0, hg1, hpk, hqk, hpl, hql, Int.toNat_natCast, hc1, hc2, hi1, hs1, he, hx, Bool.not_false, Bool.not_true] at hc
                          all_goals
                            refine skip_k ?_
                            refine bn26 _ ?_
                            refine hN25 _ ?_
                            refine region_k fun K31 hK31 => ?_
                            simp only [go_sem, hne, decide_true, decide_false, Bool.not_false, Bool.not_true, List.length_map, hg0, hg1, hpk, hqk, hpl, hql, Int.toNat_natCast, hc1, hc2, hi1, hs1, he, hx, Bool.not_false, Bool.not_true]
                            all_goals repeat' (first | apply And.intro | intro _)
                            all_goals
                              refine hK31 _ ?_
                              refine hN10 ⟨i + 1, hlt, fun j hj => by rcases Nat.lt_succ_iff_lt_or_eq.mp hj with h | rfl; exact hg j h; exact hne⟩ _ ?_ ?_ ?_
                              · (show l.length - (i + 1) < l.length - i; omega)
                              · (simp only [go_sem, leX, List.cons_append, List.nil_append]; try simp)
                              · (simp only [go_sem, leX, List.cons_append, List.nil_append]; try simp)
                · exfalso; revert hc; simp [go_sem, hne, decide_true, decide_false, Bool.not_false, Bool.not_true, List.length_map, hg0, hg1, hpk, hqk, hpl, hql, Int.toNat_natCast, hc1, hc2, hi1, hs1, he, hx, Bool.not_false, Bool.not_true]
            · have hc9 : ¬ ((i : Nat) : Int) < ((l.length : Nat) : Int) := by omega
              have hff : decide (l = l2) = true := by simp; exact list_same hn (fun j hj => hg j (by omega))
              refine seq_k fun N32 M32 hN32 hM32 => ?_
              refine region_k fun K33 hK33 => ?_
              simp only [go_sem, hne, decide_true, decide_false, Bool.not_false, Bool.not_true, List.length_map, hc9]
              all_goals repeat' (first | apply And.intro | intro _)
              all_goals
                refine hK33 _ ?_
                refine hN32 _ ?_
                refine seq_k fun N34 M34 hN34 hM34 => ?_
                refine cond_k rfl (fun hc => ?_) (fun hc => ?_)
                · exfalso; revert hc; simp [go_sem, hne, decide_true, decide_false, Bool.not_false, Bool.not_true, List.length_map, hc9]
                · try simp only [go_sem, hne, decide_true, decide_false, Bool.not_false, Bool.not_true, List.length_map, hc9] at hc
                  all_goals
                    refine exit_k ?_
                    refine hM34 _ _ ?_
                    refine hM10 _ _ ?_
                    refine bx9 _ ?_
                    refine hN6 _ ?_
                    refine seq_k fun N35 M35 hN35 hM35 => ?_
                    refine region_k fun K36 hK36 => ?_
                    simp only [go_sem, hne, decide_true, decide_false, Bool.not_false, Bool.not_true, List.length_map, hc9]
                    all_goals repeat' (first | apply And.intro | intro _)
                    all_goals
                      refine hK36 _ ?_
                      refine hN35 _ ?_
                      refine ret_k ?_
                      simp only [go_sem, hne, decide_true, decide_false, Bool.not_false, Bool.not_true, List.length_map, hc9]
                      all_goals (rw [hff])
theorem same_pins (l l2 : List PinD) (hl : ∀ p ∈ l, p.ok) (hl2 : ∀ p ∈ l2, p.ok) (ex ex2 : Bool) (hll : l.length ≤ 9223372036854775807) : Ct Try.prog 29 [.w (.one (.pl (.R ex 34 (pinRows l)))), .w (.one (.pl (.R ex2 34 (pinRows l2))))] (fun v m => v = .w (.one (.pl (.b (decide (l = l2)))))) := by
  by_cases hn : l.length = l2.length
  · exact same_pins_loop l l2 hl hl2 ex ex2 hn hll
  · have e : decide (l = l2) = false := by simp; intro e; exact hn (by rw [e])
    rw [e]; exact same_pins_len l l2 hl hl2 ex ex2 hn
theorem runP_sound : ∀ (k : Nat) (l : List PinD) (bs : List UInt8), (∀ p ∈ l, p.ok) → (∀ p ∈ (runP k l bs).2.1, p.ok) ∧ (runP k l bs).2.1.length ≤ l.length + k
  | 0, l, bs, h => ⟨by simpa [runP] using h, by simp [runP]⟩
  | k + 1, l, bs, h => by
    by_cases hf : oneFault bs = 0
    · rw [runP_ok hf]
      have h34 : 34 + pn bs ≤ bs.length := by
        unfold oneFault at hf
        split at hf
        · cases hf
        · split at hf
          · cases hf
          · omega
      obtain ⟨h1, h2⟩ := runP_sound k (l ++ [pinOf bs]) (bs.drop (pn bs + 34)) (fun p hp => by
        rcases List.mem_append.mp hp with hp | hp
        · exact h p hp
        · rw [List.mem_singleton.mp hp]; exact pinOf_ok h34)
      refine ⟨h1, ?_⟩
      rw [List.length_append, List.length_singleton] at h2; omega
    · rw [runP_bad hf]; exact ⟨fun p hp => (by cases hp), by simp⟩
theorem decP_sound (bs : List UInt8) : (∀ p ∈ (decP bs).2, p.ok) ∧ (decP bs).2.length ≤ 9223372036854775807 := by
  have h := runP_sound (pn bs) [] (bs.drop 1) fun p hp => (by cases hp)
  have hp := pn_le bs
  unfold decP
  split
  · exact ⟨fun p hp => (by cases hp), by simp⟩
  · split
    · exact ⟨fun p hp => (by cases hp), by simp⟩
    · dsimp only
      split
      · split
        · exact ⟨fun p hp => (by cases hp), by simp⟩
        · split
          · exact ⟨h.1, Nat.le_trans h.2 (by simp only [List.length_nil]; omega)⟩
          · exact ⟨fun p hp => (by cases hp), by simp⟩
      · exact ⟨fun p hp => (by cases hp), by simp⟩
set_option maxHeartbeats 400000 in
theorem pins_decodes (bs : List UInt8) (hbs : bs.length ≤ 9223372036854775807) (ex : Bool) :
    Ct Try.prog 8 [.w (.one (.pl (.R ex 1 (byteRows bs))))] (fun v m => v = .w (.one (.pl (.b true)))) := by
  obtain ⟨hok, hlen⟩ := decP_sound bs
  refine Ct.k Try.func8 rfl Try.ntmps8 (congrArg Array.toList Try.results8) (by simp) fun w0 ro => ?_
  refine seq_k fun N1 M1 hN1 hM1 => ?_
  refine region_k fun K2 hK2 => ?_
  simp only [go_sem, decide_true]
  all_goals repeat' (first | apply And.intro | intro _)
  all_goals
    refine hK2 _ ?_
    refine hN1 _ ?_
    refine seq_k fun N3 M3 hN3 hM3 => ?_
    refine region_k fun K4 hK4 => ?_
    simp only [go_sem, decide_true]
    all_goals repeat' (first | apply And.intro | intro _)
    all_goals refine call_hand false [] (fun k => k) (fun _ _ => rfl) (by first | rfl | (simp only [go_sem, valsIn, valIn, leafIn, leavesIn, nameIn, capsIn, handOk, decide_true]; done) | (simp only [go_sem, valsIn, valIn, leafIn, leavesIn, nameIn, capsIn, handOk, decide_true]; rfl) | (simp only [go_sem, valsIn, valIn, leafIn, leavesIn, nameIn, capsIn, handOk, decide_true]; simp)) (by decide) (by first | rfl | (simp only [go_sem, valsIn, valIn, leafIn, leavesIn, nameIn, capsIn, handOk, decide_true]; done) | (simp only [go_sem, valsIn, valIn, leafIn, leavesIn, nameIn, capsIn, handOk, decide_true]; rfl) | (simp only [go_sem, valsIn, valIn, leafIn, leavesIn, nameIn, capsIn, handOk, decide_true]; simp)) (pins_decode bs hbs ex).hands ?_
    all_goals (rintro v m ⟨hR, hm⟩; subst hR; subst hm)
    all_goals refine And.intro (by (first | rfl | (simp only [go_sem, leafOutV, leafOutW, leafOut, okN, outOk, inv, decide_true]; done) | (simp [go_sem, leafOutV, leafOutW, leafOut, okN, outOk, inv, look, decide_true]; done))) (And.intro (by (first | rfl | (simp only [go_sem, leafOutV, leafOutW, leafOut, okN, outOk, inv, decide_true]; done) | (simp [go_sem, leafOutV, leafOutW, leafOut, okN, outOk, inv, look, decide_true]; done))) (And.intro (by (first | rfl | (simp only [go_sem, leafOutV, leafOutW, leafOut, okN, outOk, inv, decide_true]; done) | (simp [go_sem, leafOutV, leafOutW, leafOut, okN, outOk, inv, look, decide_true]; done))) ?_))
    all_goals (try simp only [go_sem, backM, outN, nameOut, Ob.ren, V.ren, W.ren, L.ren, setM, decide_true])
    all_goals (try simp only [go_sem, decide_true])
    all_goals repeat' (first | apply And.intro | intro _)
    all_goals
      refine hK4 _ ?_
      refine hN3 _ ?_
      refine seq_k fun N5 M5 hN5 hM5 => ?_
      refine region_k fun K6 hK6 => ?_
      simp only [go_sem, decide_true]
      all_goals repeat' (first | apply And.intro | intro _)
      all_goals refine call_hand false [] (fun k => k) (fun _ _ => rfl) (by first | rfl | (simp only [go_sem, valsIn, valIn, leafIn, leavesIn, nameIn, capsIn, handOk, decide_true]; done) | (simp only [go_sem, valsIn, valIn, leafIn, leavesIn, nameIn, capsIn, handOk, decide_true]; rfl) | (simp only [go_sem, valsIn, valIn, leafIn, leavesIn, nameIn, capsIn, handOk, decide_true]; simp)) (by decide) (by first | rfl | (simp only [go_sem, valsIn, valIn, leafIn, leavesIn, nameIn, capsIn, handOk, decide_true]; done) | (simp only [go_sem, valsIn, valIn, leafIn, leavesIn, nameIn, capsIn, handOk, decide_true]; rfl) | (simp only [go_sem, valsIn, valIn, leafIn, leavesIn, nameIn, capsIn, handOk, decide_true]; simp)) (pins_of bs hbs ex).hands ?_
      all_goals (rintro v m ⟨hR, hm⟩; subst hR; subst hm)
      all_goals refine And.intro (by (first | rfl | (simp only [go_sem, leafOutV, leafOutW, leafOut, okN, outOk, inv, decide_true]; done) | (simp [go_sem, leafOutV, leafOutW, leafOut, okN, outOk, inv, look, decide_true]; done))) (And.intro (by (first | rfl | (simp only [go_sem, leafOutV, leafOutW, leafOut, okN, outOk, inv, decide_true]; done) | (simp [go_sem, leafOutV, leafOutW, leafOut, okN, outOk, inv, look, decide_true]; done))) (And.intro (by (first | rfl | (simp only [go_sem, leafOutV, leafOutW, leafOut, okN, outOk, inv, decide_true]; done) | (simp [go_sem, leafOutV, leafOutW, leafOut, okN, outOk, inv, look, decide_true]; done))) ?_))
      all_goals (try simp only [go_sem, backM, outN, nameOut, Ob.ren, V.ren, W.ren, L.ren, setM, decide_true])
      all_goals (try simp only [go_sem, decide_true])
      all_goals repeat' (first | apply And.intro | intro _)
      all_goals
        refine hK6 _ ?_
        refine hN5 _ ?_
        refine seq_k fun N7 M7 hN7 hM7 => ?_
        refine region_k fun K8 hK8 => ?_
        simp only [go_sem, decide_true]
        all_goals repeat' (first | apply And.intro | intro _)
        all_goals refine call_view (fun k => k) (fun _ _ => rfl) (by first | rfl | (simp only [go_sem, decide_true]; rfl) | simp only [go_sem, decide_true]) ((same_pins _ _ hok hok false false hlen).plain fun _ _ h => h) ?_
        all_goals (rintro v m ⟨hR, hm⟩; subst hR; subst hm)
        all_goals refine And.intro (by first | rfl | simp only [go_sem]) (And.intro (by first | rfl | simp only [go_sem]) ?_)
        all_goals simp only [go_sem, decide_true]
        all_goals repeat' (first | apply And.intro | intro _)
        all_goals
          refine hK8 _ ?_
          refine hN7 _ ?_
          refine ret_k ?_
          simp only [go_sem, decide_true]
          all_goals (first | rfl | simp)
end Go.Sy
