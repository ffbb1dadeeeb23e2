/- Walks: pins, read off bytes. -/
import Derived.Test.YtmopmlnpoeeomaavaA5
set_option linter.unusedVariables false
set_option linter.unusedSimpArgs false
namespace Go.Sy
open Go.Proofs
attribute [local irreducible] atCall HT runOps runD onC onE onO onG goV goA goS onSt onGuard
theorem rowsL {l : List PinD} : pinRows l = l.map pinC := rfl
section
variable {bs bt : List UInt8} {n : Nat} {l : List PinD} {m : List (Nat × Ob)} {k : Int} {ex : Bool} {sz : Nat}
theorem bad_end (h0 : 0 < bs.length) (h8 : ¬ 8 < pn bs) (hp : pn bs = n) (h : (runP n [] (bs.drop 1)).1 = k) (hk : k ≠ 0 := by decide) : Told (pinsV (decP bs).2 (decP bs).1) (.tup [.one (.pl (.R ex sz [])), .one (.pl (.i k))]) m := by
  rw [decP_loop h0 h8, hp, h, if_neg hk]; exact pins_nil
theorem tail_end (h0 : 0 < bs.length) (h8 : ¬ 8 < pn bs) (hp : pn bs = n) (h : runP n [] (bs.drop 1) = (0, l, bt)) (hl : 0 < bt.length) : Told (pinsV (decP bs).2 (decP bs).1) (.tup [.one (.pl (.R ex sz [])), .one (.pl (.i 3))]) m := by
  rw [decP_loop h0 h8, hp, h, if_pos rfl, if_pos hl]; exact pins_nil
theorem good_nil (h0 : 0 < bs.length) (h8 : ¬ 8 < pn bs) (hp : pn bs = n) (h : runP n [] (bs.drop 1) = (0, [], bt)) (hl : bt.length = 0) : Told (pinsV (decP bs).2 (decP bs).1) (.tup [.one (.pl (.R ex sz [])), .one (.pl (.i 0))]) m := by
  rw [decP_loop h0 h8, hp, h, if_pos rfl, if_neg (by simp only; omega)]; exact pins_nil
theorem fault_end (h0 : 0 < bs.length) (h8 : ¬ 8 < pn bs) (hp : pn bs = n) (h : runP n [] (bs.drop 1) = (0, l, bt)) (hl : bt.length = 0) (hf : ¬ pinsFault l = 0) : Told (pinsV (decP bs).2 (decP bs).1) (.tup [.one (.pl (.R ex sz [])), .one (.pl (.i (pinsFault l)))]) m := by
  rw [decP_loop h0 h8, hp, h, if_pos rfl, if_neg (by simp only; omega), if_neg hf]; exact pins_nil
theorem good_end {j c : Nat} (h0 : 0 < bs.length) (h8 : ¬ 8 < pn bs) (hp : pn bs = n) (h : runP n [] (bs.drop 1) = (0, l, bt)) (hl : bt.length = 0) (hf : pinsFault l = 0) (hok : ∀ p ∈ l, p.ok) (hc : c = l.length) (hk : look m j = some ⟨true, pinsC l⟩) (hj : j < 500000 := by decide) : Told (pinsV (decP bs).2 (decP bs).1) (.tup [.one (.s j [] c 34), .one (.pl (.i 0))]) m := by
  rw [decP_loop h0 h8, hp, h, if_pos rfl, if_neg (by simp only; omega), if_pos hf]; exact pins_obj hk hok hc hj
end
set_option maxHeartbeats 400000 in
theorem pins_decode_empty (ex : Bool) :
    Ct Try.prog 27 [.w (.one (.pl (.R ex 1 (byteRows []))))] (Told (pinsV [] 4)) := by
  refine Ct.k Try.func27 rfl Try.ntmps27 (congrArg Array.toList Try.results27) (by simp) fun w0 ro => ?_
  refine seq_k fun N1 M1 hN1 hM1 => ?_
  refine region_k fun K2 hK2 => ?_
  simp only [go_sem]
  all_goals repeat' (first | apply And.intro | intro _)
  all_goals
    refine hK2 _ ?_
    refine hN1 _ ?_
    refine seq_k fun N3 M3 hN3 hM3 => ?_
    refine seq_k fun N4 M4 hN4 hM4 => ?_
    refine region_k fun K5 hK5 => ?_
    simp only [go_sem]
    all_goals repeat' (first | apply And.intro | intro _)
    all_goals
      refine hK5 _ ?_
      refine hN4 _ ?_
      refine cond_k rfl (fun hc => ?_) (fun hc => ?_)
      · try simp only [go_sem] at hc
        all_goals
          refine seq_k fun N6 M6 hN6 hM6 => ?_
          refine region_k fun K7 hK7 => ?_
          simp only [go_sem]
          all_goals repeat' (first | apply And.intro | intro _)
          all_goals
            refine hK7 _ ?_
            refine hN6 _ ?_
            refine ret_k ?_
            refine hM3 _ _ ?_
            simp only [go_sem]
            all_goals (exact pins_nil)
      · exfalso; revert hc; simp [go_sem]
set_option maxHeartbeats 400000 in
theorem pins_decode_big (bs : List UInt8) (hbs : bs.length ≤ 9223372036854775807) (ex : Bool) (h0 : 0 < bs.length) (h8 : 8 < pn bs) :
    Ct Try.prog 27 [.w (.one (.pl (.R ex 1 (byteRows bs))))] (Told (pinsV [] 1)) := by
  obtain ⟨c0, hc0⟩ : ∃ b, bs.getD 0 0 = b := ⟨_, rfl⟩
  obtain ⟨n, hn⟩ : ∃ x, c0.toNat = x := ⟨_, rfl⟩
  have hpn0 : pn bs = n := by rw [pn, hc0, hn]
  have hz : ¬ ((bs.length : Nat) : Int) = 0 := by omega
  have hg0 : (byteRows bs).getD 0 [] = [.u8 c0] := by rw [byteRows_get h0, hc0]
  have hlt : (0 : Int) < ((bs.length : Nat) : Int) := by omega
  have hone : (1 : Int) ≤ ((bs.length : Nat) : Int) := by omega
  have h81 : (8 : Int) < ((n : Nat) : Int) := by omega
  refine Ct.k Try.func27 rfl Try.ntmps27 (congrArg Array.toList Try.results27) (by simp) fun w0 ro => ?_
  refine seq_k fun N1 M1 hN1 hM1 => ?_
  refine region_k fun K2 hK2 => ?_
  simp only [go_sem, hz, hg0, hn, h81, hlt, hone, Int.toNat_zero, decide_false, decide_true]
  all_goals repeat' (first | apply And.intro | intro _)
  all_goals
    refine hK2 _ ?_
    refine hN1 _ ?_
    refine seq_k fun N3 M3 hN3 hM3 => ?_
    refine seq_k fun N4 M4 hN4 hM4 => ?_
    refine region_k fun K5 hK5 => ?_
    simp only [go_sem, hz, hg0, hn, h81, hlt, hone, Int.toNat_zero, decide_false, decide_true]
    all_goals repeat' (first | apply And.intro | intro _)
    all_goals
      refine hK5 _ ?_
      refine hN4 _ ?_
      refine cond_k rfl (fun hc => ?_) (fun hc => ?_)
      · exfalso; revert hc; simp [go_sem, hz, hg0, hn, h81, hlt, hone, Int.toNat_zero, decide_false, decide_true]
      · try simp only [go_sem, hz, hg0, hn, h81, hlt, hone, Int.toNat_zero, decide_false, decide_true] at hc
        all_goals
          refine skip_k ?_
          refine hN3 _ ?_
          refine seq_k fun N6 M6 hN6 hM6 => ?_
          refine region_k fun K7 hK7 => ?_
          simp only [go_sem, hz, hg0, hn, h81, hlt, hone, Int.toNat_zero, decide_false, decide_true]
          all_goals repeat' (first | apply And.intro | intro _)
          all_goals
            refine hK7 _ ?_
            refine hN6 _ ?_
            refine seq_k fun N8 M8 hN8 hM8 => ?_
            refine region_k fun K9 hK9 => ?_
            simp only [go_sem, hz, hg0, hn, h81, hlt, hone, Int.toNat_zero, decide_false, decide_true]
            all_goals repeat' (first | apply And.intro | intro _)
            all_goals
              refine hK9 _ ?_
              refine hN8 _ ?_
              refine seq_k fun N10 M10 hN10 hM10 => ?_
              refine region_k fun K11 hK11 => ?_
              simp only [go_sem, hz, hg0, hn, h81, hlt, hone, Int.toNat_zero, decide_false, decide_true]
              all_goals repeat' (first | apply And.intro | intro _)
              all_goals
                refine hK11 _ ?_
                refine hN10 _ ?_
                refine seq_k fun N12 M12 hN12 hM12 => ?_
                refine seq_k fun N13 M13 hN13 hM13 => ?_
                refine region_k fun K14 hK14 => ?_
                simp only [go_sem, hz, hg0, hn, h81, hlt, hone, Int.toNat_zero, decide_false, decide_true]
                all_goals repeat' (first | apply And.intro | intro _)
                all_goals
                  refine hK14 _ ?_
                  refine hN13 _ ?_
                  refine cond_k rfl (fun hc => ?_) (fun hc => ?_)
                  · try simp only [go_sem, hz, hg0, hn, h81, hlt, hone, Int.toNat_zero, decide_false, decide_true] at hc
                    all_goals
                      refine seq_k fun N15 M15 hN15 hM15 => ?_
                      refine region_k fun K16 hK16 => ?_
                      simp only [go_sem, hz, hg0, hn, h81, hlt, hone, Int.toNat_zero, decide_false, decide_true]
                      all_goals repeat' (first | apply And.intro | intro _)
                      all_goals
                        refine hK16 _ ?_
                        refine hN15 _ ?_
                        refine ret_k ?_
                        refine hM12 _ _ ?_
                        simp only [go_sem, hz, hg0, hn, h81, hlt, hone, Int.toNat_zero, decide_false, decide_true]
                        all_goals (exact pins_nil)
                  · exfalso; revert hc; simp [go_sem, hz, hg0, hn, h81, hlt, hone, Int.toNat_zero, decide_false, decide_true]
set_option maxHeartbeats 3200000 in
theorem pins_decode_loop (bs : List UInt8) (hbs : bs.length ≤ 9223372036854775807) (ex : Bool) (h0 : 0 < bs.length) (h8 : ¬ 8 < pn bs) :
    Ct Try.prog 27 [.w (.one (.pl (.R ex 1 (byteRows bs))))] (Told (pinsV (decP bs).2 (decP bs).1)) := by
  obtain ⟨c0, hc0⟩ : ∃ b, bs.getD 0 0 = b := ⟨_, rfl⟩
  obtain ⟨n, hn⟩ : ∃ x, c0.toNat = x := ⟨_, rfl⟩
  have hpn0 : pn bs = n := by rw [pn, hc0, hn]
  have hz : ¬ ((bs.length : Nat) : Int) = 0 := by omega
  have hg0 : (byteRows bs).getD 0 [] = [.u8 c0] := by rw [byteRows_get h0, hc0]
  have hlt : (0 : Int) < ((bs.length : Nat) : Int) := by omega
  have hone : (1 : Int) ≤ ((bs.length : Nat) : Int) := by omega
  have h81 : ¬ (8 : Int) < ((n : Nat) : Int) := by omega
  refine Ct.k Try.func27 rfl Try.ntmps27 (congrArg Array.toList Try.results27) (by simp) fun w0 ro => ?_
  refine seq_k fun N1 M1 hN1 hM1 => ?_
  refine region_k fun K2 hK2 => ?_
  simp only [go_sem, hz, hg0, hn, h81, hlt, hone, Int.toNat_zero, decide_false, decide_true]
  all_goals repeat' (first | apply And.intro | intro _)
  all_goals
    refine hK2 _ ?_
    refine hN1 _ ?_
    refine seq_k fun N3 M3 hN3 hM3 => ?_
    refine seq_k fun N4 M4 hN4 hM4 => ?_
    refine region_k fun K5 hK5 => ?_
    simp only [go_sem, hz, hg0, hn, h81, hlt, hone, Int.toNat_zero, decide_false, decide_true]
    all_goals repeat' (first | apply And.intro | intro _)
    all_goals
      refine hK5 _ ?_
      refine hN4 _ ?_
      refine cond_k rfl (fun hc => ?_) (fun hc => ?_)
      · exfalso; revert hc; simp [go_sem, hz, hg0, hn, h81, hlt, hone, Int.toNat_zero, decide_false, decide_true]
      · try simp only [go_sem, hz, hg0, hn, h81, hlt, hone, Int.toNat_zero, decide_false, decide_true] at hc
        all_goals
          refine skip_k ?_
          refine hN3 _ ?_
          refine seq_k fun N6 M6 hN6 hM6 => ?_
          refine region_k fun K7 hK7 => ?_
          simp only [go_sem, hz, hg0, hn, h81, hlt, hone, Int.toNat_zero, decide_false, decide_true]
          all_goals repeat' (first | apply And.intro | intro _)
          all_goals
            refine hK7 _ ?_
            refine hN6 _ ?_
            refine seq_k fun N8 M8 hN8 hM8 => ?_
            refine region_k fun K9 hK9 => ?_
            simp only [go_sem, hz, hg0, hn, h81, hlt, hone, Int.toNat_zero, decide_false, decide_true]
            all_goals repeat' (first | apply And.intro | intro _)
            all_goals
              refine hK9 _ ?_
              refine hN8 _ ?_
              refine seq_k fun N10 M10 hN10 hM10 => ?_
              refine region_k fun K11 hK11 => ?_
              simp only [go_sem, hz, hg0, hn, h81, hlt, hone, Int.toNat_zero, decide_false, decide_true]
              all_goals repeat' (first | apply And.intro | intro _)
              all_goals
                refine hK11 _ ?_
                refine hN10 _ ?_
                refine seq_k fun N12 M12 hN12 hM12 => ?_
                refine seq_k fun N13 M13 hN13 hM13 => ?_
                refine region_k fun K14 hK14 => ?_
                simp only [go_sem, hz, hg0, hn, h81, hlt, hone, Int.toNat_zero, decide_false, decide_true]
                all_goals repeat' (first | apply And.intro | intro _)
                all_goals
                  refine hK14 _ ?_
                  refine hN13 _ ?_
                  refine cond_k rfl (fun hc => ?_) (fun hc => ?_)
                  · exfalso; revert hc; simp [go_sem, hz, hg0, hn, h81, hlt, hone, Int.toNat_zero, decide_false, decide_true]
                  · try simp only [go_sem, hz, hg0, hn, h81, hlt, hone, Int.toNat_zero, decide_false, decide_true] at hc
                    all_goals
                      refine skip_k ?_
                      refine hN12 _ ?_
                      refine seq_k fun N15 M15 hN15 hM15 => ?_
                      refine seq_k fun N16 M16 hN16 hM16 => ?_
                      refine region_k fun K17 hK17 => ?_
                      simp only [go_sem, hz, hg0, hn, h81, hlt, hone, Int.toNat_zero, decide_false, decide_true]
                      all_goals repeat' (first | apply And.intro | intro _)
                      all_goals
                        refine hK17 _ ?_
                        refine hN16 _ ?_
                        refine block_k fun B18 bn18 bx18 br18 bi18 => ?_
                        refine ht_dropE [5, 9, 10, 11, 12, 13, 14, 15, 16, 17, 18, 19] ?_
                        simp only [dropE_mk, fgt_nil, fgt_cons, List.contains_cons, List.contains_nil, Nat.reduceBEq, beq_self_eq_true, Bool.or_false, Bool.or_true, Bool.true_or, Bool.false_or, Bool.false_eq_true, reduceIte]
                        refine loop_k (fun y => [(21, .w (.one (.pl (.i (y.1.1 : Nat))))), (0, .w (.one (.pl (.R ex 1 (byteRows y.1.2.2))))), (4, outV 67 y.1.2.1)]) (fun y => outM 67 y.1.2.1) (fun y => n - y.1.1) (⟨(0, [], bs.drop 1), Nat.zero_le _, rfl, fun p hp => (by cases hp), rfl, Nat.le_refl _⟩ : {y : Nat × List PinD × List UInt8 // DInv n (bs.drop 1) y}) ?_ ?_ ?_
                        · (simp only [go_sem, outV_nil, leX, List.cons_append, List.nil_append]; try simp)
                        · (simp only [go_sem, outM_nil, leX, List.cons_append, List.nil_append]; try simp)
                        intro ⟨y, hv⟩ N19 M19 hN19 hM19
                        simp only [List.cons_append, List.nil_append]
                        obtain ⟨i, l, bt⟩ := y
                        have hd := dec_cases n i l bt hv.1
                        rcases hd with ⟨hlt0, hle⟩ | ⟨hlt0, hpos, hle⟩ | ⟨hlt0, hle, hgt, rfl⟩ | ⟨hlt0, hle, hgt, hl0⟩ | ⟨hlt0, hle, hgt, rfl⟩ | ⟨hlt0, hle, hgt, hl0⟩ | ⟨he, hle⟩ | ⟨he, hle, rfl⟩ | ⟨he, hle, hl0, hf⟩ | ⟨he, hle, hl0, hf⟩
                        · have hfe := dinv_fault hv hlt0 (by rw [fault_len0 hle]; decide)
                          rw [fault_len0 hle] at hfe
                          have hil : ((i : Nat) : Int) < ((n : Nat) : Int) := by omega
                          have hz : ((bt.length : Nat) : Int) = 0 := by omega
                          refine seq_k fun N20 M20 hN20 hM20 => ?_
                          refine region_k fun K21 hK21 => ?_
                          simp only [go_sem, hz, hg0, hn, h81, hlt, hone, Int.toNat_zero, decide_false, decide_true, hil, hz, decide_true, decide_false]
                          all_goals repeat' (first | apply And.intro | intro _)
                          all_goals
                            refine hK21 _ ?_
                            refine hN20 _ ?_
                            refine seq_k fun N22 M22 hN22 hM22 => ?_
                            refine cond_k rfl (fun hc => ?_) (fun hc => ?_)
                            · try simp only [go_sem, hz, hg0, hn, h81, hlt, hone, Int.toNat_zero, decide_false, decide_true, hil, hz, decide_true, decide_false] at hc
                              all_goals
                                refine skip_k ?_
                                refine hN22 _ ?_
                                refine seq_k fun N23 M23 hN23 hM23 => ?_
                                refine block_k fun B24 bn24 bx24 br24 bi24 => ?_
                                refine seq_k fun N25 M25 hN25 hM25 => ?_
                                refine seq_k fun N26 M26 hN26 hM26 => ?_
                                refine region_k fun K27 hK27 => ?_
                                simp only [go_sem, hz, hg0, hn, h81, hlt, hone, Int.toNat_zero, decide_false, decide_true, hil, hz, decide_true, decide_false]
                                all_goals repeat' (first | apply And.intro | intro _)
                                all_goals
                                  refine hK27 _ ?_
                                  refine hN26 _ ?_
                                  refine cond_k rfl (fun hc => ?_) (fun hc => ?_)
                                  · try simp only [go_sem, hz, hg0, hn, h81, hlt, hone, Int.toNat_zero, decide_false, decide_true, hil, hz, decide_true, decide_false] at hc
                                    all_goals
                                      refine seq_k fun N28 M28 hN28 hM28 => ?_
                                      refine region_k fun K29 hK29 => ?_
                                      simp only [go_sem, hz, hg0, hn, h81, hlt, hone, Int.toNat_zero, decide_false, decide_true, hil, hz, decide_true, decide_false]
                                      all_goals repeat' (first | apply And.intro | intro _)
                                      all_goals
                                        refine hK29 _ ?_
                                        refine hN28 _ ?_
                                        refine ret_k ?_
                                        refine hM25 _ _ ?_
                                        refine br24 _ ?_
                                        refine hM23 _ _ ?_
                                        refine hM19 _ _ ?_
                                        refine br18 _ ?_
                                        refine hM15 _ _ ?_
                                        simp only [go_sem, hz, hg0, hn, h81, hlt, hone, Int.toNat_zero, decide_false, decide_true, hil, hz, decide_true, decide_false]
                                        all_goals (exact bad_end h0 h8 hpn0 hfe)
                                  · exfalso; revert hc; simp [go_sem, hz, hg0, hn, h81, hlt, hone, Int.toNat_zero, decide_false, decide_true, hil, hz, decide_true, decide_false]
                            · exfalso; revert hc; simp [go_sem, hz, hg0, hn, h81, hlt, hone, Int.toNat_zero, decide_false, decide_true, hil, hz, decide_true, decide_false]
                        · have hfe := dinv_fault hv hlt0 (by rw [fault_short hpos hle]; decide)
                          rw [fault_short hpos hle] at hfe
                          obtain ⟨b0, hb0⟩ : ∃ b, bt.getD 0 0 = b := ⟨_, rfl⟩
                          obtain ⟨x, hx⟩ : ∃ x, b0.toNat = x := ⟨_, rfl⟩
                          have hpn : pn bt = x := by rw [pn, hb0, hx]
                          have hx255 : x ≤ 255 := hpn ▸ pn_le bt
                          try rw [hpn] at hle
                          try rw [hpn] at hgt
                          have hil : ((i : Nat) : Int) < ((n : Nat) : Int) := by omega
                          have hg0 : (byteRows bt).getD 0 [] = [.u8 b0] := by rw [byteRows_get (by omega), hb0]
                          have hz : ¬ ((bt.length : Nat) : Int) = 0 := by omega
                          have hlt : (0 : Int) < ((bt.length : Nat) : Int) := by omega
                          have hsh : ((bt.length : Nat) : Int) < ((x + 34 : Nat) : Int) := by omega
                          obtain ⟨hw1, hw2, hw3, hw4, hw5, hs1⟩ : Go.RowKit.wrap64 (1 + ((x : Nat) : Int)) = ((x + 1 : Nat) : Int) ∧ Go.RowKit.wrap64 (((x + 1 : Nat) : Int) + 32) = ((x + 33 : Nat) : Int) ∧ Go.RowKit.wrap64 (34 + ((x : Nat) : Int)) = ((x + 34 : Nat) : Int) ∧ Go.RowKit.wrap64 (((x + 1 : Nat) : Int) + 33) = ((x + 34 : Nat) : Int) ∧ Go.RowKit.wrap64 (33 + ((x : Nat) : Int)) = ((x + 33 : Nat) : Int) ∧ Go.RowKit.wrap64 (((i : Nat) : Int) + 1) = ((i + 1 : Nat) : Int) := ⟨wnat (by omega) (by omega), wnat (by omega) (by omega), wnat (by omega) (by omega), wnat (by omega) (by omega), wnat (by omega) (by omega), wnat (by omega) (by omega)⟩
                          
                          refine seq_k fun N30 M30 hN30 hM30 => ?_
                          refine region_k fun K31 hK31 => ?_
                          simp only [go_sem, hz, hg0, hn, h81, hlt, hone, Int.toNat_zero, decide_false, decide_true, hil, hw1, hw2, hw3, hw4, hs1, hx, Int.toNat_natCast, Int.toNat_zero, decide_true, decide_false, hg0, hz, hlt, hsh]
                          all_goals repeat' (first | apply And.intro | intro _)
                          all_goals
                            refine hK31 _ ?_
                            refine hN30 _ ?_
                            refine seq_k fun N32 M32 hN32 hM32 => ?_
                            refine cond_k rfl (fun hc => ?_) (fun hc => ?_)
                            · try simp only [go_sem, hz, hg0, hn, h81, hlt, hone, Int.toNat_zero, decide_false, decide_true, hil, hw1, hw2, hw3, hw4, hs1, hx, Int.toNat_natCast, Int.toNat_zero, decide_true, decide_false, hg0, hz, hlt, hsh] at hc
                              all_goals
                                refine skip_k ?_
                                refine hN32 _ ?_
                                refine seq_k fun N33 M33 hN33 hM33 => ?_
                                refine block_k fun B34 bn34 bx34 br34 bi34 => ?_
                                refine seq_k fun N35 M35 hN35 hM35 => ?_
                                refine seq_k fun N36 M36 hN36 hM36 => ?_
                                refine region_k fun K37 hK37 => ?_
                                simp only [go_sem, hz, hg0, hn, h81, hlt, hone, Int.toNat_zero, decide_false, decide_true, hil, hw1, hw2, hw3, hw4, hs1, hx, Int.toNat_natCast, Int.toNat_zero, decide_true, decide_false, hg0, hz, hlt, hsh]
                                all_goals repeat' (first | apply And.intro | intro _)
                                all_goals
                                  refine hK37 _ ?_
                                  refine hN36 _ ?_
                                  refine cond_k rfl (fun hc => ?_) (fun hc => ?_)
                                  · try simp only [go_sem, hz, hg0, hn, h81, hlt, hone, Int.toNat_zero, decide_false, decide_true, hil, hw1, hw2, hw3, hw4, hs1, hx, Int.toNat_natCast, Int.toNat_zero, decide_true, decide_false, hg0, hz, hlt, hsh] at hc
                                    all_goals
                                      refine seq_k fun N38 M38 hN38 hM38 => ?_
                                      refine region_k fun K39 hK39 => ?_
                                      simp only [go_sem, hz, hg0, hn, h81, hlt, hone, Int.toNat_zero, decide_false, decide_true, hil, hw1, hw2, hw3, hw4, hs1, hx, Int.toNat_natCast, Int.toNat_zero, decide_true, decide_false, hg0, hz, hlt, hsh]
                                      all_goals repeat' (first | apply And.intro | intro _)
                                      all_goals
                                        refine hK39 _ ?_
                                        refine hN38 _ ?_
                                        refine ret_k ?_
                                        refine hM35 _ _ ?_
                                        refine br34 _ ?_
                                        refine hM33 _ _ ?_
                                        refine hM19 _ _ ?_
                                        refine br18 _ ?_
                                        refine hM15 _ _ ?_
                                        simp only [go_sem, hz, hg0, hn, h81, hlt, hone, Int.toNat_zero, decide_false, decide_true, hil, hw1, hw2, hw3, hw4, hs1, hx, Int.toNat_natCast, Int.toNat_zero, decide_true, decide_false, hg0, hz, hlt, hsh]
                                        all_goals (exact bad_end h0 h8 hpn0 hfe)
                                  · exfalso; revert hc; simp [go_sem, hz, hg0, hn, h81, hlt, hone, Int.toNat_zero, decide_false, decide_true, hil, hw1, hw2, hw3, hw4, hs1, hx, Int.toNat_natCast, Int.toNat_zero, decide_true, decide_false, hg0, hz, hlt, hsh]
                            · exfalso; revert hc; simp [go_sem, hz, hg0, hn, h81, hlt, hone, Int.toNat_zero, decide_false, decide_true, hil, hw1, hw2, hw3, hw4, hs1, hx, Int.toNat_natCast, Int.toNat_zero, decide_true, decide_false, hg0, hz, hlt, hsh]
                        · have hfe := dinv_fault hv hlt0 (by rw [fault_form hle hgt]; decide)
                          rw [fault_form hle hgt] at hfe
                          simp only [outV_nil, outM_nil, List.cons_append, List.nil_append]
                          obtain ⟨b0, hb0⟩ : ∃ b, bt.getD 0 0 = b := ⟨_, rfl⟩
                          obtain ⟨x, hx⟩ : ∃ x, b0.toNat = x := ⟨_, rfl⟩
                          have hpn : pn bt = x := by rw [pn, hb0, hx]
                          have hx255 : x ≤ 255 := hpn ▸ pn_le bt
                          try rw [hpn] at hle
                          try rw [hpn] at hgt
                          have hil : ((i : Nat) : Int) < ((n : Nat) : Int) := by omega
                          have hg0 : (byteRows bt).getD 0 [] = [.u8 b0] := by rw [byteRows_get (by omega), hb0]
                          have hz : ¬ ((bt.length : Nat) : Int) = 0 := by omega
                          have hlt : (0 : Int) < ((bt.length : Nat) : Int) := by omega
                          have hg1 : (byteRows bt).getD (x + 33) [] = [.u8 (bt.getD (x + 33) 0)] := by rw [byteRows_get (by omega)]
                          have hsh : ¬ ((bt.length : Nat) : Int) < ((x + 34 : Nat) : Int) := by omega
                          have hmin : min (bt.length - (x + 1)) 32 = 32 := by omega
                          have hmin2 : min 32 (bt.length - (x + 1)) = 32 := by omega
                          have hc1 : (1 : Int) ≤ ((x + 1 : Nat) : Int) := by omega
                          have hc2 : ((x + 1 : Nat) : Int) ≤ ((bt.length : Nat) : Int) := by omega
                          have hc3 : (0 : Int) ≤ ((x + 33 : Nat) : Int) := by omega
                          have hc4 : ((x + 33 : Nat) : Int) < ((bt.length : Nat) : Int) := by omega
                          have hc5 : (0 : Int) ≤ ((x + 34 : Nat) : Int) := by omega
                          have hc6 : ((x + 34 : Nat) : Int) ≤ ((bt.length : Nat) : Int) := by omega
                          have hc7 : (0 : Int) ≤ ((x + 1 : Nat) : Int) := by omega
                          obtain ⟨hw1, hw2, hw3, hw4, hw5, hs1⟩ : Go.RowKit.wrap64 (1 + ((x : Nat) : Int)) = ((x + 1 : Nat) : Int) ∧ Go.RowKit.wrap64 (((x + 1 : Nat) : Int) + 32) = ((x + 33 : Nat) : Int) ∧ Go.RowKit.wrap64 (34 + ((x : Nat) : Int)) = ((x + 34 : Nat) : Int) ∧ Go.RowKit.wrap64 (((x + 1 : Nat) : Int) + 33) = ((x + 34 : Nat) : Int) ∧ Go.RowKit.wrap64 (33 + ((x : Nat) : Int)) = ((x + 33 : Nat) : Int) ∧ Go.RowKit.wrap64 (((i : Nat) : Int) + 1) = ((i + 1 : Nat) : Int) := ⟨wnat (by omega) (by omega), wnat (by omega) (by omega), wnat (by omega) (by omega), wnat (by omega) (by omega), wnat (by omega) (by omega), wnat (by omega) (by omega)⟩
                          
                          refine seq_k fun N40 M40 hN40 hM40 => ?_
                          refine region_k fun K41 hK41 => ?_
                          simp only [go_sem, hz, hg0, hn, h81, hlt, hone, Int.toNat_zero, decide_false, decide_true, hil, hw1, hw2, hw3, hw4, hs1, hx, Int.toNat_natCast, Int.toNat_zero, decide_true, decide_false, hg0, hz, hlt, hg1, hsh, hmin, hmin2, hc1, hc2, hc3, hc4, hc5, hc6, hc7, List.length_drop, List.length_take, hgt]
                          all_goals repeat' (first | apply And.intro | intro _)
                          all_goals
                            refine hK41 _ ?_
                            refine hN40 _ ?_
                            refine seq_k fun N42 M42 hN42 hM42 => ?_
                            refine cond_k rfl (fun hc => ?_) (fun hc => ?_)
                            · try simp only [go_sem, hz, hg0, hn, h81, hlt, hone, Int.toNat_zero, decide_false, decide_true, hil, hw1, hw2, hw3, hw4, hs1, hx, Int.toNat_natCast, Int.toNat_zero, decide_true, decide_false, hg0, hz, hlt, hg1, hsh, hmin, hmin2, hc1, hc2, hc3, hc4, hc5, hc6, hc7, List.length_drop, List.length_take, hgt] at hc
                              all_goals
                                refine skip_k ?_
                                refine hN42 _ ?_
                                refine seq_k fun N43 M43 hN43 hM43 => ?_
                                refine block_k fun B44 bn44 bx44 br44 bi44 => ?_
                                refine seq_k fun N45 M45 hN45 hM45 => ?_
                                refine seq_k fun N46 M46 hN46 hM46 => ?_
                                refine region_k fun K47 hK47 => ?_
                                simp only [go_sem, hz, hg0, hn, h81, hlt, hone, Int.toNat_zero, decide_false, decide_true, hil, hw1, hw2, hw3, hw4, hs1, hx, Int.toNat_natCast, Int.toNat_zero, decide_true, decide_false, hg0, hz, hlt, hg1, hsh, hmin, hmin2, hc1, hc2, hc3, hc4, hc5, hc6, hc7, List.length_drop, List.length_take, hgt]
                                all_goals repeat' (first | apply And.intro | intro _)
                                all_goals
                                  refine hK47 _ ?_
                                  refine hN46 _ ?_
                                  refine cond_k rfl (fun hc => ?_) (fun hc => ?_)
                                  · exfalso; revert hc; simp [go_sem, hz, hg0, hn, h81, hlt, hone, Int.toNat_zero, decide_false, decide_true, hil, hw1, hw2, hw3, hw4, hs1, hx, Int.toNat_natCast, Int.toNat_zero, decide_true, decide_false, hg0, hz, hlt, hg1, hsh, hmin, hmin2, hc1, hc2, hc3, hc4, hc5, hc6, hc7, List.length_drop, List.length_take, hgt]
                                  · try simp only [go_sem, hz, hg0, hn, h81, hlt, hone, Int.toNat_zero, decide_false, decide_true, hil, hw1, hw2, hw3, hw4, hs1, hx, Int.toNat_natCast, Int.toNat_zero, decide_true, decide_false, hg0, hz, hlt, hg1, hsh, hmin, hmin2, hc1, hc2, hc3, hc4, hc5, hc6, hc7, List.length_drop, List.length_take, hgt] at hc
                                    all_goals
                                      refine skip_k ?_
                                      refine hN45 _ ?_
                                      refine seq_k fun N48 M48 hN48 hM48 => ?_
                                      refine region_k fun K49 hK49 => ?_
                                      simp only [go_sem, hz, hg0, hn, h81, hlt, hone, Int.toNat_zero, decide_false, decide_true, hil, hw1, hw2, hw3, hw4, hs1, hx, Int.toNat_natCast, Int.toNat_zero, decide_true, decide_false, hg0, hz, hlt, hg1, hsh, hmin, hmin2, hc1, hc2, hc3, hc4, hc5, hc6, hc7, List.length_drop, List.length_take, hgt]
                                      all_goals repeat' (first | apply And.intro | intro _)
                                      all_goals
                                        refine hK49 _ ?_
                                        refine hN48 _ ?_
                                        refine seq_k fun N50 M50 hN50 hM50 => ?_
                                        refine draw_k [41, 42, 43, 44, 45, 46, 47, 48, 49, 50, 51, 7] [0, 0, 3, 7, 0, 0, 32, 112, 240, 496, 1023, 0, 4095] [] mixed (by kernel_rfl) (by simp only [go_sem]) fun K51 hK51 => ?_
                                        simp only [go_sem, hz, hg0, hn, h81, hlt, hone, Int.toNat_zero, decide_false, decide_true, hil, hw1, hw2, hw3, hw4, hs1, hx, Int.toNat_natCast, Int.toNat_zero, decide_true, decide_false, hg0, hz, hlt, hg1, hsh, hmin, hmin2, hc1, hc2, hc3, hc4, hc5, hc6, hc7, List.length_drop, List.length_take, hgt]
                                        all_goals repeat' (first | apply And.intro | intro _)
                                        all_goals
                                          refine hK51 _ _ ?_ ?_
                                          · first | trivial | (simp only [go_sem]; done) | (simp only [go_sem]; simp; done) | (simp only [go_sem]; simp; simp only [go_sem])
                                          refine hN50 _ ?_
                                          refine seq_k fun N52 M52 hN52 hM52 => ?_
                                          refine draw_k [52, 53, 54, 55, 56, 57] [0, 1, 0, 0, 12, 31] [] mixed (by kernel_rfl) (by simp only [go_sem]) fun K53 hK53 => ?_
                                          simp only [go_sem, hz, hg0, hn, h81, hlt, hone, Int.toNat_zero, decide_false, decide_true, hil, hw1, hw2, hw3, hw4, hs1, hx, Int.toNat_natCast, Int.toNat_zero, decide_true, decide_false, hg0, hz, hlt, hg1, hsh, hmin, hmin2, hc1, hc2, hc3, hc4, hc5, hc6, hc7, List.length_drop, List.length_take, hgt]
                                          all_goals repeat' (first | apply And.intro | intro _)
                                          all_goals
                                            refine hK53 _ _ ?_ ?_
                                            · first | trivial | (simp only [go_sem]; done) | (simp only [go_sem]; simp; done) | (simp only [go_sem]; simp; simp only [go_sem])
                                            refine hN52 _ ?_
                                            refine seq_k fun N54 M54 hN54 hM54 => ?_
                                            refine seq_k fun N55 M55 hN55 hM55 => ?_
                                            refine region_k fun K56 hK56 => ?_
                                            simp only [go_sem, hz, hg0, hn, h81, hlt, hone, Int.toNat_zero, decide_false, decide_true, hil, hw1, hw2, hw3, hw4, hs1, hx, Int.toNat_natCast, Int.toNat_zero, decide_true, decide_false, hg0, hz, hlt, hg1, hsh, hmin, hmin2, hc1, hc2, hc3, hc4, hc5, hc6, hc7, List.length_drop, List.length_take, hgt]
                                            all_goals repeat' (first | apply And.intro | intro _)
                                            all_goals
                                              refine hK56 _ ?_
                                              refine hN55 _ ?_
                                              refine cond_k rfl (fun hc => ?_) (fun hc => ?_)
                                              · try simp only [go_sem, hz, hg0, hn, h81, hlt, hone, Int.toNat_zero, decide_false, decide_true, hil, hw1, hw2, hw3, hw4, hs1, hx, Int.toNat_natCast, Int.toNat_zero, decide_true, decide_false, hg0, hz, hlt, hg1, hsh, hmin, hmin2, hc1, hc2, hc3, hc4, hc5, hc6, hc7, List.length_drop, List.length_take, hgt] at hc
                                                all_goals
                                                  refine seq_k fun N57 M57 hN57 hM57 => ?_
                                                  refine region_k fun K58 hK58 => ?_
                                                  simp only [go_sem, hz, hg0, hn, h81, hlt, hone, Int.toNat_zero, decide_false, decide_true, hil, hw1, hw2, hw3, hw4, hs1, hx, Int.toNat_natCast, Int.toNat_zero, decide_true, decide_false, hg0, hz, hlt, hg1, hsh, hmin, hmin2, hc1, hc2, hc3, hc4, hc5, hc6, hc7, List.length_drop, List.length_take, hgt]
                                                  all_goals repeat' (first | apply And.intro | intro _)
                                                  all_goals
                                                    refine hK58 _ ?_
                                                    refine hN57 _ ?_
                                                    refine ret_k ?_
                                                    refine hM54 _ _ ?_
                                                    refine br44 _ ?_
                                                    refine hM43 _ _ ?_
                                                    refine hM19 _ _ ?_
                                                    refine br18 _ ?_
                                                    refine hM15 _ _ ?_
                                                    simp only [go_sem, hz, hg0, hn, h81, hlt, hone, Int.toNat_zero, decide_false, decide_true, hil, hw1, hw2, hw3, hw4, hs1, hx, Int.toNat_natCast, Int.toNat_zero, decide_true, decide_false, hg0, hz, hlt, hg1, hsh, hmin, hmin2, hc1, hc2, hc3, hc4, hc5, hc6, hc7, List.length_drop, List.length_take, hgt]
                                                    all_goals (exact bad_end h0 h8 hpn0 hfe)
                                              · exfalso; revert hc; simp [go_sem, hz, hg0, hn, h81, hlt, hone, Int.toNat_zero, decide_false, decide_true, hil, hw1, hw2, hw3, hw4, hs1, hx, Int.toNat_natCast, Int.toNat_zero, decide_true, decide_false, hg0, hz, hlt, hg1, hsh, hmin, hmin2, hc1, hc2, hc3, hc4, hc5, hc6, hc7, List.length_drop, List.length_take, hgt]
                            · exfalso; revert hc; simp [go_sem, hz, hg0, hn, h81, hlt, hone, Int.toNat_zero, decide_false, decide_true, hil, hw1, hw2, hw3, hw4, hs1, hx, Int.toNat_natCast, Int.toNat_zero, decide_true, decide_false, hg0, hz, hlt, hg1, hsh, hmin, hmin2, hc1, hc2, hc3, hc4, hc5, hc6, hc7, List.length_drop, List.length_take, hgt]
                        · have hfe := dinv_fault hv hlt0 (by rw [fault_form hle hgt]; decide)
                          rw [fault_form hle hgt] at hfe
                          simp only [outV_of _ hl0, outM_of _ hl0, List.cons_append, List.nil_append]
                          have hok := hv.2.2.1
                          have hpl := pinsC_length hok
                          have hli : l.length = i := hv.2.2.2.1
                          have hcap : (l.length + 1) * 56 ≤ 140737488355328 := by omega
                          obtain ⟨b0, hb0⟩ : ∃ b, bt.getD 0 0 = b := ⟨_, rfl⟩
                          obtain ⟨x, hx⟩ : ∃ x, b0.toNat = x := ⟨_, rfl⟩
                          have hpn : pn bt = x := by rw [pn, hb0, hx]
                          have hx255 : x ≤ 255 := hpn ▸ pn_le bt
                          try rw [hpn] at hle
                          try rw [hpn] at hgt
                          have hil : ((i : Nat) : Int) < ((n : Nat) : Int) := by omega
                          have hg0 : (byteRows bt).getD 0 [] = [.u8 b0] := by rw [byteRows_get (by omega), hb0]
                          have hz : ¬ ((bt.length : Nat) : Int) = 0 := by omega
                          have hlt : (0 : Int) < ((bt.length : Nat) : Int) := by omega
                          have hg1 : (byteRows bt).getD (x + 33) [] = [.u8 (bt.getD (x + 33) 0)] := by rw [byteRows_get (by omega)]
                          have hsh : ¬ ((bt.length : Nat) : Int) < ((x + 34 : Nat) : Int) := by omega
                          have hmin : min (bt.length - (x + 1)) 32 = 32 := by omega
                          have hmin2 : min 32 (bt.length - (x + 1)) = 32 := by omega
                          have hc1 : (1 : Int) ≤ ((x + 1 : Nat) : Int) := by omega
                          have hc2 : ((x + 1 : Nat) : Int) ≤ ((bt.length : Nat) : Int) := by omega
                          have hc3 : (0 : Int) ≤ ((x + 33 : Nat) : Int) := by omega
                          have hc4 : ((x + 33 : Nat) : Int) < ((bt.length : Nat) : Int) := by omega
                          have hc5 : (0 : Int) ≤ ((x + 34 : Nat) : Int) := by omega
                          have hc6 : ((x + 34 : Nat) : Int) ≤ ((bt.length : Nat) : Int) := by omega
                          have hc7 : (0 : Int) ≤ ((x + 1 : Nat) : Int) := by omega
                          obtain ⟨hw1, hw2, hw3, hw4, hw5, hs1⟩ : Go.RowKit.wrap64 (1 + ((x : Nat) : Int)) = ((x + 1 : Nat) : Int) ∧ Go.RowKit.wrap64 (((x + 1 : Nat) : Int) + 32) = ((x + 33 : Nat) : Int) ∧ Go.RowKit.wrap64 (34 + ((x : Nat) : Int)) = ((x + 34 : Nat) : Int) ∧ Go.RowKit.wrap64 (((x + 1 : Nat) : Int) + 33) = ((x + 34 : Nat) : Int) ∧ Go.RowKit.wrap64 (33 + ((x : Nat) : Int)) = ((x + 33 : Nat) : Int) ∧ Go.RowKit.wrap64 (((i : Nat) : Int) + 1) = ((i + 1 : Nat) : Int) := ⟨wnat (by omega) (by omega), wnat (by omega) (by omega), wnat (by omega) (by omega), wnat (by omega) (by omega), wnat (by omega) (by omega), wnat (by omega) (by omega)⟩
                          
                          refine seq_k fun N59 M59 hN59 hM59 => ?_
                          refine region_k fun K60 hK60 => ?_
                          simp only [go_sem, hz, hg0, hn, h81, hlt, hone, Int.toNat_zero, decide_false, decide_true, hil, hw1, hw2, hw3, hw4, hs1, hx, Int.toNat_natCast, Int.toNat_zero, decide_true, decide_false, hg0, hz, hlt, hg1, hsh, hmin, hmin2, hc1, hc2, hc3, hc4, hc5, hc6, hc7, List.length_drop, List.length_take, hgt, hpl, hcap]
                          all_goals repeat' (first | apply And.intro | intro _)
                          all_goals
                            refine hK60 _ ?_
                            refine hN59 _ ?_
                            refine seq_k fun N61 M61 hN61 hM61 => ?_
                            refine cond_k rfl (fun hc => ?_) (fun hc => ?_)
                            · try simp only [go_sem, hz, hg0, hn, h81, hlt, hone, Int.toNat_zero, decide_false, decide_true, hil, hw1, hw2, hw3, hw4, hs1, hx, Int.toNat_natCast, Int.toNat_zero, decide_true, decide_false, hg0, hz, hlt, hg1, hsh, hmin, hmin2, hc1, hc2, hc3, hc4, hc5, hc6, hc7, List.length_drop, List.length_take, hgt, hpl, hcap] at hc
                              all_goals
                                refine skip_k ?_
                                refine hN61 _ ?_
                                refine seq_k fun N62 M62 hN62 hM62 => ?_
                                refine block_k fun B63 bn63 bx63 br63 bi63 => ?_
                                refine seq_k fun N64 M64 hN64 hM64 => ?_
                                refine seq_k fun N65 M65 hN65 hM65 => ?_
                                refine region_k fun K66 hK66 => ?_
                                simp only [go_sem, hz, hg0, hn, h81, hlt, hone, Int.toNat_zero, decide_false, decide_true, hil, hw1, hw2, hw3, hw4, hs1, hx, Int.toNat_natCast, Int.toNat_zero, decide_true, decide_false, hg0, hz, hlt, hg1, hsh, hmin, hmin2, hc1, hc2, hc3, hc4, hc5, hc6, hc7, List.length_drop, List.length_take, hgt, hpl, hcap]
                                all_goals repeat' (first | apply And.intro | intro _)
                                all_goals
                                  refine hK66 _ ?_
                                  refine hN65 _ ?_
                                  refine cond_k rfl (fun hc => ?_) (fun hc => ?_)
                                  · exfalso; revert hc; simp [go_sem, hz, hg0, hn, h81, hlt, hone, Int.toNat_zero, decide_false, decide_true, hil, hw1, hw2, hw3, hw4, hs1, hx, Int.toNat_natCast, Int.toNat_zero, decide_true, decide_false, hg0, hz, hlt, hg1, hsh, hmin, hmin2, hc1, hc2, hc3, hc4, hc5, hc6, hc7, List.length_drop, List.length_take, hgt, hpl, hcap]
                                  · try simp only [go_sem, hz, hg0, hn, h81, hlt, hone, Int.toNat_zero, decide_false, decide_true, hil, hw1, hw2, hw3, hw4, hs1, hx, Int.toNat_natCast, Int.toNat_zero, decide_true, decide_false, hg0, hz, hlt, hg1, hsh, hmin, hmin2, hc1, hc2, hc3, hc4, hc5, hc6, hc7, List.length_drop, List.length_take, hgt, hpl, hcap] at hc
                                    all_goals
                                      refine skip_k ?_
                                      refine hN64 _ ?_
                                      refine seq_k fun N67 M67 hN67 hM67 => ?_
                                      refine region_k fun K68 hK68 => ?_
                                      simp only [go_sem, hz, hg0, hn, h81, hlt, hone, Int.toNat_zero, decide_false, decide_true, hil, hw1, hw2, hw3, hw4, hs1, hx, Int.toNat_natCast, Int.toNat_zero, decide_true, decide_false, hg0, hz, hlt, hg1, hsh, hmin, hmin2, hc1, hc2, hc3, hc4, hc5, hc6, hc7, List.length_drop, List.length_take, hgt, hpl, hcap]
                                      all_goals repeat' (first | apply And.intro | intro _)
                                      all_goals
                                        refine hK68 _ ?_
                                        refine hN67 _ ?_
                                        refine seq_k fun N69 M69 hN69 hM69 => ?_
                                        refine draw_k [41, 42, 43, 44, 45, 46, 47, 48, 49, 50, 51, 7] [0, 0, 3, 7, 0, 0, 32, 112, 240, 496, 1023, 0, 4095] [] mixed (by kernel_rfl) (by simp only [go_sem]) fun K70 hK70 => ?_
                                        simp only [go_sem, hz, hg0, hn, h81, hlt, hone, Int.toNat_zero, decide_false, decide_true, hil, hw1, hw2, hw3, hw4, hs1, hx, Int.toNat_natCast, Int.toNat_zero, decide_true, decide_false, hg0, hz, hlt, hg1, hsh, hmin, hmin2, hc1, hc2, hc3, hc4, hc5, hc6, hc7, List.length_drop, List.length_take, hgt, hpl, hcap]
                                        all_goals repeat' (first | apply And.intro | intro _)
                                        all_goals
                                          refine hK70 _ _ ?_ ?_
                                          · first | trivial | (simp only [go_sem]; done) | (simp only [go_sem]; simp; done) | (simp only [go_sem]; simp; simp only [go_sem])
                                          refine hN69 _ ?_
                                          refine seq_k fun N71 M71 hN71 hM71 => ?_
                                          refine draw_k [52, 53, 54, 55, 56, 57] [0, 1, 0, 0, 12, 31] [] mixed (by kernel_rfl) (by simp only [go_sem]) fun K72 hK72 => ?_
                                          simp only [go_sem, hz, hg0, hn, h81, hlt, hone, Int.toNat_zero, decide_false, decide_true, hil, hw1, hw2, hw3, hw4, hs1, hx, Int.toNat_natCast, Int.toNat_zero, decide_true, decide_false, hg0, hz, hlt, hg1, hsh, hmin, hmin2, hc1, hc2, hc3, hc4, hc5, hc6, hc7, List.length_drop, List.length_take, hgt, hpl, hcap]
                                          all_goals repeat' (first | apply And.intro | intro _)
                                          all_goals
                                            refine hK72 _ _ ?_ ?_
                                            · first | trivial | (simp only [go_sem]; done) | (simp only [go_sem]; simp; done) | (simp only [go_sem]; simp; simp only [go_sem])
                                            refine hN71 _ ?_
                                            refine seq_k fun N73 M73 hN73 hM73 => ?_
                                            refine seq_k fun N74 M74 hN74 hM74 => ?_
                                            refine region_k fun K75 hK75 => ?_
                                            simp only [go_sem, hz, hg0, hn, h81, hlt, hone, Int.toNat_zero, decide_false, decide_true, hil, hw1, hw2, hw3, hw4, hs1, hx, Int.toNat_natCast, Int.toNat_zero, decide_true, decide_false, hg0, hz, hlt, hg1, hsh, hmin, hmin2, hc1, hc2, hc3, hc4, hc5, hc6, hc7, List.length_drop, List.length_take, hgt, hpl, hcap]
                                            all_goals repeat' (first | apply And.intro | intro _)
                                            all_goals
                                              refine hK75 _ ?_
                                              refine hN74 _ ?_
                                              refine cond_k rfl (fun hc => ?_) (fun hc => ?_)
                                              · try simp only [go_sem, hz, hg0, hn, h81, hlt, hone, Int.toNat_zero, decide_false, decide_true, hil, hw1, hw2, hw3, hw4, hs1, hx, Int.toNat_natCast, Int.toNat_zero, decide_true, decide_false, hg0, hz, hlt, hg1, hsh, hmin, hmin2, hc1, hc2, hc3, hc4, hc5, hc6, hc7, List.length_drop, List.length_take, hgt, hpl, hcap] at hc
                                                all_goals
                                                  refine seq_k fun N76 M76 hN76 hM76 => ?_
                                                  refine region_k fun K77 hK77 => ?_
                                                  simp only [go_sem, hz, hg0, hn, h81, hlt, hone, Int.toNat_zero, decide_false, decide_true, hil, hw1, hw2, hw3, hw4, hs1, hx, Int.toNat_natCast, Int.toNat_zero, decide_true, decide_false, hg0, hz, hlt, hg1, hsh, hmin, hmin2, hc1, hc2, hc3, hc4, hc5, hc6, hc7, List.length_drop, List.length_take, hgt, hpl, hcap]
                                                  all_goals repeat' (first | apply And.intro | intro _)
                                                  all_goals
                                                    refine hK77 _ ?_
                                                    refine hN76 _ ?_
                                                    refine ret_k ?_
                                                    refine hM73 _ _ ?_
                                                    refine br63 _ ?_
                                                    refine hM62 _ _ ?_
                                                    refine hM19 _ _ ?_
                                                    refine br18 _ ?_
                                                    refine hM15 _ _ ?_
                                                    simp only [go_sem, hz, hg0, hn, h81, hlt, hone, Int.toNat_zero, decide_false, decide_true, hil, hw1, hw2, hw3, hw4, hs1, hx, Int.toNat_natCast, Int.toNat_zero, decide_true, decide_false, hg0, hz, hlt, hg1, hsh, hmin, hmin2, hc1, hc2, hc3, hc4, hc5, hc6, hc7, List.length_drop, List.length_take, hgt, hpl, hcap]
                                                    all_goals (exact bad_end h0 h8 hpn0 hfe)
                                              · exfalso; revert hc; simp [go_sem, hz, hg0, hn, h81, hlt, hone, Int.toNat_zero, decide_false, decide_true, hil, hw1, hw2, hw3, hw4, hs1, hx, Int.toNat_natCast, Int.toNat_zero, decide_true, decide_false, hg0, hz, hlt, hg1, hsh, hmin, hmin2, hc1, hc2, hc3, hc4, hc5, hc6, hc7, List.length_drop, List.length_take, hgt, hpl, hcap]
                            · exfalso; revert hc; simp [go_sem, hz, hg0, hn, h81, hlt, hone, Int.toNat_zero, decide_false, decide_true, hil, hw1, hw2, hw3, hw4, hs1, hx, Int.toNat_natCast, Int.toNat_zero, decide_true, decide_false, hg0, hz, hlt, hg1, hsh, hmin, hmin2, hc1, hc2, hc3, hc4, hc5, hc6, hc7, List.length_drop, List.length_take, hgt, hpl, hcap]
                        · have hnx := dinv_next hv hlt0 hle (fault_none hle hgt)
                          simp only [outV_nil, outM_nil, List.cons_append, List.nil_append]
                          obtain ⟨b0, hb0⟩ : ∃ b, bt.getD 0 0 = b := ⟨_, rfl⟩
                          obtain ⟨x, hx⟩ : ∃ x, b0.toNat = x := ⟨_, rfl⟩
                          have hpn : pn bt = x := by rw [pn, hb0, hx]
                          have hx255 : x ≤ 255 := hpn ▸ pn_le bt
                          try rw [hpn] at hle
                          try rw [hpn] at hgt
                          have hil : ((i : Nat) : Int) < ((n : Nat) : Int) := by omega
                          rw [hpn] at hnx
                          have hg0 : (byteRows bt).getD 0 [] = [.u8 b0] := by rw [byteRows_get (by omega), hb0]
                          have hz : ¬ ((bt.length : Nat) : Int) = 0 := by omega
                          have hlt : (0 : Int) < ((bt.length : Nat) : Int) := by omega
                          have hg1 : (byteRows bt).getD (x + 33) [] = [.u8 (bt.getD (x + 33) 0)] := by rw [byteRows_get (by omega)]
                          have hsh : ¬ ((bt.length : Nat) : Int) < ((x + 34 : Nat) : Int) := by omega
                          have hmin : min (bt.length - (x + 1)) 32 = 32 := by omega
                          have hmin2 : min 32 (bt.length - (x + 1)) = 32 := by omega
                          have hc1 : (1 : Int) ≤ ((x + 1 : Nat) : Int) := by omega
                          have hc2 : ((x + 1 : Nat) : Int) ≤ ((bt.length : Nat) : Int) := by omega
                          have hc3 : (0 : Int) ≤ ((x + 33 : Nat) : Int) := by omega
                          have hc4 : ((x + 33 : Nat) : Int) < ((bt.length : Nat) : Int) := by omega
                          have hc5 : (0 : Int) ≤ ((x + 34 : Nat) : Int) := by omega
                          have hc6 : ((x + 34 : Nat) : Int) ≤ ((bt.length : Nat) : Int) := by omega
                          have hc7 : (0 : Int) ≤ ((x + 1 : Nat) : Int) := by omega
                          have hpo : pinOf bt = ⟨(bt.drop 1).take x, (bt.drop (x + 1)).take 32, decide (bt.getD (x + 33) 0 = 1)⟩ := by rw [pinOf, hpn]
                          obtain ⟨hw1, hw2, hw3, hw4, hw5, hs1⟩ : Go.RowKit.wrap64 (1 + ((x : Nat) : Int)) = ((x + 1 : Nat) : Int) ∧ Go.RowKit.wrap64 (((x + 1 : Nat) : Int) + 32) = ((x + 33 : Nat) : Int) ∧ Go.RowKit.wrap64 (34 + ((x : Nat) : Int)) = ((x + 34 : Nat) : Int) ∧ Go.RowKit.wrap64 (((x + 1 : Nat) : Int) + 33) = ((x + 34 : Nat) : Int) ∧ Go.RowKit.wrap64 (33 + ((x : Nat) : Int)) = ((x + 33 : Nat) : Int) ∧ Go.RowKit.wrap64 (((i : Nat) : Int) + 1) = ((i + 1 : Nat) : Int) := ⟨wnat (by omega) (by omega), wnat (by omega) (by omega), wnat (by omega) (by omega), wnat (by omega) (by omega), wnat (by omega) (by omega), wnat (by omega) (by omega)⟩
                          
                          refine seq_k fun N78 M78 hN78 hM78 => ?_
                          refine region_k fun K79 hK79 => ?_
                          simp only [go_sem, hz, hg0, hn, h81, hlt, hone, Int.toNat_zero, decide_false, decide_true, hil, hw1, hw2, hw3, hw4, hs1, hx, Int.toNat_natCast, Int.toNat_zero, decide_true, decide_false, hg0, hz, hlt, hg1, hsh, hmin, hmin2, hc1, hc2, hc3, hc4, hc5, hc6, hc7, List.length_drop, List.length_take, hgt]
                          all_goals repeat' (first | apply And.intro | intro _)
                          all_goals
                            refine hK79 _ ?_
                            refine hN78 _ ?_
                            refine seq_k fun N80 M80 hN80 hM80 => ?_
                            refine cond_k rfl (fun hc => ?_) (fun hc => ?_)
                            · try simp only [go_sem, hz, hg0, hn, h81, hlt, hone, Int.toNat_zero, decide_false, decide_true, hil, hw1, hw2, hw3, hw4, hs1, hx, Int.toNat_natCast, Int.toNat_zero, decide_true, decide_false, hg0, hz, hlt, hg1, hsh, hmin, hmin2, hc1, hc2, hc3, hc4, hc5, hc6, hc7, List.length_drop, List.length_take, hgt] at hc
                              all_goals
                                refine skip_k ?_
                                refine hN80 _ ?_
                                refine seq_k fun N81 M81 hN81 hM81 => ?_
                                refine block_k fun B82 bn82 bx82 br82 bi82 => ?_
                                refine seq_k fun N83 M83 hN83 hM83 => ?_
                                refine seq_k fun N84 M84 hN84 hM84 => ?_
                                refine region_k fun K85 hK85 => ?_
                                simp only [go_sem, hz, hg0, hn, h81, hlt, hone, Int.toNat_zero, decide_false, decide_true, hil, hw1, hw2, hw3, hw4, hs1, hx, Int.toNat_natCast, Int.toNat_zero, decide_true, decide_false, hg0, hz, hlt, hg1, hsh, hmin, hmin2, hc1, hc2, hc3, hc4, hc5, hc6, hc7, List.length_drop, List.length_take, hgt]
                                all_goals repeat' (first | apply And.intro | intro _)
                                all_goals
                                  refine hK85 _ ?_
                                  refine hN84 _ ?_
                                  refine cond_k rfl (fun hc => ?_) (fun hc => ?_)
                                  · exfalso; revert hc; simp [go_sem, hz, hg0, hn, h81, hlt, hone, Int.toNat_zero, decide_false, decide_true, hil, hw1, hw2, hw3, hw4, hs1, hx, Int.toNat_natCast, Int.toNat_zero, decide_true, decide_false, hg0, hz, hlt, hg1, hsh, hmin, hmin2, hc1, hc2, hc3, hc4, hc5, hc6, hc7, List.length_drop, List.length_take, hgt]
                                  · try simp only [go_sem, hz, hg0, hn, h81, hlt, hone, Int.toNat_zero, decide_false, decide_true, hil, hw1, hw2, hw3, hw4, hs1, hx, Int.toNat_natCast, Int.toNat_zero, decide_true, decide_false, hg0, hz, hlt, hg1, hsh, hmin, hmin2, hc1, hc2, hc3, hc4, hc5, hc6, hc7, List.length_drop, List.length_take, hgt] at hc
                                    all_goals
                                      refine skip_k ?_
                                      refine hN83 _ ?_
                                      refine seq_k fun N86 M86 hN86 hM86 => ?_
                                      refine region_k fun K87 hK87 => ?_
                                      simp only [go_sem, hz, hg0, hn, h81, hlt, hone, Int.toNat_zero, decide_false, decide_true, hil, hw1, hw2, hw3, hw4, hs1, hx, Int.toNat_natCast, Int.toNat_zero, decide_true, decide_false, hg0, hz, hlt, hg1, hsh, hmin, hmin2, hc1, hc2, hc3, hc4, hc5, hc6, hc7, List.length_drop, List.length_take, hgt]
                                      all_goals repeat' (first | apply And.intro | intro _)
                                      all_goals
                                        refine hK87 _ ?_
                                        refine hN86 _ ?_
                                        refine seq_k fun N88 M88 hN88 hM88 => ?_
                                        refine draw_k [41, 42, 43, 44, 45, 46, 47, 48, 49, 50, 51, 7] [0, 0, 3, 7, 0, 0, 32, 112, 240, 496, 1023, 0, 4095] [] mixed (by kernel_rfl) (by simp only [go_sem]) fun K89 hK89 => ?_
                                        simp only [go_sem, hz, hg0, hn, h81, hlt, hone, Int.toNat_zero, decide_false, decide_true, hil, hw1, hw2, hw3, hw4, hs1, hx, Int.toNat_natCast, Int.toNat_zero, decide_true, decide_false, hg0, hz, hlt, hg1, hsh, hmin, hmin2, hc1, hc2, hc3, hc4, hc5, hc6, hc7, List.length_drop, List.length_take, hgt]
                                        all_goals repeat' (first | apply And.intro | intro _)
                                        all_goals
                                          refine hK89 _ _ ?_ ?_
                                          · first | trivial | (simp only [go_sem]; done) | (simp only [go_sem]; simp; done) | (simp only [go_sem]; simp; simp only [go_sem])
                                          refine hN88 _ ?_
                                          refine seq_k fun N90 M90 hN90 hM90 => ?_
                                          refine draw_k [52, 53, 54, 55, 56, 57] [0, 1, 0, 0, 12, 31] [] mixed (by kernel_rfl) (by simp only [go_sem]) fun K91 hK91 => ?_
                                          simp only [go_sem, hz, hg0, hn, h81, hlt, hone, Int.toNat_zero, decide_false, decide_true, hil, hw1, hw2, hw3, hw4, hs1, hx, Int.toNat_natCast, Int.toNat_zero, decide_true, decide_false, hg0, hz, hlt, hg1, hsh, hmin, hmin2, hc1, hc2, hc3, hc4, hc5, hc6, hc7, List.length_drop, List.length_take, hgt]
                                          all_goals repeat' (first | apply And.intro | intro _)
                                          all_goals
                                            refine hK91 _ _ ?_ ?_
                                            · first | trivial | (simp only [go_sem]; done) | (simp only [go_sem]; simp; done) | (simp only [go_sem]; simp; simp only [go_sem])
                                            refine hN90 _ ?_
                                            refine seq_k fun N92 M92 hN92 hM92 => ?_
                                            refine seq_k fun N93 M93 hN93 hM93 => ?_
                                            refine region_k fun K94 hK94 => ?_
                                            simp only [go_sem, hz, hg0, hn, h81, hlt, hone, Int.toNat_zero, decide_false, decide_true, hil, hw1, hw2, hw3, hw4, hs1, hx, Int.toNat_natCast, Int.toNat_zero, decide_true, decide_false, hg0, hz, hlt, hg1, hsh, hmin, hmin2, hc1, hc2, hc3, hc4, hc5, hc6, hc7, List.length_drop, List.length_take, hgt]
                                            all_goals repeat' (first | apply And.intro | intro _)
                                            all_goals
                                              refine hK94 _ ?_
                                              refine hN93 _ ?_
                                              refine cond_k rfl (fun hc => ?_) (fun hc => ?_)
                                              · exfalso; revert hc; simp [go_sem, hz, hg0, hn, h81, hlt, hone, Int.toNat_zero, decide_false, decide_true, hil, hw1, hw2, hw3, hw4, hs1, hx, Int.toNat_natCast, Int.toNat_zero, decide_true, decide_false, hg0, hz, hlt, hg1, hsh, hmin, hmin2, hc1, hc2, hc3, hc4, hc5, hc6, hc7, List.length_drop, List.length_take, hgt]
                                              · try simp only [go_sem, hz, hg0, hn, h81, hlt, hone, Int.toNat_zero, decide_false, decide_true, hil, hw1, hw2, hw3, hw4, hs1, hx, Int.toNat_natCast, Int.toNat_zero, decide_true, decide_false, hg0, hz, hlt, hg1, hsh, hmin, hmin2, hc1, hc2, hc3, hc4, hc5, hc6, hc7, List.length_drop, List.length_take, hgt] at hc
                                                all_goals
                                                  refine skip_k ?_
                                                  refine hN92 _ ?_
                                                  refine seq_k fun N95 M95 hN95 hM95 => ?_
                                                  refine region_k fun K96 hK96 => ?_
                                                  simp only [go_sem, hz, hg0, hn, h81, hlt, hone, Int.toNat_zero, decide_false, decide_true, hil, hw1, hw2, hw3, hw4, hs1, hx, Int.toNat_natCast, Int.toNat_zero, decide_true, decide_false, hg0, hz, hlt, hg1, hsh, hmin, hmin2, hc1, hc2, hc3, hc4, hc5, hc6, hc7, List.length_drop, List.length_take, hgt]
                                                  all_goals repeat' (first | apply And.intro | intro _)
                                                  all_goals
                                                    refine hK96 _ ?_
                                                    refine hN95 _ ?_
                                                    refine region_k fun K97 hK97 => ?_
                                                    simp only [go_sem, hz, hg0, hn, h81, hlt, hone, Int.toNat_zero, decide_false, decide_true, hil, hw1, hw2, hw3, hw4, hs1, hx, Int.toNat_natCast, Int.toNat_zero, decide_true, decide_false, hg0, hz, hlt, hg1, hsh, hmin, hmin2, hc1, hc2, hc3, hc4, hc5, hc6, hc7, List.length_drop, List.length_take, hgt]
                                                    all_goals repeat' (first | apply And.intro | intro _)
                                                    all_goals
                                                      refine hK97 _ ?_
                                                      refine bn82 _ ?_
                                                      refine hN81 _ ?_
                                                      refine region_k fun K98 hK98 => ?_
                                                      simp only [go_sem, hz, hg0, hn, h81, hlt, hone, Int.toNat_zero, decide_false, decide_true, hil, hw1, hw2, hw3, hw4, hs1, hx, Int.toNat_natCast, Int.toNat_zero, decide_true, decide_false, hg0, hz, hlt, hg1, hsh, hmin, hmin2, hc1, hc2, hc3, hc4, hc5, hc6, hc7, List.length_drop, List.length_take, hgt]
                                                      all_goals repeat' (first | apply And.intro | intro _)
                                                      all_goals
                                                        refine hK98 _ ?_
                                                        refine hN19 ⟨(i + 1, [] ++ [pinOf bt], bt.drop (x + 34)), hnx⟩ _ ?_ ?_ ?_
                                                        · (clear hw1 hw2 hw3 hw4 hw5 hs1; dsimp only; omega)
                                                        · (simp only [go_sem, outV_snoc, outV_one, leX, List.cons_append, List.nil_append]; try simp)
                                                        · (simp only [outM_snoc, pinsC_snoc, hpo, go_sem, leX, List.cons_append, List.nil_append]; try simp [outM_one, pinsC_one, pls, leX, look])
                            · exfalso; revert hc; simp [go_sem, hz, hg0, hn, h81, hlt, hone, Int.toNat_zero, decide_false, decide_true, hil, hw1, hw2, hw3, hw4, hs1, hx, Int.toNat_natCast, Int.toNat_zero, decide_true, decide_false, hg0, hz, hlt, hg1, hsh, hmin, hmin2, hc1, hc2, hc3, hc4, hc5, hc6, hc7, List.length_drop, List.length_take, hgt]
                        · have hnx := dinv_next hv hlt0 hle (fault_none hle hgt)
                          simp only [outV_of _ hl0, outM_of _ hl0, List.cons_append, List.nil_append]
                          have hok := hv.2.2.1
                          have hpl := pinsC_length hok
                          have hli : l.length = i := hv.2.2.2.1
                          have hcap : (l.length + 1) * 56 ≤ 140737488355328 := by omega
                          obtain ⟨b0, hb0⟩ : ∃ b, bt.getD 0 0 = b := ⟨_, rfl⟩
                          obtain ⟨x, hx⟩ : ∃ x, b0.toNat = x := ⟨_, rfl⟩
                          have hpn : pn bt = x := by rw [pn, hb0, hx]
                          have hx255 : x ≤ 255 := hpn ▸ pn_le bt
                          try rw [hpn] at hle
                          try rw [hpn] at hgt
                          have hil : ((i : Nat) : Int) < ((n : Nat) : Int) := by omega
                          rw [hpn] at hnx
                          have hg0 : (byteRows bt).getD 0 [] = [.u8 b0] := by rw [byteRows_get (by omega), hb0]
                          have hz : ¬ ((bt.length : Nat) : Int) = 0 := by omega
                          have hlt : (0 : Int) < ((bt.length : Nat) : Int) := by omega
                          have hg1 : (byteRows bt).getD (x + 33) [] = [.u8 (bt.getD (x + 33) 0)] := by rw [byteRows_get (by omega)]
                          have hsh : ¬ ((bt.length : Nat) : Int) < ((x + 34 : Nat) : Int) := by omega
                          have hmin : min (bt.length - (x + 1)) 32 = 32 := by omega
                          have hmin2 : min 32 (bt.length - (x + 1)) = 32 := by omega
                          have hc1 : (1 : Int) ≤ ((x + 1 : Nat) : Int) := by omega
                          have hc2 : ((x + 1 : Nat) : Int) ≤ ((bt.length : Nat) : Int) := by omega
                          have hc3 : (0 : Int) ≤ ((x + 33 : Nat) : Int) := by omega
                          have hc4 : ((x + 33 : Nat) : Int) < ((bt.length : Nat) : Int) := by omega
                          have hc5 : (0 : Int) ≤ ((x + 34 : Nat) : Int) := by omega
                          have hc6 : ((x + 34 : Nat) : Int) ≤ ((bt.length : Nat) : Int) := by omega
                          have hc7 : (0 : Int) ≤ ((x + 1 : Nat) : Int) := by omega
                          have hpo : pinOf bt = ⟨(bt.drop 1).take x, (bt.drop (x + 1)).take 32, decide (bt.getD (x + 33) 0 = 1)⟩ := by rw [pinOf, hpn]
                          obtain ⟨hw1, hw2, hw3, hw4, hw5, hs1⟩ : Go.RowKit.wrap64 (1 + ((x : Nat) : Int)) = ((x + 1 : Nat) : Int) ∧ Go.RowKit.wrap64 (((x + 1 : Nat) : Int) + 32) = ((x + 33 : Nat) : Int) ∧ Go.RowKit.wrap64 (34 + ((x : Nat) : Int)) = ((x + 34 : Nat) : Int) ∧ Go.RowKit.wrap64 (((x + 1 : Nat) : Int) + 33) = ((x + 34 : Nat) : Int) ∧ Go.RowKit.wrap64 (33 + ((x : Nat) : Int)) = ((x + 33 : Nat) : Int) ∧ Go.RowKit.wrap64 (((i : Nat) : Int) + 1) = ((i + 1 : Nat) : Int) := ⟨wnat (by omega) (by omega), wnat (by omega) (by omega), wnat (by omega) (by omega), wnat (by omega) (by omega), wnat (by omega) (by omega), wnat (by omega) (by omega)⟩
                          
                          refine seq_k fun N99 M99 hN99 hM99 => ?_
                          refine region_k fun K100 hK100 => ?_
                          simp only [go_sem, hz, hg0, hn, h81, hlt, hone, Int.toNat_zero, decide_false, decide_true, hil, hw1, hw2, hw3, hw4, hs1, hx, Int.toNat_natCast, Int.toNat_zero, decide_true, decide_false, hg0, hz, hlt, hg1, hsh, hmin, hmin2, hc1, hc2, hc3, hc4, hc5, hc6, hc7, List.length_drop, List.length_take, hgt, hpl, hcap]
                          all_goals repeat' (first | apply And.intro | intro _)
                          all_goals
                            refine hK100 _ ?_
                            refine hN99 _ ?_
                            refine seq_k fun N101 M101 hN101 hM101 => ?_
                            refine cond_k rfl (fun hc => ?_) (fun hc => ?_)
                            · try simp only [go_sem, hz, hg0, hn, h81, hlt, hone, Int.toNat_zero, decide_false, decide_true, hil, hw1, hw2, hw3, hw4, hs1, hx, Int.toNat_natCast, Int.toNat_zero, decide_true, decide_false, hg0, hz, hlt, hg1, hsh, hmin, hmin2, hc1, hc2, hc3, hc4, hc5, hc6, hc7, List.length_drop, List.length_take, hgt, hpl, hcap] at hc
                              all_goals
                                refine skip_k ?_
                                refine hN101 _ ?_
                                refine seq_k fun N102 M102 hN102 hM102 => ?_
                                refine block_k fun B103 bn103 bx103 br103 bi103 => ?_
                                refine seq_k fun N104 M104 hN104 hM104 => ?_
                                refine seq_k fun N105 M105 hN105 hM105 => ?_
                                refine region_k fun K106 hK106 => ?_
                                simp only [go_sem, hz, hg0, hn, h81, hlt, hone, Int.toNat_zero, decide_false, decide_true, hil, hw1, hw2, hw3, hw4, hs1, hx, Int.toNat_natCast, Int.toNat_zero, decide_true, decide_false, hg0, hz, hlt, hg1, hsh, hmin, hmin2, hc1, hc2, hc3, hc4, hc5, hc6, hc7, List.length_drop, List.length_take, hgt, hpl, hcap]
                                all_goals repeat' (first | apply And.intro | intro _)
                                all_goals
                                  refine hK106 _ ?_
                                  refine hN105 _ ?_
                                  refine cond_k rfl (fun hc => ?_) (fun hc => ?_)
                                  · exfalso; revert hc; simp [go_sem, hz, hg0, hn, h81, hlt, hone, Int.toNat_zero, decide_false, decide_true, hil, hw1, hw2, hw3, hw4, hs1, hx, Int.toNat_natCast, Int.toNat_zero, decide_true, decide_false, hg0, hz, hlt, hg1, hsh, hmin, hmin2, hc1, hc2, hc3, hc4, hc5, hc6, hc7, List.length_drop, List.length_take, hgt, hpl, hcap]
                                  · try simp only [go_sem, hz, hg0, hn, h81, hlt, hone, Int.toNat_zero, decide_false, decide_true, hil, hw1, hw2, hw3, hw4, hs1, hx, Int.toNat_natCast, Int.toNat_zero, decide_true, decide_false, hg0, hz, hlt, hg1, hsh, hmin, hmin2, hc1, hc2, hc3, hc4, hc5, hc6, hc7, List.length_drop, List.length_take, hgt, hpl, hcap] at hc
                                    all_goals
                                      refine skip_k ?_
                                      refine hN104 _ ?_
                                      refine seq_k fun N107 M107 hN107 hM107 => ?_
                                      refine region_k fun K108 hK108 => ?_
                                      simp only [go_sem, hz, hg0, hn, h81, hlt, hone, Int.toNat_zero, decide_false, decide_true, hil, hw1, hw2, hw3, hw4, hs1, hx, Int.toNat_natCast, Int.toNat_zero, decide_true, decide_false, hg0, hz, hlt, hg1, hsh, hmin, hmin2, hc1, hc2, hc3, hc4, hc5, hc6, hc7, List.length_drop, List.length_take, hgt, hpl, hcap]
                                      all_goals repeat' (first | apply And.intro | intro _)
                                      all_goals
                                        refine hK108 _ ?_
                                        refine hN107 _ ?_
                                        refine seq_k fun N109 M109 hN109 hM109 => ?_
                                        refine draw_k [41, 42, 43, 44, 45, 46, 47, 48, 49, 50, 51, 7] [0, 0, 3, 7, 0, 0, 32, 112, 240, 496, 1023, 0, 4095] [] mixed (by kernel_rfl) (by simp only [go_sem]) fun K110 hK110 => ?_
                                        simp only [go_sem, hz, hg0, hn, h81, hlt, hone, Int.toNat_zero, decide_false, decide_true, hil, hw1, hw2, hw3, hw4, hs1, hx, Int.toNat_natCast, Int.toNat_zero, decide_true, decide_false, hg0, hz, hlt, hg1, hsh, hmin, hmin2, hc1, hc2, hc3, hc4, hc5, hc6, hc7, List.length_drop, List.length_take, hgt, hpl, hcap]
                                        all_goals repeat' (first | apply And.intro | intro _)
                                        all_goals
                                          refine hK110 _ _ ?_ ?_
                                          · first | trivial | (simp only [go_sem]; done) | (simp only [go_sem]; simp; done) | (simp only [go_sem]; simp; simp only [go_sem])
                                          refine hN109 _ ?_
                                          refine seq_k fun N111 M111 hN111 hM111 => ?_
                                          refine draw_k [52, 53, 54, 55, 56, 57] [0, 1, 0, 0, 12, 31] [] mixed (by kernel_rfl) (by simp only [go_sem]) fun K112 hK112 => ?_
                                          simp only [go_sem, hz, hg0, hn, h81, hlt, hone, Int.toNat_zero, decide_false, decide_true, hil, hw1, hw2, hw3, hw4, hs1, hx, Int.toNat_natCast, Int.toNat_zero, decide_true, decide_false, hg0, hz, hlt, hg1, hsh, hmin, hmin2, hc1, hc2, hc3, hc4, hc5, hc6, hc7, List.length_drop, List.length_take, hgt, hpl, hcap]
                                          all_goals repeat' (first | apply And.intro | intro _)
                                          all_goals
                                            refine hK112 _ _ ?_ ?_
                                            · first | trivial | (simp only [go_sem]; done) | (simp only [go_sem]; simp; done) | (simp only [go_sem]; simp; simp only [go_sem])
                                            refine hN111 _ ?_
                                            refine seq_k fun N113 M113 hN113 hM113 => ?_
                                            refine seq_k fun N114 M114 hN114 hM114 => ?_
                                            refine region_k fun K115 hK115 => ?_
                                            simp only [go_sem, hz, hg0, hn, h81, hlt, hone, Int.toNat_zero, decide_false, decide_true, hil, hw1, hw2, hw3, hw4, hs1, hx, Int.toNat_natCast, Int.toNat_zero, decide_true, decide_false, hg0, hz, hlt, hg1, hsh, hmin, hmin2, hc1, hc2, hc3, hc4, hc5, hc6, hc7, List.length_drop, List.length_take, hgt, hpl, hcap]
                                            all_goals repeat' (first | apply And.intro | intro _)
                                            all_goals
                                              refine hK115 _ ?_
                                              refine hN114 _ ?_
                                              refine cond_k rfl (fun hc => ?_) (fun hc => ?_)
                                              · exfalso; revert hc; simp [go_sem, hz, hg0, hn, h81, hlt, hone, Int.toNat_zero, decide_false, decide_true, hil, hw1, hw2, hw3, hw4, hs1, hx, Int.toNat_natCast, Int.toNat_zero, decide_true, decide_false, hg0, hz, hlt, hg1, hsh, hmin, hmin2, hc1, hc2, hc3, hc4, hc5, hc6, hc7, List.length_drop, List.length_take, hgt, hpl, hcap]
                                              · try simp only [go_sem, hz, hg0, hn, h81, hlt, hone, Int.toNat_zero, decide_false, decide_true, hil, hw1, hw2, hw3, hw4, hs1, hx, Int.toNat_natCast, Int.toNat_zero, decide_true, decide_false, hg0, hz, hlt, hg1, hsh, hmin, hmin2, hc1, hc2, hc3, hc4, hc5, hc6, hc7, List.length_drop, List.length_take, hgt, hpl, hcap] at hc
                                                all_goals
                                                  refine skip_k ?_
                                                  refine hN113 _ ?_
                                                  refine seq_k fun N116 M116 hN116 hM116 => ?_
                                                  refine region_k fun K117 hK117 => ?_
                                                  simp only [go_sem, hz, hg0, hn, h81, hlt, hone, Int.toNat_zero, decide_false, decide_true, hil, hw1, hw2, hw3, hw4, hs1, hx, Int.toNat_natCast, Int.toNat_zero, decide_true, decide_false, hg0, hz, hlt, hg1, hsh, hmin, hmin2, hc1, hc2, hc3, hc4, hc5, hc6, hc7, List.length_drop, List.length_take, hgt, hpl, hcap]
                                                  all_goals repeat' (first | apply And.intro | intro _)
                                                  all_goals
                                                    refine hK117 _ ?_
                                                    refine hN116 _ ?_
                                                    refine region_k fun K118 hK118 => ?_
                                                    simp only [go_sem, hz, hg0, hn, h81, hlt, hone, Int.toNat_zero, decide_false, decide_true, hil, hw1, hw2, hw3, hw4, hs1, hx, Int.toNat_natCast, Int.toNat_zero, decide_true, decide_false, hg0, hz, hlt, hg1, hsh, hmin, hmin2, hc1, hc2, hc3, hc4, hc5, hc6, hc7, List.length_drop, List.length_take, hgt, hpl, hcap]
                                                    all_goals repeat' (first | apply And.intro | intro _)
                                                    all_goals
                                                      refine hK118 _ ?_
                                                      refine bn103 _ ?_
                                                      refine hN102 _ ?_
                                                      refine region_k fun K119 hK119 => ?_
                                                      simp only [go_sem, hz, hg0, hn, h81, hlt, hone, Int.toNat_zero, decide_false, decide_true, hil, hw1, hw2, hw3, hw4, hs1, hx, Int.toNat_natCast, Int.toNat_zero, decide_true, decide_false, hg0, hz, hlt, hg1, hsh, hmin, hmin2, hc1, hc2, hc3, hc4, hc5, hc6, hc7, List.length_drop, List.length_take, hgt, hpl, hcap]
                                                      all_goals repeat' (first | apply And.intro | intro _)
                                                      all_goals
                                                        refine hK119 _ ?_
                                                        refine hN19 ⟨(i + 1, l ++ [pinOf bt], bt.drop (x + 34)), hnx⟩ _ ?_ ?_ ?_
                                                        · (clear hw1 hw2 hw3 hw4 hw5 hs1; dsimp only; omega)
                                                        · (simp only [go_sem, outV_snoc, outV_one, leX, List.cons_append, List.nil_append]; try simp)
                                                        · (simp only [outM_snoc, pinsC_snoc, hpo, go_sem, leX, List.cons_append, List.nil_append]; try simp [outM_one, pinsC_one, pls, leX, look])
                            · exfalso; revert hc; simp [go_sem, hz, hg0, hn, h81, hlt, hone, Int.toNat_zero, decide_false, decide_true, hil, hw1, hw2, hw3, hw4, hs1, hx, Int.toNat_natCast, Int.toNat_zero, decide_true, decide_false, hg0, hz, hlt, hg1, hsh, hmin, hmin2, hc1, hc2, hc3, hc4, hc5, hc6, hc7, List.length_drop, List.length_take, hgt, hpl, hcap]
                        · have hil : ¬ ((i : Nat) : Int) < ((n : Nat) : Int) := by omega
                          have hend := dinv_end (he ▸ hv)
                          have hlt : (0 : Int) < ((bt.length : Nat) : Int) := by omega
                          refine seq_k fun N120 M120 hN120 hM120 => ?_
                          refine region_k fun K121 hK121 => ?_
                          simp only [go_sem, hz, hg0, hn, h81, hlt, hone, Int.toNat_zero, decide_false, decide_true, hil, hlt, decide_true]
                          all_goals repeat' (first | apply And.intro | intro _)
                          all_goals
                            refine hK121 _ ?_
                            refine hN120 _ ?_
                            refine seq_k fun N122 M122 hN122 hM122 => ?_
                            refine cond_k rfl (fun hc => ?_) (fun hc => ?_)
                            · exfalso; revert hc; simp [go_sem, hz, hg0, hn, h81, hlt, hone, Int.toNat_zero, decide_false, decide_true, hil, hlt, decide_true]
                            · try simp only [go_sem, hz, hg0, hn, h81, hlt, hone, Int.toNat_zero, decide_false, decide_true, hil, hlt, decide_true] at hc
                              all_goals
                                refine exit_k ?_
                                refine hM122 _ _ ?_
                                refine hM19 _ _ ?_
                                refine bx18 _ ?_
                                refine hN15 _ ?_
                                refine seq_k fun N123 M123 hN123 hM123 => ?_
                                refine seq_k fun N124 M124 hN124 hM124 => ?_
                                refine region_k fun K125 hK125 => ?_
                                simp only [go_sem, hz, hg0, hn, h81, hlt, hone, Int.toNat_zero, decide_false, decide_true, hil, hlt, decide_true]
                                all_goals repeat' (first | apply And.intro | intro _)
                                all_goals
                                  refine hK125 _ ?_
                                  refine hN124 _ ?_
                                  refine cond_k rfl (fun hc => ?_) (fun hc => ?_)
                                  · try simp only [go_sem, hz, hg0, hn, h81, hlt, hone, Int.toNat_zero, decide_false, decide_true, hil, hlt, decide_true] at hc
                                    all_goals
                                      refine seq_k fun N126 M126 hN126 hM126 => ?_
                                      refine region_k fun K127 hK127 => ?_
                                      simp only [go_sem, hz, hg0, hn, h81, hlt, hone, Int.toNat_zero, decide_false, decide_true, hil, hlt, decide_true]
                                      all_goals repeat' (first | apply And.intro | intro _)
                                      all_goals
                                        refine hK127 _ ?_
                                        refine hN126 _ ?_
                                        refine ret_k ?_
                                        refine hM123 _ _ ?_
                                        simp only [go_sem, hz, hg0, hn, h81, hlt, hone, Int.toNat_zero, decide_false, decide_true, hil, hlt, decide_true]
                                        all_goals (exact tail_end h0 h8 hpn0 hend hle)
                                  · exfalso; revert hc; simp [go_sem, hz, hg0, hn, h81, hlt, hone, Int.toNat_zero, decide_false, decide_true, hil, hlt, decide_true]
                        · have hil : ¬ ((i : Nat) : Int) < ((n : Nat) : Int) := by omega
                          have hend := dinv_end (he ▸ hv)
                          have hz9 : ¬ (0 : Int) < ((bt.length : Nat) : Int) := by omega
                          simp only [outV_nil, outM_nil, List.cons_append, List.nil_append]
                          have hf0 : pinsFault [] = 0 := rfl
                          refine seq_k fun N128 M128 hN128 hM128 => ?_
                          refine region_k fun K129 hK129 => ?_
                          simp only [go_sem, hz, hg0, hn, h81, hlt, hone, Int.toNat_zero, decide_false, decide_true, hil, hz9, hf0, decide_true, decide_false]
                          all_goals repeat' (first | apply And.intro | intro _)
                          all_goals
                            refine hK129 _ ?_
                            refine hN128 _ ?_
                            refine seq_k fun N130 M130 hN130 hM130 => ?_
                            refine cond_k rfl (fun hc => ?_) (fun hc => ?_)
                            · exfalso; revert hc; simp [go_sem, hz, hg0, hn, h81, hlt, hone, Int.toNat_zero, decide_false, decide_true, hil, hz9, hf0, decide_true, decide_false]
                            · try simp only [go_sem, hz, hg0, hn, h81, hlt, hone, Int.toNat_zero, decide_false, decide_true, hil, hz9, hf0, decide_true, decide_false] at hc
                              all_goals
                                refine exit_k ?_
                                refine hM130 _ _ ?_
                                refine hM19 _ _ ?_
                                refine bx18 _ ?_
                                refine hN15 _ ?_
                                refine seq_k fun N131 M131 hN131 hM131 => ?_
                                refine seq_k fun N132 M132 hN132 hM132 => ?_
                                refine region_k fun K133 hK133 => ?_
                                simp only [go_sem, hz, hg0, hn, h81, hlt, hone, Int.toNat_zero, decide_false, decide_true, hil, hz9, hf0, decide_true, decide_false]
                                all_goals repeat' (first | apply And.intro | intro _)
                                all_goals
                                  refine hK133 _ ?_
                                  refine hN132 _ ?_
                                  refine cond_k rfl (fun hc => ?_) (fun hc => ?_)
                                  · exfalso; revert hc; simp [go_sem, hz, hg0, hn, h81, hlt, hone, Int.toNat_zero, decide_false, decide_true, hil, hz9, hf0, decide_true, decide_false]
                                  · try simp only [go_sem, hz, hg0, hn, h81, hlt, hone, Int.toNat_zero, decide_false, decide_true, hil, hz9, hf0, decide_true, decide_false] at hc
                                    all_goals
                                      refine skip_k ?_
                                      refine hN131 _ ?_
                                      refine seq_k fun N134 M134 hN134 hM134 => ?_
                                      refine seq_k fun N135 M135 hN135 hM135 => ?_
                                      refine region_k fun K136 hK136 => ?_
                                      simp only [go_sem, hz, hg0, hn, h81, hlt, hone, Int.toNat_zero, decide_false, decide_true, hil, hz9, hf0, decide_true, decide_false]
                                      all_goals repeat' (first | apply And.intro | intro _)
                                      all_goals refine call_view (fun k => k) (fun _ _ => rfl) (by first | rfl | (simp only [go_sem, hz, hg0, hn, h81, hlt, hone, Int.toNat_zero, decide_false, decide_true, hil, hz9, hf0, decide_true, decide_false]; rfl) | simp only [go_sem, hz, hg0, hn, h81, hlt, hone, Int.toNat_zero, decide_false, decide_true, hil, hz9, hf0, decide_true, decide_false]) (by first | exact ((pins_check l hok false).plain fun _ _ h => h) | exact (((pins_check [] (fun p hp => by cases hp) true).nil1 (sz := 34) (sz' := 1)).plain fun _ _ h => h)) ?_
                                      all_goals (rintro v m ⟨hR, hm⟩; subst hR; subst hm)
                                      all_goals refine And.intro (by first | rfl | simp only [go_sem]) (And.intro (by first | rfl | simp only [go_sem]) ?_)
                                      all_goals simp only [go_sem, hz, hg0, hn, h81, hlt, hone, Int.toNat_zero, decide_false, decide_true, hil, hz9, hf0, decide_true, decide_false]
                                      all_goals repeat' (first | apply And.intro | intro _)
                                      all_goals
                                        refine hK136 _ ?_
                                        refine hN135 _ ?_
                                        refine seq_k fun N137 M137 hN137 hM137 => ?_
                                        refine region_k fun K138 hK138 => ?_
                                        simp only [go_sem, hz, hg0, hn, h81, hlt, hone, Int.toNat_zero, decide_false, decide_true, hil, hz9, hf0, decide_true, decide_false]
                                        all_goals repeat' (first | apply And.intro | intro _)
                                        all_goals
                                          refine hK138 _ ?_
                                          refine hN137 _ ?_
                                          refine cond_k rfl (fun hc => ?_) (fun hc => ?_)
                                          · exfalso; revert hc; simp [go_sem, hz, hg0, hn, h81, hlt, hone, Int.toNat_zero, decide_false, decide_true, hil, hz9, hf0, decide_true, decide_false]
                                          · try simp only [go_sem, hz, hg0, hn, h81, hlt, hone, Int.toNat_zero, decide_false, decide_true, hil, hz9, hf0, decide_true, decide_false] at hc
                                            all_goals
                                              refine skip_k ?_
                                              refine hN134 _ ?_
                                              refine seq_k fun N139 M139 hN139 hM139 => ?_
                                              refine region_k fun K140 hK140 => ?_
                                              simp only [go_sem, hz, hg0, hn, h81, hlt, hone, Int.toNat_zero, decide_false, decide_true, hil, hz9, hf0, decide_true, decide_false]
                                              all_goals repeat' (first | apply And.intro | intro _)
                                              all_goals
                                                refine hK140 _ ?_
                                                refine hN139 _ ?_
                                                refine ret_k ?_
                                                simp only [go_sem, hz, hg0, hn, h81, hlt, hone, Int.toNat_zero, decide_false, decide_true, hil, hz9, hf0, decide_true, decide_false]
                                                all_goals (exact good_nil h0 h8 hpn0 hend hle)
                        · have hil : ¬ ((i : Nat) : Int) < ((n : Nat) : Int) := by omega
                          have hend := dinv_end (he ▸ hv)
                          have hz9 : ¬ (0 : Int) < ((bt.length : Nat) : Int) := by omega
                          simp only [outV_of _ hl0, outM_of _ hl0, List.cons_append, List.nil_append]
                          have hok := hv.2.2.1
                          have hpl := pinsC_length hok
                          have hli : l.length = i := hv.2.2.2.1
                          have hcap : (l.length + 1) * 56 ≤ 140737488355328 := by omega
                          have hch := pins_chunks hok
                          have hml := rowsL (l := l)
                          
                          refine seq_k fun N141 M141 hN141 hM141 => ?_
                          refine region_k fun K142 hK142 => ?_
                          simp only [go_sem, hz, hg0, hn, h81, hlt, hone, Int.toNat_zero, decide_false, decide_true, hil, hz9, hf, hpl, hch, decide_true, decide_false]
                          all_goals repeat' (first | apply And.intro | intro _)
                          all_goals
                            refine hK142 _ ?_
                            refine hN141 _ ?_
                            refine seq_k fun N143 M143 hN143 hM143 => ?_
                            refine cond_k rfl (fun hc => ?_) (fun hc => ?_)
                            · exfalso; revert hc; simp [go_sem, hz, hg0, hn, h81, hlt, hone, Int.toNat_zero, decide_false, decide_true, hil, hz9, hf, hpl, hch, decide_true, decide_false]
                            · try simp only [go_sem, hz, hg0, hn, h81, hlt, hone, Int.toNat_zero, decide_false, decide_true, hil, hz9, hf, hpl, hch, decide_true, decide_false] at hc
                              all_goals
                                refine exit_k ?_
                                refine hM143 _ _ ?_
                                refine hM19 _ _ ?_
                                refine bx18 _ ?_
                                refine hN15 _ ?_
                                refine seq_k fun N144 M144 hN144 hM144 => ?_
                                refine seq_k fun N145 M145 hN145 hM145 => ?_
                                refine region_k fun K146 hK146 => ?_
                                simp only [go_sem, hz, hg0, hn, h81, hlt, hone, Int.toNat_zero, decide_false, decide_true, hil, hz9, hf, hpl, hch, decide_true, decide_false]
                                all_goals repeat' (first | apply And.intro | intro _)
                                all_goals
                                  refine hK146 _ ?_
                                  refine hN145 _ ?_
                                  refine cond_k rfl (fun hc => ?_) (fun hc => ?_)
                                  · exfalso; revert hc; simp [go_sem, hz, hg0, hn, h81, hlt, hone, Int.toNat_zero, decide_false, decide_true, hil, hz9, hf, hpl, hch, decide_true, decide_false]
                                  · try simp only [go_sem, hz, hg0, hn, h81, hlt, hone, Int.toNat_zero, decide_false, decide_true, hil, hz9, hf, hpl, hch, decide_true, decide_false] at hc
                                    all_goals
                                      refine skip_k ?_
                                      refine hN144 _ ?_
                                      refine seq_k fun N147 M147 hN147 hM147 => ?_
                                      refine seq_k fun N148 M148 hN148 hM148 => ?_
                                      refine region_k fun K149 hK149 => ?_
                                      simp only [go_sem, hz, hg0, hn, h81, hlt, hone, Int.toNat_zero, decide_false, decide_true, hil, hz9, hf, hpl, hch, decide_true, decide_false]
                                      all_goals repeat' (first | apply And.intro | intro _)
                                      all_goals refine call_view (fun k => k) (fun _ _ => rfl) (by first | rfl | (simp only [go_sem, hz, hg0, hn, h81, hlt, hone, Int.toNat_zero, decide_false, decide_true, hil, hz9, hf, hpl, hch, decide_true, decide_false]; rfl) | simp only [go_sem, hz, hg0, hn, h81, hlt, hone, Int.toNat_zero, decide_false, decide_true, hil, hz9, hf, hpl, hch, decide_true, decide_false]) (by first | exact ((pins_check l hok false).plain fun _ _ h => h) | exact (((pins_check [] (fun p hp => by cases hp) true).nil1 (sz := 34) (sz' := 1)).plain fun _ _ h => h)) ?_
                                      all_goals (rintro v m ⟨hR, hm⟩; subst hR; subst hm)
                                      all_goals refine And.intro (by first | rfl | simp only [go_sem]) (And.intro (by first | rfl | simp only [go_sem]) ?_)
                                      all_goals simp only [go_sem, hz, hg0, hn, h81, hlt, hone, Int.toNat_zero, decide_false, decide_true, hil, hz9, hf, hpl, hch, decide_true, decide_false]
                                      all_goals repeat' (first | apply And.intro | intro _)
                                      all_goals
                                        refine hK149 _ ?_
                                        refine hN148 _ ?_
                                        refine seq_k fun N150 M150 hN150 hM150 => ?_
                                        refine region_k fun K151 hK151 => ?_
                                        simp only [go_sem, hz, hg0, hn, h81, hlt, hone, Int.toNat_zero, decide_false, decide_true, hil, hz9, hf, hpl, hch, decide_true, decide_false]
                                        all_goals repeat' (first | apply And.intro | intro _)
                                        all_goals
                                          refine hK151 _ ?_
                                          refine hN150 _ ?_
                                          refine cond_k rfl (fun hc => ?_) (fun hc => ?_)
                                          · exfalso; revert hc; simp [go_sem, hz, hg0, hn, h81, hlt, hone, Int.toNat_zero, decide_false, decide_true, hil, hz9, hf, hpl, hch, decide_true, decide_false]
                                          · try simp only [go_sem, hz, hg0, hn, h81, hlt, hone, Int.toNat_zero, decide_false, decide_true, hil, hz9, hf, hpl, hch, decide_true, decide_false] at hc
                                            all_goals
                                              refine skip_k ?_
                                              refine hN147 _ ?_
                                              refine seq_k fun N152 M152 hN152 hM152 => ?_
                                              refine region_k fun K153 hK153 => ?_
                                              simp only [go_sem, hz, hg0, hn, h81, hlt, hone, Int.toNat_zero, decide_false, decide_true, hil, hz9, hf, hpl, hch, decide_true, decide_false]
                                              all_goals repeat' (first | apply And.intro | intro _)
                                              all_goals
                                                refine hK153 _ ?_
                                                refine hN152 _ ?_
                                                refine ret_k ?_
                                                simp only [go_sem, hz, hg0, hn, h81, hlt, hone, Int.toNat_zero, decide_false, decide_true, hil, hz9, hf, hpl, hch, decide_true, decide_false]
                                                all_goals (exact good_end h0 h8 hpn0 hend hle hf hok rfl (by simp [look]))
                        · have hil : ¬ ((i : Nat) : Int) < ((n : Nat) : Int) := by omega
                          have hend := dinv_end (he ▸ hv)
                          have hz9 : ¬ (0 : Int) < ((bt.length : Nat) : Int) := by omega
                          simp only [outV_of _ hl0, outM_of _ hl0, List.cons_append, List.nil_append]
                          have hok := hv.2.2.1
                          have hpl := pinsC_length hok
                          have hli : l.length = i := hv.2.2.2.1
                          have hcap : (l.length + 1) * 56 ≤ 140737488355328 := by omega
                          have hch := pins_chunks hok
                          have hml := rowsL (l := l)
                          
                          refine seq_k fun N154 M154 hN154 hM154 => ?_
                          refine region_k fun K155 hK155 => ?_
                          simp only [go_sem, hz, hg0, hn, h81, hlt, hone, Int.toNat_zero, decide_false, decide_true, hil, hz9, hf, hpl, hch, decide_true, decide_false]
                          all_goals repeat' (first | apply And.intro | intro _)
                          all_goals
                            refine hK155 _ ?_
                            refine hN154 _ ?_
                            refine seq_k fun N156 M156 hN156 hM156 => ?_
                            refine cond_k rfl (fun hc => ?_) (fun hc => ?_)
                            · exfalso; revert hc; simp [go_sem, hz, hg0, hn, h81, hlt, hone, Int.toNat_zero, decide_false, decide_true, hil, hz9, hf, hpl, hch, decide_true, decide_false]
                            · try simp only [go_sem, hz, hg0, hn, h81, hlt, hone, Int.toNat_zero, decide_false, decide_true, hil, hz9, hf, hpl, hch, decide_true, decide_false] at hc
                              all_goals
                                refine exit_k ?_
                                refine hM156 _ _ ?_
                                refine hM19 _ _ ?_
                                refine bx18 _ ?_
                                refine hN15 _ ?_
                                refine seq_k fun N157 M157 hN157 hM157 => ?_
                                refine seq_k fun N158 M158 hN158 hM158 => ?_
                                refine region_k fun K159 hK159 => ?_
                                simp only [go_sem, hz, hg0, hn, h81, hlt, hone, Int.toNat_zero, decide_false, decide_true, hil, hz9, hf, hpl, hch, decide_true, decide_false]
                                all_goals repeat' (first | apply And.intro | intro _)
                                all_goals
                                  refine hK159 _ ?_
                                  refine hN158 _ ?_
                                  refine cond_k rfl (fun hc => ?_) (fun hc => ?_)
                                  · exfalso; revert hc; simp [go_sem, hz, hg0, hn, h81, hlt, hone, Int.toNat_zero, decide_false, decide_true, hil, hz9, hf, hpl, hch, decide_true, decide_false]
                                  · try simp only [go_sem, hz, hg0, hn, h81, hlt, hone, Int.toNat_zero, decide_false, decide_true, hil, hz9, hf, hpl, hch, decide_true, decide_false] at hc
                                    all_goals
                                      refine skip_k ?_
                                      refine hN157 _ ?_
                                      refine seq_k fun N160 M160 hN160 hM160 => ?_
                                      refine seq_k fun N161 M161 hN161 hM161 => ?_
                                      refine region_k fun K162 hK162 => ?_
                                      simp only [go_sem, hz, hg0, hn, h81, hlt, hone, Int.toNat_zero, decide_false, decide_true, hil, hz9, hf, hpl, hch, decide_true, decide_false]
                                      all_goals repeat' (first | apply And.intro | intro _)
                                      all_goals refine call_view (fun k => k) (fun _ _ => rfl) (by first | rfl | (simp only [go_sem, hz, hg0, hn, h81, hlt, hone, Int.toNat_zero, decide_false, decide_true, hil, hz9, hf, hpl, hch, decide_true, decide_false]; rfl) | simp only [go_sem, hz, hg0, hn, h81, hlt, hone, Int.toNat_zero, decide_false, decide_true, hil, hz9, hf, hpl, hch, decide_true, decide_false]) (by first | exact ((pins_check l hok false).plain fun _ _ h => h) | exact (((pins_check [] (fun p hp => by cases hp) true).nil1 (sz := 34) (sz' := 1)).plain fun _ _ h => h)) ?_
                                      all_goals (rintro v m ⟨hR, hm⟩; subst hR; subst hm)
                                      all_goals refine And.intro (by first | rfl | simp only [go_sem]) (And.intro (by first | rfl | simp only [go_sem]) ?_)
                                      all_goals simp only [go_sem, hz, hg0, hn, h81, hlt, hone, Int.toNat_zero, decide_false, decide_true, hil, hz9, hf, hpl, hch, decide_true, decide_false]
                                      all_goals repeat' (first | apply And.intro | intro _)
                                      all_goals
                                        refine hK162 _ ?_
                                        refine hN161 _ ?_
                                        refine seq_k fun N163 M163 hN163 hM163 => ?_
                                        refine region_k fun K164 hK164 => ?_
                                        simp only [go_sem, hz, hg0, hn, h81, hlt, hone, Int.toNat_zero, decide_false, decide_true, hil, hz9, hf, hpl, hch, decide_true, decide_false]
                                        all_goals repeat' (first | apply And.intro | intro _)
                                        all_goals
                                          refine hK164 _ ?_
                                          refine hN163 _ ?_
                                          refine cond_k rfl (fun hc => ?_) (fun hc => ?_)
                                          · try simp only [go_sem, hz, hg0, hn, h81, hlt, hone, Int.toNat_zero, decide_false, decide_true, hil, hz9, hf, hpl, hch, decide_true, decide_false] at hc
                                            all_goals
                                              refine seq_k fun N165 M165 hN165 hM165 => ?_
                                              refine region_k fun K166 hK166 => ?_
                                              simp only [go_sem, hz, hg0, hn, h81, hlt, hone, Int.toNat_zero, decide_false, decide_true, hil, hz9, hf, hpl, hch, decide_true, decide_false]
                                              all_goals repeat' (first | apply And.intro | intro _)
                                              all_goals
                                                refine hK166 _ ?_
                                                refine hN165 _ ?_
                                                refine ret_k ?_
                                                refine hM160 _ _ ?_
                                                simp only [go_sem, hz, hg0, hn, h81, hlt, hone, Int.toNat_zero, decide_false, decide_true, hil, hz9, hf, hpl, hch, decide_true, decide_false]
                                                all_goals (exact fault_end h0 h8 hpn0 hend hle hf)
                                          · exfalso; revert hc; simp [go_sem, hz, hg0, hn, h81, hlt, hone, Int.toNat_zero, decide_false, decide_true, hil, hz9, hf, hpl, hch, decide_true, decide_false]
theorem pins_decode (bs : List UInt8) (hbs : bs.length ≤ 9223372036854775807) (ex : Bool) : Ct Try.prog 27 [.w (.one (.pl (.R ex 1 (byteRows bs))))] (pinsV (decP bs).2 (decP bs).1) := by
  by_cases h0 : 0 < bs.length
  · by_cases h8 : 8 < pn bs
    · have e : decP bs = (1, []) := by unfold decP; rw [if_neg (by omega), if_pos h8]
      rw [e]; exact (pins_decode_big bs hbs ex h0 h8).told
    · exact (pins_decode_loop bs hbs ex h0 h8).told
  · have : bs = [] := List.eq_nil_of_length_eq_zero (by omega)
    subst this
    exact (pins_decode_empty ex).told
end Go.Sy
