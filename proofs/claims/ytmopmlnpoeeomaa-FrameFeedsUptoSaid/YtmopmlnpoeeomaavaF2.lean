/- Walks: a frame that has no body yet, checked; frames, fed. -/
import Derived.Test.YtmopmlnpoeeomaavaF1
set_option linter.unusedVariables false
set_option linter.unusedSimpArgs false
namespace Go.Sy
open Go.Proofs
attribute [local irreducible] atCall HT runOps runD onC onE onO onG goV goA goS onSt onGuard
set_option maxHeartbeats 400000 in
theorem fc_low (k id : Nat) (hid : id ≤ 255) (ex : Bool) (sz : Nat) (h : k < 1) :
    Ct Try.prog 43 [.w (.agg [.pl (.i (k : Int)), .pl (.i (id : Int)), .pl (.R ex sz [])])] (fun v m => v = .w (.one (.pl (.i 2)))) := by
  have h3 : ((k : Nat) : Int) < 1 := by omega
  refine Ct.k Try.func43 rfl Try.ntmps43 (congrArg Array.toList Try.results43) (by simp) fun w0 ro => ?_
  refine seq_k fun N1 M1 hN1 hM1 => ?_
  refine region_k fun K2 hK2 => ?_
  simp only [go_sem, decide_false, decide_true, Bool.not_true, Bool.not_false, h3]
  all_goals repeat' (first | apply And.intro | intro _)
  all_goals
    refine hK2 _ ?_
    refine hN1 _ ?_
    refine seq_k fun N3 M3 hN3 hM3 => ?_
    refine block_k fun B4 bn4 bx4 br4 bi4 => ?_
    refine seq_k fun N5 M5 hN5 hM5 => ?_
    refine region_k fun K6 hK6 => ?_
    simp only [go_sem, decide_false, decide_true, Bool.not_true, Bool.not_false, h3]
    all_goals repeat' (first | apply And.intro | intro _)
    all_goals
      refine hK6 _ ?_
      refine hN5 _ ?_
      refine cond_k rfl (fun hc => ?_) (fun hc => ?_)
      · try simp only [go_sem, decide_false, decide_true, Bool.not_true, Bool.not_false, h3] at hc
        all_goals
          refine seq_k fun N7 M7 hN7 hM7 => ?_
          refine region_k fun K8 hK8 => ?_
          simp only [go_sem, decide_false, decide_true, Bool.not_true, Bool.not_false, h3]
          all_goals repeat' (first | apply And.intro | intro _)
          all_goals
            refine hK8 _ ?_
            refine hN7 _ ?_
            refine ret_k ?_
            refine br4 _ ?_
            refine hM3 _ _ ?_
            simp only [go_sem, decide_false, decide_true, Bool.not_true, Bool.not_false, h3]
            all_goals rfl
      · exfalso; revert hc; simp [go_sem, decide_false, decide_true, Bool.not_true, Bool.not_false, h3]
set_option maxHeartbeats 400000 in
theorem fc_big (k id : Nat) (hid : id ≤ 255) (ex : Bool) (sz : Nat) (h : 5 < k) :
    Ct Try.prog 43 [.w (.agg [.pl (.i (k : Int)), .pl (.i (id : Int)), .pl (.R ex sz [])])] (fun v m => v = .w (.one (.pl (.i 2)))) := by
  have h3 : ¬ ((k : Nat) : Int) < 1 := by omega
  have h4 : (5 : Int) < ((k : Nat) : Int) := by omega
  refine Ct.k Try.func43 rfl Try.ntmps43 (congrArg Array.toList Try.results43) (by simp) fun w0 ro => ?_
  refine seq_k fun N1 M1 hN1 hM1 => ?_
  refine region_k fun K2 hK2 => ?_
  simp only [go_sem, decide_false, decide_true, Bool.not_true, Bool.not_false, h3, h4]
  all_goals repeat' (first | apply And.intro | intro _)
  all_goals
    refine hK2 _ ?_
    refine hN1 _ ?_
    refine seq_k fun N3 M3 hN3 hM3 => ?_
    refine block_k fun B4 bn4 bx4 br4 bi4 => ?_
    refine seq_k fun N5 M5 hN5 hM5 => ?_
    refine region_k fun K6 hK6 => ?_
    simp only [go_sem, decide_false, decide_true, Bool.not_true, Bool.not_false, h3, h4]
    all_goals repeat' (first | apply And.intro | intro _)
    all_goals
      refine hK6 _ ?_
      refine hN5 _ ?_
      refine cond_k rfl (fun hc => ?_) (fun hc => ?_)
      · try simp only [go_sem, decide_false, decide_true, Bool.not_true, Bool.not_false, h3, h4] at hc
        all_goals
          refine seq_k fun N7 M7 hN7 hM7 => ?_
          refine region_k fun K8 hK8 => ?_
          simp only [go_sem, decide_false, decide_true, Bool.not_true, Bool.not_false, h3, h4]
          all_goals repeat' (first | apply And.intro | intro _)
          all_goals
            refine hK8 _ ?_
            refine hN7 _ ?_
            refine ret_k ?_
            refine br4 _ ?_
            refine hM3 _ _ ?_
            simp only [go_sem, decide_false, decide_true, Bool.not_true, Bool.not_false, h3, h4]
            all_goals rfl
      · exfalso; revert hc; simp [go_sem, decide_false, decide_true, Bool.not_true, Bool.not_false, h3, h4]
set_option maxHeartbeats 400000 in
theorem fc_five (k id : Nat) (hid : id ≤ 255) (ex : Bool) (sz : Nat) (h : k = 5) :
    Ct Try.prog 43 [.w (.agg [.pl (.i (k : Int)), .pl (.i (id : Int)), .pl (.R ex sz [])])] (fun v m => v = .w (.one (.pl (.i 0)))) := by
  have h3 : ¬ ((k : Nat) : Int) < 1 := by omega
  have h4 : ¬ (5 : Int) < ((k : Nat) : Int) := by omega
  have h6 : ¬ ((id : Nat) : Int) < 0 := by omega
  have h7 : ¬ (255 : Int) < ((id : Nat) : Int) := by omega
  have h5 : ((k : Nat) : Int) = 5 := by omega
  refine Ct.k Try.func43 rfl Try.ntmps43 (congrArg Array.toList Try.results43) (by simp) fun w0 ro => ?_
  refine seq_k fun N1 M1 hN1 hM1 => ?_
  refine region_k fun K2 hK2 => ?_
  simp only [go_sem, decide_false, decide_true, Bool.not_true, Bool.not_false, h3, h4, h6, h7, h5]
  all_goals repeat' (first | apply And.intro | intro _)
  all_goals
    refine hK2 _ ?_
    refine hN1 _ ?_
    refine seq_k fun N3 M3 hN3 hM3 => ?_
    refine block_k fun B4 bn4 bx4 br4 bi4 => ?_
    refine seq_k fun N5 M5 hN5 hM5 => ?_
    refine region_k fun K6 hK6 => ?_
    simp only [go_sem, decide_false, decide_true, Bool.not_true, Bool.not_false, h3, h4, h6, h7, h5]
    all_goals repeat' (first | apply And.intro | intro _)
    all_goals
      refine hK6 _ ?_
      refine hN5 _ ?_
      refine cond_k rfl (fun hc => ?_) (fun hc => ?_)
      · exfalso; revert hc; simp [go_sem, decide_false, decide_true, Bool.not_true, Bool.not_false, h3, h4, h6, h7, h5]
      · try simp only [go_sem, decide_false, decide_true, Bool.not_true, Bool.not_false, h3, h4, h6, h7, h5] at hc
        all_goals
          refine seq_k fun N7 M7 hN7 hM7 => ?_
          refine region_k fun K8 hK8 => ?_
          simp only [go_sem, decide_false, decide_true, Bool.not_true, Bool.not_false, h3, h4, h6, h7, h5]
          all_goals repeat' (first | apply And.intro | intro _)
          all_goals
            refine hK8 _ ?_
            refine hN7 _ ?_
            refine cond_k rfl (fun hc => ?_) (fun hc => ?_)
            · exfalso; revert hc; simp [go_sem, decide_false, decide_true, Bool.not_true, Bool.not_false, h3, h4, h6, h7, h5]
            · try simp only [go_sem, decide_false, decide_true, Bool.not_true, Bool.not_false, h3, h4, h6, h7, h5] at hc
              all_goals
                refine seq_k fun N9 M9 hN9 hM9 => ?_
                refine region_k fun K10 hK10 => ?_
                simp only [go_sem, decide_false, decide_true, Bool.not_true, Bool.not_false, h3, h4, h6, h7, h5]
                all_goals repeat' (first | apply And.intro | intro _)
                all_goals
                  refine hK10 _ ?_
                  refine hN9 _ ?_
                  refine cond_k rfl (fun hc => ?_) (fun hc => ?_)
                  · exfalso; revert hc; simp [go_sem, decide_false, decide_true, Bool.not_true, Bool.not_false, h3, h4, h6, h7, h5]
                  · try simp only [go_sem, decide_false, decide_true, Bool.not_true, Bool.not_false, h3, h4, h6, h7, h5] at hc
                    all_goals
                      refine seq_k fun N11 M11 hN11 hM11 => ?_
                      refine region_k fun K12 hK12 => ?_
                      simp only [go_sem, decide_false, decide_true, Bool.not_true, Bool.not_false, h3, h4, h6, h7, h5]
                      all_goals repeat' (first | apply And.intro | intro _)
                      all_goals
                        refine hK12 _ ?_
                        refine hN11 _ ?_
                        refine cond_k rfl (fun hc => ?_) (fun hc => ?_)
                        · exfalso; revert hc; simp [go_sem, decide_false, decide_true, Bool.not_true, Bool.not_false, h3, h4, h6, h7, h5]
                        · try simp only [go_sem, decide_false, decide_true, Bool.not_true, Bool.not_false, h3, h4, h6, h7, h5] at hc
                          all_goals
                            refine skip_k ?_
                            refine bn4 _ ?_
                            refine hN3 _ ?_
                            refine seq_k fun N13 M13 hN13 hM13 => ?_
                            refine region_k fun K14 hK14 => ?_
                            simp only [go_sem, decide_false, decide_true, Bool.not_true, Bool.not_false, h3, h4, h6, h7, h5]
                            all_goals repeat' (first | apply And.intro | intro _)
                            all_goals
                              refine hK14 _ ?_
                              refine hN13 _ ?_
                              refine ret_k ?_
                              simp only [go_sem, decide_false, decide_true, Bool.not_true, Bool.not_false, h3, h4, h6, h7, h5]
                              all_goals rfl
set_option maxHeartbeats 400000 in
theorem fc_ok (k id : Nat) (hid : id ≤ 255) (ex : Bool) (sz : Nat) (h1 : 1 ≤ k) (h : k < 5) :
    Ct Try.prog 43 [.w (.agg [.pl (.i (k : Int)), .pl (.i (id : Int)), .pl (.R ex sz [])])] (fun v m => v = .w (.one (.pl (.i 0)))) := by
  have h3 : ¬ ((k : Nat) : Int) < 1 := by omega
  have h4 : ¬ (5 : Int) < ((k : Nat) : Int) := by omega
  have h6 : ¬ ((id : Nat) : Int) < 0 := by omega
  have h7 : ¬ (255 : Int) < ((id : Nat) : Int) := by omega
  have h5 : ¬ ((k : Nat) : Int) = 5 := by omega
  refine Ct.k Try.func43 rfl Try.ntmps43 (congrArg Array.toList Try.results43) (by simp) fun w0 ro => ?_
  refine seq_k fun N1 M1 hN1 hM1 => ?_
  refine region_k fun K2 hK2 => ?_
  simp only [go_sem, decide_false, decide_true, Bool.not_true, Bool.not_false, h3, h4, h6, h7, h5]
  all_goals repeat' (first | apply And.intro | intro _)
  all_goals
    refine hK2 _ ?_
    refine hN1 _ ?_
    refine seq_k fun N3 M3 hN3 hM3 => ?_
    refine block_k fun B4 bn4 bx4 br4 bi4 => ?_
    refine seq_k fun N5 M5 hN5 hM5 => ?_
    refine region_k fun K6 hK6 => ?_
    simp only [go_sem, decide_false, decide_true, Bool.not_true, Bool.not_false, h3, h4, h6, h7, h5]
    all_goals repeat' (first | apply And.intro | intro _)
    all_goals
      refine hK6 _ ?_
      refine hN5 _ ?_
      refine cond_k rfl (fun hc => ?_) (fun hc => ?_)
      · exfalso; revert hc; simp [go_sem, decide_false, decide_true, Bool.not_true, Bool.not_false, h3, h4, h6, h7, h5]
      · try simp only [go_sem, decide_false, decide_true, Bool.not_true, Bool.not_false, h3, h4, h6, h7, h5] at hc
        all_goals
          refine seq_k fun N7 M7 hN7 hM7 => ?_
          refine region_k fun K8 hK8 => ?_
          simp only [go_sem, decide_false, decide_true, Bool.not_true, Bool.not_false, h3, h4, h6, h7, h5]
          all_goals repeat' (first | apply And.intro | intro _)
          all_goals
            refine hK8 _ ?_
            refine hN7 _ ?_
            refine cond_k rfl (fun hc => ?_) (fun hc => ?_)
            · exfalso; revert hc; simp [go_sem, decide_false, decide_true, Bool.not_true, Bool.not_false, h3, h4, h6, h7, h5]
            · try simp only [go_sem, decide_false, decide_true, Bool.not_true, Bool.not_false, h3, h4, h6, h7, h5] at hc
              all_goals
                refine seq_k fun N9 M9 hN9 hM9 => ?_
                refine region_k fun K10 hK10 => ?_
                simp only [go_sem, decide_false, decide_true, Bool.not_true, Bool.not_false, h3, h4, h6, h7, h5]
                all_goals repeat' (first | apply And.intro | intro _)
                all_goals
                  refine hK10 _ ?_
                  refine hN9 _ ?_
                  refine cond_k rfl (fun hc => ?_) (fun hc => ?_)
                  · exfalso; revert hc; simp [go_sem, decide_false, decide_true, Bool.not_true, Bool.not_false, h3, h4, h6, h7, h5]
                  · try simp only [go_sem, decide_false, decide_true, Bool.not_true, Bool.not_false, h3, h4, h6, h7, h5] at hc
                    all_goals
                      refine seq_k fun N11 M11 hN11 hM11 => ?_
                      refine region_k fun K12 hK12 => ?_
                      simp only [go_sem, decide_false, decide_true, Bool.not_true, Bool.not_false, h3, h4, h6, h7, h5]
                      all_goals repeat' (first | apply And.intro | intro _)
                      all_goals
                        refine hK12 _ ?_
                        refine hN11 _ ?_
                        refine cond_k rfl (fun hc => ?_) (fun hc => ?_)
                        · exfalso; revert hc; simp [go_sem, decide_false, decide_true, Bool.not_true, Bool.not_false, h3, h4, h6, h7, h5]
                        · try simp only [go_sem, decide_false, decide_true, Bool.not_true, Bool.not_false, h3, h4, h6, h7, h5] at hc
                          all_goals
                            refine skip_k ?_
                            refine bn4 _ ?_
                            refine hN3 _ ?_
                            refine seq_k fun N13 M13 hN13 hM13 => ?_
                            refine region_k fun K14 hK14 => ?_
                            simp only [go_sem, decide_false, decide_true, Bool.not_true, Bool.not_false, h3, h4, h6, h7, h5]
                            all_goals repeat' (first | apply And.intro | intro _)
                            all_goals
                              refine hK14 _ ?_
                              refine hN13 _ ?_
                              refine ret_k ?_
                              simp only [go_sem, decide_false, decide_true, Bool.not_true, Bool.not_false, h3, h4, h6, h7, h5]
                              all_goals rfl
theorem fc_mid (k id : Nat) (hid : id ≤ 255) (ex : Bool) (sz : Nat) (h1 : 1 ≤ k) (h : k ≤ 5) : Ct Try.prog 43 [.w (.agg [.pl (.i (k : Int)), .pl (.i (id : Int)), .pl (.R ex sz [])])] (fun v m => v = .w (.one (.pl (.i 0)))) := by
  rcases Nat.lt_or_ge k 5 with h5 | h5
  · exact fc_ok k id hid ex sz h1 h5
  · exact fc_five k id hid ex sz (by omega)
set_option maxHeartbeats 400000 in
theorem feed_big (held b : List UInt8) (ex ex2 : Bool) (h : 903 < held.length) :
    Ct Try.prog 20 [.w (.one (.pl (.R ex 1 (byteRows held)))), .w (.one (.pl (.R ex2 1 (byteRows b))))] (Told (feedV (feedP held b))) := by
  have hfp : feedP held b = (9, [], []) := if_pos h
  have h9 : (903 : Int) < ((held.length : Nat) : Int) := by omega
  refine Ct.k Try.func20 rfl Try.ntmps20 (congrArg Array.toList Try.results20) (by simp) fun w0 ro => ?_
  refine seq_k fun N1 M1 hN1 hM1 => ?_
  refine region_k fun K2 hK2 => ?_
  simp only [go_sem, decide_false, decide_true, Bool.not_true, Bool.not_false, h9]
  all_goals repeat' (first | apply And.intro | intro _)
  all_goals
    refine hK2 _ ?_
    refine hN1 _ ?_
    refine seq_k fun N3 M3 hN3 hM3 => ?_
    refine seq_k fun N4 M4 hN4 hM4 => ?_
    refine region_k fun K5 hK5 => ?_
    simp only [go_sem, decide_false, decide_true, Bool.not_true, Bool.not_false, h9]
    all_goals repeat' (first | apply And.intro | intro _)
    all_goals
      refine hK5 _ ?_
      refine hN4 _ ?_
      refine cond_k rfl (fun hc => ?_) (fun hc => ?_)
      · try simp only [go_sem, decide_false, decide_true, Bool.not_true, Bool.not_false, h9] at hc
        all_goals
          refine seq_k fun N6 M6 hN6 hM6 => ?_
          refine region_k fun K7 hK7 => ?_
          simp only [go_sem, decide_false, decide_true, Bool.not_true, Bool.not_false, h9]
          all_goals repeat' (first | apply And.intro | intro _)
          all_goals
            refine hK7 _ ?_
            refine hN6 _ ?_
            refine ret_k ?_
            refine hM3 _ _ ?_
            simp only [go_sem, decide_false, decide_true, Bool.not_true, Bool.not_false, h9]
            all_goals (rw [hfp]; exact feed_bad)
      · exfalso; revert hc; simp [go_sem, decide_false, decide_true, Bool.not_true, Bool.not_false, h9]
set_option maxHeartbeats 400000 in
theorem fed_big (held b : List UInt8) (ex ex2 : Bool) (h : 903 < held.length) :
    Ct Try.prog 21 [.w (.one (.pl (.R ex 1 (byteRows held)))), .w (.one (.pl (.R ex2 1 (byteRows b))))] (Told (feedV (feedP held b))) := by
  have hfp : feedP held b = (9, [], []) := if_pos h
  have h9 : (903 : Int) < ((held.length : Nat) : Int) := by omega
  refine Ct.k Try.func21 rfl Try.ntmps21 (congrArg Array.toList Try.results21) (by simp) fun w0 ro => ?_
  refine seq_k fun N1 M1 hN1 hM1 => ?_
  refine region_k fun K2 hK2 => ?_
  simp only [go_sem, decide_false, decide_true, Bool.not_true, Bool.not_false, h9]
  all_goals repeat' (first | apply And.intro | intro _)
  all_goals
    refine hK2 _ ?_
    refine hN1 _ ?_
    refine seq_k fun N3 M3 hN3 hM3 => ?_
    refine seq_k fun N4 M4 hN4 hM4 => ?_
    refine region_k fun K5 hK5 => ?_
    simp only [go_sem, decide_false, decide_true, Bool.not_true, Bool.not_false, h9]
    all_goals repeat' (first | apply And.intro | intro _)
    all_goals
      refine hK5 _ ?_
      refine hN4 _ ?_
      refine cond_k rfl (fun hc => ?_) (fun hc => ?_)
      · try simp only [go_sem, decide_false, decide_true, Bool.not_true, Bool.not_false, h9] at hc
        all_goals
          refine seq_k fun N6 M6 hN6 hM6 => ?_
          refine region_k fun K7 hK7 => ?_
          simp only [go_sem, decide_false, decide_true, Bool.not_true, Bool.not_false, h9]
          all_goals repeat' (first | apply And.intro | intro _)
          all_goals
            refine hK7 _ ?_
            refine hN6 _ ?_
            refine ret_k ?_
            refine hM3 _ _ ?_
            simp only [go_sem, decide_false, decide_true, Bool.not_true, Bool.not_false, h9]
            all_goals (rw [hfp]; exact feed_bad)
      · exfalso; revert hc; simp [go_sem, decide_false, decide_true, Bool.not_true, Bool.not_false, h9]
set_option maxHeartbeats 1600000 in
theorem feed_loop (held b : List UInt8) (ex ex2 : Bool) (hh : ¬ 903 < held.length) (all : List UInt8) (hall : held ++ b = all) (hb : all.length ≤ 1048576) :
    Ct Try.prog 20 [.w (.one (.pl (.R ex 1 (byteRows held)))), .w (.one (.pl (.R ex2 1 (byteRows b))))] (Told (feedV (feedP held b))) := by
  have hfp : feedP held b = feedR all.length [] all := by rw [feedP, if_neg hh, hall]
  have h9 : ¬ (903 : Int) < ((held.length : Nat) : Int) := by omega
  have hal : held.length + b.length = all.length := by rw [← hall, List.length_append]
  have hs15 : ∀ n, n = all.length → sealL 15 (all.map .u8) (.s 15 [] n 1) = .pl (.R false 1 (byteRows all)) := fun n h => seal_bytes h
  have hs15 := hs15 _ rfl
  obtain ⟨hcap0, hcap1⟩ : held.length ≤ 140737488355328 ∧ all.length ≤ 140737488355328 := ⟨by omega, by omega⟩
  refine Ct.k Try.func20 rfl Try.ntmps20 (congrArg Array.toList Try.results20) (by simp) fun w0 ro => ?_
  refine seq_k fun N1 M1 hN1 hM1 => ?_
  refine region_k fun K2 hK2 => ?_
  simp only [go_sem, decide_false, decide_true, Bool.not_true, Bool.not_false, h9, hcap0, hcap1, Nat.zero_add, hal, hall]
  all_goals repeat' (first | apply And.intro | intro _)
  all_goals
    refine hK2 _ ?_
    refine hN1 _ ?_
    refine seq_k fun N3 M3 hN3 hM3 => ?_
    refine seq_k fun N4 M4 hN4 hM4 => ?_
    refine region_k fun K5 hK5 => ?_
    simp only [go_sem, decide_false, decide_true, Bool.not_true, Bool.not_false, h9, hcap0, hcap1, Nat.zero_add, hal, hall]
    all_goals repeat' (first | apply And.intro | intro _)
    all_goals
      refine hK5 _ ?_
      refine hN4 _ ?_
      refine cond_k rfl (fun hc => ?_) (fun hc => ?_)
      · exfalso; revert hc; simp [go_sem, decide_false, decide_true, Bool.not_true, Bool.not_false, h9, hcap0, hcap1, Nat.zero_add, hal, hall]
      · try simp only [go_sem, decide_false, decide_true, Bool.not_true, Bool.not_false, h9, hcap0, hcap1, Nat.zero_add, hal, hall] at hc
        all_goals
          refine skip_k ?_
          refine hN3 _ ?_
          refine seq_k fun N6 M6 hN6 hM6 => ?_
          refine region_k fun K7 hK7 => ?_
          simp only [go_sem, decide_false, decide_true, Bool.not_true, Bool.not_false, h9, hcap0, hcap1, Nat.zero_add, hal, hall]
          all_goals repeat' (first | apply And.intro | intro _)
          all_goals
            refine hK7 _ ?_
            refine hN6 _ ?_
            refine seq_k fun N8 M8 hN8 hM8 => ?_
            refine ht_seal 15 (all.map .u8) (b := true) (by simp only [pls_bytes, reduceIte, look]) (by decide) ?_
            simp only [St.laid, sealE, sealM, sealV, sealW, List.map_cons, List.map_nil, sealL_pl, sealL_fn0, hs15, map_sealB, Nat.reduceLT, Nat.reduceEqDiff, if_true, if_false, reduceIte]
            refine region_k fun K9 hK9 => ?_
            simp only [go_sem, decide_false, decide_true, Bool.not_true, Bool.not_false, h9, hcap0, hcap1, Nat.zero_add, hal, hall]
            all_goals repeat' (first | apply And.intro | intro _)
            all_goals
              refine hK9 _ ?_
              refine hN8 _ ?_
              refine seq_k fun N10 M10 hN10 hM10 => ?_
              refine block_k fun B11 bn11 bx11 br11 bi11 => ?_
              refine ht_dropE [0, 1, 12, 13, 14, 15, 16, 17, 18, 19] ?_
              simp only [dropE_mk, fgt_nil, fgt_cons, List.contains_cons, List.contains_nil, Nat.reduceBEq, beq_self_eq_true, Bool.or_false, Bool.or_true, Bool.true_or, Bool.false_or, Bool.false_eq_true, reduceIte]
              refine loop_k (fun y => [(7, .w (.one (.pl (.R false 1 (byteRows y.1.2.2))))), (8, fV 75 y.1.2.1)]) (fun y => fM 75 y.1.2.1) (fun y => y.1.1) (⟨(all.length, [], all), rfl, Nat.le_refl _, by simp⟩ : {y : Nat × List FrD × List UInt8 // FInv all y}) ?_ ?_ ?_
              · (simp only [go_sem, fV_nil, leX, List.cons_append, List.nil_append]; try simp)
              · (simp only [go_sem, fM_nil, leX, List.cons_append, List.nil_append]; try simp)
              intro yy N12 M12 hN12 hM12
              simp only [List.cons_append, List.nil_append]
              obtain ⟨⟨c, l, bt⟩, hv⟩ := yy
              rcases Classical.em (l = []) with rfl | hl0
              all_goals rcases feed_cases bt with hs | ⟨hs, hk⟩ | ⟨hs, hk⟩ | ⟨hs, hk1, hk2, hnz⟩ | ⟨hs, hk, hn1, hnz⟩ | ⟨hs, hk1, hk2, hnz, hw⟩ | ⟨hs, hk1, hk2, hnz, hw⟩ | ⟨hs, hk, hnz⟩
              · simp only [fV_nil, fM_nil, List.cons_append, List.nil_append]
                have hge : ¬ (4 : Int) ≤ ((bt.length : Nat) : Int) := by omega
                have hgt3 : ¬ (3 : Int) < ((bt.length : Nat) : Int) := by omega
                have hfe := feed_short hv hs
                have hbc : bt.length ≤ 140737488355328 := by omega
                
                refine seq_k fun N13 M13 hN13 hM13 => ?_
                refine seq_k fun N14 M14 hN14 hM14 => ?_
                refine region_k fun K15 hK15 => ?_
                simp only [go_sem, decide_false, decide_true, Bool.not_true, Bool.not_false, h9, hcap0, hcap1, Nat.zero_add, hal, hall, hge, hgt3, hbc]
                all_goals repeat' (first | apply And.intro | intro _)
                all_goals
                  refine hK15 _ ?_
                  refine hN14 _ ?_
                  refine cond_k rfl (fun hc => ?_) (fun hc => ?_)
                  · exfalso; revert hc; simp [go_sem, decide_false, decide_true, Bool.not_true, Bool.not_false, h9, hcap0, hcap1, Nat.zero_add, hal, hall, hge, hgt3, hbc]
                  · try simp only [go_sem, decide_false, decide_true, Bool.not_true, Bool.not_false, h9, hcap0, hcap1, Nat.zero_add, hal, hall, hge, hgt3, hbc] at hc
                    all_goals
                      refine exit_k ?_
                      refine hM13 _ _ ?_
                      refine hM12 _ _ ?_
                      refine bx11 _ ?_
                      refine hN10 _ ?_
                      refine seq_k fun N16 M16 hN16 hM16 => ?_
                      refine region_k fun K17 hK17 => ?_
                      simp only [go_sem, decide_false, decide_true, Bool.not_true, Bool.not_false, h9, hcap0, hcap1, Nat.zero_add, hal, hall, hge, hgt3, hbc]
                      all_goals repeat' (first | apply And.intro | intro _)
                      all_goals
                        refine hK17 _ ?_
                        refine hN16 _ ?_
                        refine ret_k ?_
                        simp only [go_sem, decide_false, decide_true, Bool.not_true, Bool.not_false, h9, hcap0, hcap1, Nat.zero_add, hal, hall, hge, hgt3, hbc]
                        all_goals (rw [hfp, hfe]; exact feed_end_nil (b := true) (by simp [look]) rfl)
              · simp only [fV_nil, fM_nil, List.cons_append, List.nil_append]
                have hfe := feed_fault hv hs (hf_kind (.inl hk)) (by decide)
                obtain ⟨b0, hb0⟩ : ∃ b, bt.getD 0 0 = b := ⟨_, rfl⟩
                obtain ⟨b1, hb1⟩ : ∃ b, bt.getD 1 0 = b := ⟨_, rfl⟩
                obtain ⟨b2, hb2⟩ : ∃ b, bt.getD 2 0 = b := ⟨_, rfl⟩
                obtain ⟨b3, hb3⟩ : ∃ b, bt.getD 3 0 = b := ⟨_, rfl⟩
                have hg0 := rowG (bs := bt) (i := 0) (by omega) hb0
                have hg1 := rowG (bs := bt) (i := 1) (by omega) hb1
                have hg2 := rowG (bs := bt) (i := 2) (by omega) hb2
                have hg3 := rowG (bs := bt) (i := 3) (by omega) hb3
                obtain ⟨n, hn⟩ : ∃ x, nOf bt = x := ⟨_, rfl⟩
                have hk0 : kOf bt = b0.toNat := by rw [kOf, hb0]
                have hn0 : 256 * b2.toNat + b3.toNat = n := by rw [← hn, nOf, hb2, hb3]
                have hnl : n < 65536 := hn ▸ nOf_lt bt
                have hl0 := b0.toNat_lt
                have hl1 := b1.toNat_lt
                have hl2 := b2.toNat_lt
                have hl3 := b3.toNat_lt
                have hid : b1.toNat ≤ 255 := by omega
                have hge : (4 : Int) ≤ ((bt.length : Nat) : Int) := by omega
                have hgt3 : (3 : Int) < ((bt.length : Nat) : Int) := by omega
                have hp0 : (0 : Int) < ((bt.length : Nat) : Int) := by omega
                have hp1 : (1 : Int) < ((bt.length : Nat) : Int) := by omega
                have hp2 : (2 : Int) < ((bt.length : Nat) : Int) := by omega
                have hlo : bt.length ≤ all.length := by have := hv.2.2; simp only at this; omega
                rw [hk0] at hk
                have hq1 : (b0 < 1) = True := eq_true (UInt8.lt_iff_toNat_lt.mpr hk)
                obtain ⟨hnn, hnn2, hw1, hw2, hcap⟩ : ior (ishl ((b2.toNat : Nat) : Int) (UInt64.toNat 8)) ((b3.toNat : Nat) : Int) = ((n : Nat) : Int) ∧ Go.RowKit.wrap64 (Go.RowKit.wrap64 (((b2.toNat : Nat) : Int) * 256) + ((b3.toNat : Nat) : Int)) = ((n : Nat) : Int) ∧ Go.RowKit.wrap64 (4 + ((n : Nat) : Int)) = ((n + 4 : Nat) : Int) ∧ Go.RowKit.wrap64 (((bt.length : Nat) : Int) - 4) = ((bt.length - 4 : Nat) : Int) ∧ (0 + 1) * 40 ≤ 140737488355328 := ⟨n_shl hl2 hl3 hn0, n_mul hl2 hl3 hn0, wnat (by omega) (by omega), wnat (by omega) (by omega), by omega⟩
                have hbc : bt.length ≤ 140737488355328 := by clear hnn hnn2 hw1 hw2 hcap; omega
                
                refine seq_k fun N18 M18 hN18 hM18 => ?_
                refine seq_k fun N19 M19 hN19 hM19 => ?_
                refine region_k fun K20 hK20 => ?_
                simp only [go_sem, decide_false, decide_true, Bool.not_true, Bool.not_false, h9, hcap0, hcap1, Nat.zero_add, hal, hall, hb0, hb1, hb2, hb3, hg0, hg1, hg2, hg3, hge, hgt3, hp0, hp1, hp2, Int.toNat_zero, Int.toNat_one, Int.reduceToNat, Int.toNat_natCast, hnn, hnn2, hw1, hw2, hbc, hq1]
                all_goals repeat' (first | apply And.intro | intro _)
                all_goals
                  refine hK20 _ ?_
                  refine hN19 _ ?_
                  refine cond_k rfl (fun hc => ?_) (fun hc => ?_)
                  · try simp only [go_sem, decide_false, decide_true, Bool.not_true, Bool.not_false, h9, hcap0, hcap1, Nat.zero_add, hal, hall, hb0, hb1, hb2, hb3, hg0, hg1, hg2, hg3, hge, hgt3, hp0, hp1, hp2, Int.toNat_zero, Int.toNat_one, Int.reduceToNat, Int.toNat_natCast, hnn, hnn2, hw1, hw2, hbc, hq1] at hc
                    all_goals
                      refine skip_k ?_
                      refine hN18 _ ?_
                      refine block_k fun B21 bn21 bx21 br21 bi21 => ?_
                      refine seq_k fun N22 M22 hN22 hM22 => ?_
                      refine draw_k [23, 24, 25, 26, 27, 28, 29, 30, 31, 9] [0, 1, 3, 7, 0, 16, 48, 112, 255, 0, 1023] [] mixed (by kernel_rfl) (by simp only [go_sem]) fun K23 hK23 => ?_
                      simp only [go_sem, decide_false, decide_true, Bool.not_true, Bool.not_false, h9, hcap0, hcap1, Nat.zero_add, hal, hall, hb0, hb1, hb2, hb3, hg0, hg1, hg2, hg3, hge, hgt3, hp0, hp1, hp2, Int.toNat_zero, Int.toNat_one, Int.reduceToNat, Int.toNat_natCast, hnn, hnn2, hw1, hw2, hbc, hq1]
                      all_goals repeat' (first | apply And.intro | intro _)
                      all_goals
                        refine hK23 _ _ ?_ ?_
                        · first | trivial | (simp only [go_sem]; done) | (simp only [go_sem]; simp; done) | (simp only [go_sem]; simp; simp only [go_sem])
                        refine hN22 _ ?_
                        refine seq_k fun N24 M24 hN24 hM24 => ?_
                        refine draw_k [32, 33, 34, 35, 36, 37, 38, 39, 40, 41, 10] [0, 1, 3, 7, 15, 0, 32, 96, 224, 511, 1023] [] mixed (by kernel_rfl) (by simp only [go_sem]) fun K25 hK25 => ?_
                        simp only [go_sem, decide_false, decide_true, Bool.not_true, Bool.not_false, h9, hcap0, hcap1, Nat.zero_add, hal, hall, hb0, hb1, hb2, hb3, hg0, hg1, hg2, hg3, hge, hgt3, hp0, hp1, hp2, Int.toNat_zero, Int.toNat_one, Int.reduceToNat, Int.toNat_natCast, hnn, hnn2, hw1, hw2, hbc, hq1]
                        all_goals repeat' (first | apply And.intro | intro _)
                        all_goals
                          refine hK25 _ _ ?_ ?_
                          · first | trivial | (simp only [go_sem]; done) | (simp only [go_sem]; simp; done) | (simp only [go_sem]; simp; simp only [go_sem])
                          refine hN24 _ ?_
                          refine seq_k fun N26 M26 hN26 hM26 => ?_
                          refine seq_k fun N27 M27 hN27 hM27 => ?_
                          refine region_k fun K28 hK28 => ?_
                          simp only [go_sem, decide_false, decide_true, Bool.not_true, Bool.not_false, h9, hcap0, hcap1, Nat.zero_add, hal, hall, hb0, hb1, hb2, hb3, hg0, hg1, hg2, hg3, hge, hgt3, hp0, hp1, hp2, Int.toNat_zero, Int.toNat_one, Int.reduceToNat, Int.toNat_natCast, hnn, hnn2, hw1, hw2, hbc, hq1]
                          all_goals repeat' (first | apply And.intro | intro _)
                          all_goals refine call_view (fun k => k) (fun _ _ => rfl) (by first | rfl | (simp only [go_sem, decide_false, decide_true, Bool.not_true, Bool.not_false, h9, hcap0, hcap1, Nat.zero_add, hal, hall, hb0, hb1, hb2, hb3, hg0, hg1, hg2, hg3, hge, hgt3, hp0, hp1, hp2, Int.toNat_zero, Int.toNat_one, Int.reduceToNat, Int.toNat_natCast, hnn, hnn2, hw1, hw2, hbc, hq1]; rfl) | simp only [go_sem, decide_false, decide_true, Bool.not_true, Bool.not_false, h9, hcap0, hcap1, Nat.zero_add, hal, hall, hb0, hb1, hb2, hb3, hg0, hg1, hg2, hg3, hge, hgt3, hp0, hp1, hp2, Int.toNat_zero, Int.toNat_one, Int.reduceToNat, Int.toNat_natCast, hnn, hnn2, hw1, hw2, hbc, hq1]) (by first | exact ((fc_low _ _ hid _ _ hk).plain fun _ _ h => h) | exact ((fc_big _ _ hid _ _ hk).plain fun _ _ h => h) | exact ((fc_mid _ _ hid _ _ hk1 (by omega)).plain fun _ _ h => h)) ?_
                          all_goals (rintro v m ⟨hR, hm⟩; subst hR; subst hm)
                          all_goals refine And.intro (by first | rfl | simp only [go_sem, decide_false, decide_true, Bool.not_true, Bool.not_false, h9, hcap0, hcap1, Nat.zero_add, hal, hall, hb0, hb1, hb2, hb3, hg0, hg1, hg2, hg3, hge, hgt3, hp0, hp1, hp2, Int.toNat_zero, Int.toNat_one, Int.reduceToNat, Int.toNat_natCast, hnn, hnn2, hw1, hw2, hbc, hq1]) (And.intro (by first | rfl | simp only [go_sem, decide_false, decide_true, Bool.not_true, Bool.not_false, h9, hcap0, hcap1, Nat.zero_add, hal, hall, hb0, hb1, hb2, hb3, hg0, hg1, hg2, hg3, hge, hgt3, hp0, hp1, hp2, Int.toNat_zero, Int.toNat_one, Int.reduceToNat, Int.toNat_natCast, hnn, hnn2, hw1, hw2, hbc, hq1]) ?_)
                          all_goals simp only [go_sem, decide_false, decide_true, Bool.not_true, Bool.not_false, h9, hcap0, hcap1, Nat.zero_add, hal, hall, hb0, hb1, hb2, hb3, hg0, hg1, hg2, hg3, hge, hgt3, hp0, hp1, hp2, Int.toNat_zero, Int.toNat_one, Int.reduceToNat, Int.toNat_natCast, hnn, hnn2, hw1, hw2, hbc, hq1]
                          all_goals repeat' (first | apply And.intro | intro _)
                          all_goals
                            refine hK28 _ ?_
                            refine hN27 _ ?_
                            refine seq_k fun N29 M29 hN29 hM29 => ?_
                            refine region_k fun K30 hK30 => ?_
                            simp only [go_sem, decide_false, decide_true, Bool.not_true, Bool.not_false, h9, hcap0, hcap1, Nat.zero_add, hal, hall, hb0, hb1, hb2, hb3, hg0, hg1, hg2, hg3, hge, hgt3, hp0, hp1, hp2, Int.toNat_zero, Int.toNat_one, Int.reduceToNat, Int.toNat_natCast, hnn, hnn2, hw1, hw2, hbc, hq1]
                            all_goals repeat' (first | apply And.intro | intro _)
                            all_goals
                              refine hK30 _ ?_
                              refine hN29 _ ?_
                              refine cond_k rfl (fun hc => ?_) (fun hc => ?_)
                              · try simp only [go_sem, decide_false, decide_true, Bool.not_true, Bool.not_false, h9, hcap0, hcap1, Nat.zero_add, hal, hall, hb0, hb1, hb2, hb3, hg0, hg1, hg2, hg3, hge, hgt3, hp0, hp1, hp2, Int.toNat_zero, Int.toNat_one, Int.reduceToNat, Int.toNat_natCast, hnn, hnn2, hw1, hw2, hbc, hq1] at hc
                                all_goals
                                  refine seq_k fun N31 M31 hN31 hM31 => ?_
                                  refine region_k fun K32 hK32 => ?_
                                  simp only [go_sem, decide_false, decide_true, Bool.not_true, Bool.not_false, h9, hcap0, hcap1, Nat.zero_add, hal, hall, hb0, hb1, hb2, hb3, hg0, hg1, hg2, hg3, hge, hgt3, hp0, hp1, hp2, Int.toNat_zero, Int.toNat_one, Int.reduceToNat, Int.toNat_natCast, hnn, hnn2, hw1, hw2, hbc, hq1]
                                  all_goals repeat' (first | apply And.intro | intro _)
                                  all_goals
                                    refine hK32 _ ?_
                                    refine hN31 _ ?_
                                    refine ret_k ?_
                                    refine hM26 _ _ ?_
                                    refine br21 _ ?_
                                    refine hM12 _ _ ?_
                                    refine br11 _ ?_
                                    refine hM10 _ _ ?_
                                    simp only [go_sem, decide_false, decide_true, Bool.not_true, Bool.not_false, h9, hcap0, hcap1, Nat.zero_add, hal, hall, hb0, hb1, hb2, hb3, hg0, hg1, hg2, hg3, hge, hgt3, hp0, hp1, hp2, Int.toNat_zero, Int.toNat_one, Int.reduceToNat, Int.toNat_natCast, hnn, hnn2, hw1, hw2, hbc, hq1]
                                    all_goals (rw [hfp, hfe]; exact feed_bad)
                              · exfalso; revert hc; simp [go_sem, decide_false, decide_true, Bool.not_true, Bool.not_false, h9, hcap0, hcap1, Nat.zero_add, hal, hall, hb0, hb1, hb2, hb3, hg0, hg1, hg2, hg3, hge, hgt3, hp0, hp1, hp2, Int.toNat_zero, Int.toNat_one, Int.reduceToNat, Int.toNat_natCast, hnn, hnn2, hw1, hw2, hbc, hq1]
                  · exfalso; revert hc; simp [go_sem, decide_false, decide_true, Bool.not_true, Bool.not_false, h9, hcap0, hcap1, Nat.zero_add, hal, hall, hb0, hb1, hb2, hb3, hg0, hg1, hg2, hg3, hge, hgt3, hp0, hp1, hp2, Int.toNat_zero, Int.toNat_one, Int.reduceToNat, Int.toNat_natCast, hnn, hnn2, hw1, hw2, hbc, hq1]
              · simp only [fV_nil, fM_nil, List.cons_append, List.nil_append]
                have hfe := feed_fault hv hs (hf_kind (.inr hk)) (by decide)
                obtain ⟨b0, hb0⟩ : ∃ b, bt.getD 0 0 = b := ⟨_, rfl⟩
                obtain ⟨b1, hb1⟩ : ∃ b, bt.getD 1 0 = b := ⟨_, rfl⟩
                obtain ⟨b2, hb2⟩ : ∃ b, bt.getD 2 0 = b := ⟨_, rfl⟩
                obtain ⟨b3, hb3⟩ : ∃ b, bt.getD 3 0 = b := ⟨_, rfl⟩
                have hg0 := rowG (bs := bt) (i := 0) (by omega) hb0
                have hg1 := rowG (bs := bt) (i := 1) (by omega) hb1
                have hg2 := rowG (bs := bt) (i := 2) (by omega) hb2
                have hg3 := rowG (bs := bt) (i := 3) (by omega) hb3
                obtain ⟨n, hn⟩ : ∃ x, nOf bt = x := ⟨_, rfl⟩
                have hk0 : kOf bt = b0.toNat := by rw [kOf, hb0]
                have hn0 : 256 * b2.toNat + b3.toNat = n := by rw [← hn, nOf, hb2, hb3]
                have hnl : n < 65536 := hn ▸ nOf_lt bt
                have hl0 := b0.toNat_lt
                have hl1 := b1.toNat_lt
                have hl2 := b2.toNat_lt
                have hl3 := b3.toNat_lt
                have hid : b1.toNat ≤ 255 := by omega
                have hge : (4 : Int) ≤ ((bt.length : Nat) : Int) := by omega
                have hgt3 : (3 : Int) < ((bt.length : Nat) : Int) := by omega
                have hp0 : (0 : Int) < ((bt.length : Nat) : Int) := by omega
                have hp1 : (1 : Int) < ((bt.length : Nat) : Int) := by omega
                have hp2 : (2 : Int) < ((bt.length : Nat) : Int) := by omega
                have hlo : bt.length ≤ all.length := by have := hv.2.2; simp only at this; omega
                rw [hk0] at hk
                have hq1 : (b0 < 1) = False := eq_false fun h => by have := UInt8.lt_iff_toNat_lt.mp h; simp at this; omega
                have hq2 : (5 < b0) = True := eq_true (UInt8.lt_iff_toNat_lt.mpr hk)
                obtain ⟨hnn, hnn2, hw1, hw2, hcap⟩ : ior (ishl ((b2.toNat : Nat) : Int) (UInt64.toNat 8)) ((b3.toNat : Nat) : Int) = ((n : Nat) : Int) ∧ Go.RowKit.wrap64 (Go.RowKit.wrap64 (((b2.toNat : Nat) : Int) * 256) + ((b3.toNat : Nat) : Int)) = ((n : Nat) : Int) ∧ Go.RowKit.wrap64 (4 + ((n : Nat) : Int)) = ((n + 4 : Nat) : Int) ∧ Go.RowKit.wrap64 (((bt.length : Nat) : Int) - 4) = ((bt.length - 4 : Nat) : Int) ∧ (0 + 1) * 40 ≤ 140737488355328 := ⟨n_shl hl2 hl3 hn0, n_mul hl2 hl3 hn0, wnat (by omega) (by omega), wnat (by omega) (by omega), by omega⟩
                have hbc : bt.length ≤ 140737488355328 := by clear hnn hnn2 hw1 hw2 hcap; omega
                
                refine seq_k fun N33 M33 hN33 hM33 => ?_
                refine seq_k fun N34 M34 hN34 hM34 => ?_
                refine region_k fun K35 hK35 => ?_
                simp only [go_sem, decide_false, decide_true, Bool.not_true, Bool.not_false, h9, hcap0, hcap1, Nat.zero_add, hal, hall, hb0, hb1, hb2, hb3, hg0, hg1, hg2, hg3, hge, hgt3, hp0, hp1, hp2, Int.toNat_zero, Int.toNat_one, Int.reduceToNat, Int.toNat_natCast, hnn, hnn2, hw1, hw2, hbc, hq1, hq2]
                all_goals repeat' (first | apply And.intro | intro _)
                all_goals
                  refine hK35 _ ?_
                  refine hN34 _ ?_
                  refine cond_k rfl (fun hc => ?_) (fun hc => ?_)
                  · try simp only [go_sem, decide_false, decide_true, Bool.not_true, Bool.not_false, h9, hcap0, hcap1, Nat.zero_add, hal, hall, hb0, hb1, hb2, hb3, hg0, hg1, hg2, hg3, hge, hgt3, hp0, hp1, hp2, Int.toNat_zero, Int.toNat_one, Int.reduceToNat, Int.toNat_natCast, hnn, hnn2, hw1, hw2, hbc, hq1, hq2] at hc
                    all_goals
                      refine skip_k ?_
                      refine hN33 _ ?_
                      refine block_k fun B36 bn36 bx36 br36 bi36 => ?_
                      refine seq_k fun N37 M37 hN37 hM37 => ?_
                      refine draw_k [23, 24, 25, 26, 27, 28, 29, 30, 31, 9] [0, 1, 3, 7, 0, 16, 48, 112, 255, 0, 1023] [] mixed (by kernel_rfl) (by simp only [go_sem]) fun K38 hK38 => ?_
                      simp only [go_sem, decide_false, decide_true, Bool.not_true, Bool.not_false, h9, hcap0, hcap1, Nat.zero_add, hal, hall, hb0, hb1, hb2, hb3, hg0, hg1, hg2, hg3, hge, hgt3, hp0, hp1, hp2, Int.toNat_zero, Int.toNat_one, Int.reduceToNat, Int.toNat_natCast, hnn, hnn2, hw1, hw2, hbc, hq1, hq2]
                      all_goals repeat' (first | apply And.intro | intro _)
                      all_goals
                        refine hK38 _ _ ?_ ?_
                        · first | trivial | (simp only [go_sem]; done) | (simp only [go_sem]; simp; done) | (simp only [go_sem]; simp; simp only [go_sem])
                        refine hN37 _ ?_
                        refine seq_k fun N39 M39 hN39 hM39 => ?_
                        refine draw_k [32, 33, 34, 35, 36, 37, 38, 39, 40, 41, 10] [0, 1, 3, 7, 15, 0, 32, 96, 224, 511, 1023] [] mixed (by kernel_rfl) (by simp only [go_sem]) fun K40 hK40 => ?_
                        simp only [go_sem, decide_false, decide_true, Bool.not_true, Bool.not_false, h9, hcap0, hcap1, Nat.zero_add, hal, hall, hb0, hb1, hb2, hb3, hg0, hg1, hg2, hg3, hge, hgt3, hp0, hp1, hp2, Int.toNat_zero, Int.toNat_one, Int.reduceToNat, Int.toNat_natCast, hnn, hnn2, hw1, hw2, hbc, hq1, hq2]
                        all_goals repeat' (first | apply And.intro | intro _)
                        all_goals
                          refine hK40 _ _ ?_ ?_
                          · first | trivial | (simp only [go_sem]; done) | (simp only [go_sem]; simp; done) | (simp only [go_sem]; simp; simp only [go_sem])
                          refine hN39 _ ?_
                          refine seq_k fun N41 M41 hN41 hM41 => ?_
                          refine seq_k fun N42 M42 hN42 hM42 => ?_
                          refine region_k fun K43 hK43 => ?_
                          simp only [go_sem, decide_false, decide_true, Bool.not_true, Bool.not_false, h9, hcap0, hcap1, Nat.zero_add, hal, hall, hb0, hb1, hb2, hb3, hg0, hg1, hg2, hg3, hge, hgt3, hp0, hp1, hp2, Int.toNat_zero, Int.toNat_one, Int.reduceToNat, Int.toNat_natCast, hnn, hnn2, hw1, hw2, hbc, hq1, hq2]
                          all_goals repeat' (first | apply And.intro | intro _)
                          all_goals refine call_view (fun k => k) (fun _ _ => rfl) (by first | rfl | (simp only [go_sem, decide_false, decide_true, Bool.not_true, Bool.not_false, h9, hcap0, hcap1, Nat.zero_add, hal, hall, hb0, hb1, hb2, hb3, hg0, hg1, hg2, hg3, hge, hgt3, hp0, hp1, hp2, Int.toNat_zero, Int.toNat_one, Int.reduceToNat, Int.toNat_natCast, hnn, hnn2, hw1, hw2, hbc, hq1, hq2]; rfl) | simp only [go_sem, decide_false, decide_true, Bool.not_true, Bool.not_false, h9, hcap0, hcap1, Nat.zero_add, hal, hall, hb0, hb1, hb2, hb3, hg0, hg1, hg2, hg3, hge, hgt3, hp0, hp1, hp2, Int.toNat_zero, Int.toNat_one, Int.reduceToNat, Int.toNat_natCast, hnn, hnn2, hw1, hw2, hbc, hq1, hq2]) (by first | exact ((fc_low _ _ hid _ _ hk).plain fun _ _ h => h) | exact ((fc_big _ _ hid _ _ hk).plain fun _ _ h => h) | exact ((fc_mid _ _ hid _ _ hk1 (by omega)).plain fun _ _ h => h)) ?_
                          all_goals (rintro v m ⟨hR, hm⟩; subst hR; subst hm)
                          all_goals refine And.intro (by first | rfl | simp only [go_sem, decide_false, decide_true, Bool.not_true, Bool.not_false, h9, hcap0, hcap1, Nat.zero_add, hal, hall, hb0, hb1, hb2, hb3, hg0, hg1, hg2, hg3, hge, hgt3, hp0, hp1, hp2, Int.toNat_zero, Int.toNat_one, Int.reduceToNat, Int.toNat_natCast, hnn, hnn2, hw1, hw2, hbc, hq1, hq2]) (And.intro (by first | rfl | simp only [go_sem, decide_false, decide_true, Bool.not_true, Bool.not_false, h9, hcap0, hcap1, Nat.zero_add, hal, hall, hb0, hb1, hb2, hb3, hg0, hg1, hg2, hg3, hge, hgt3, hp0, hp1, hp2, Int.toNat_zero, Int.toNat_one, Int.reduceToNat, Int.toNat_natCast, hnn, hnn2, hw1, hw2, hbc, hq1, hq2]) ?_)
                          all_goals simp only [go_sem, decide_false, decide_true, Bool.not_true, Bool.not_false, h9, hcap0, hcap1, Nat.zero_add, hal, hall, hb0, hb1, hb2, hb3, hg0, hg1, hg2, hg3, hge, hgt3, hp0, hp1, hp2, Int.toNat_zero, Int.toNat_one, Int.reduceToNat, Int.toNat_natCast, hnn, hnn2, hw1, hw2, hbc, hq1, hq2]
                          all_goals repeat' (first | apply And.intro | intro _)
                          all_goals
                            refine hK43 _ ?_
                            refine hN42 _ ?_
                            refine seq_k fun N44 M44 hN44 hM44 => ?_
                            refine region_k fun K45 hK45 => ?_
                            simp only [go_sem, decide_false, decide_true, Bool.not_true, Bool.not_false, h9, hcap0, hcap1, Nat.zero_add, hal, hall, hb0, hb1, hb2, hb3, hg0, hg1, hg2, hg3, hge, hgt3, hp0, hp1, hp2, Int.toNat_zero, Int.toNat_one, Int.reduceToNat, Int.toNat_natCast, hnn, hnn2, hw1, hw2, hbc, hq1, hq2]
                            all_goals repeat' (first | apply And.intro | intro _)
                            all_goals
                              refine hK45 _ ?_
                              refine hN44 _ ?_
                              refine cond_k rfl (fun hc => ?_) (fun hc => ?_)
                              · try simp only [go_sem, decide_false, decide_true, Bool.not_true, Bool.not_false, h9, hcap0, hcap1, Nat.zero_add, hal, hall, hb0, hb1, hb2, hb3, hg0, hg1, hg2, hg3, hge, hgt3, hp0, hp1, hp2, Int.toNat_zero, Int.toNat_one, Int.reduceToNat, Int.toNat_natCast, hnn, hnn2, hw1, hw2, hbc, hq1, hq2] at hc
                                all_goals
                                  refine seq_k fun N46 M46 hN46 hM46 => ?_
                                  refine region_k fun K47 hK47 => ?_
                                  simp only [go_sem, decide_false, decide_true, Bool.not_true, Bool.not_false, h9, hcap0, hcap1, Nat.zero_add, hal, hall, hb0, hb1, hb2, hb3, hg0, hg1, hg2, hg3, hge, hgt3, hp0, hp1, hp2, Int.toNat_zero, Int.toNat_one, Int.reduceToNat, Int.toNat_natCast, hnn, hnn2, hw1, hw2, hbc, hq1, hq2]
                                  all_goals repeat' (first | apply And.intro | intro _)
                                  all_goals
                                    refine hK47 _ ?_
                                    refine hN46 _ ?_
                                    refine ret_k ?_
                                    refine hM41 _ _ ?_
                                    refine br36 _ ?_
                                    refine hM12 _ _ ?_
                                    refine br11 _ ?_
                                    refine hM10 _ _ ?_
                                    simp only [go_sem, decide_false, decide_true, Bool.not_true, Bool.not_false, h9, hcap0, hcap1, Nat.zero_add, hal, hall, hb0, hb1, hb2, hb3, hg0, hg1, hg2, hg3, hge, hgt3, hp0, hp1, hp2, Int.toNat_zero, Int.toNat_one, Int.reduceToNat, Int.toNat_natCast, hnn, hnn2, hw1, hw2, hbc, hq1, hq2]
                                    all_goals (rw [hfp, hfe]; exact feed_bad)
                              · exfalso; revert hc; simp [go_sem, decide_false, decide_true, Bool.not_true, Bool.not_false, h9, hcap0, hcap1, Nat.zero_add, hal, hall, hb0, hb1, hb2, hb3, hg0, hg1, hg2, hg3, hge, hgt3, hp0, hp1, hp2, Int.toNat_zero, Int.toNat_one, Int.reduceToNat, Int.toNat_natCast, hnn, hnn2, hw1, hw2, hbc, hq1, hq2]
                  · exfalso; revert hc; simp [go_sem, decide_false, decide_true, Bool.not_true, Bool.not_false, h9, hcap0, hcap1, Nat.zero_add, hal, hall, hb0, hb1, hb2, hb3, hg0, hg1, hg2, hg3, hge, hgt3, hp0, hp1, hp2, Int.toNat_zero, Int.toNat_one, Int.reduceToNat, Int.toNat_natCast, hnn, hnn2, hw1, hw2, hbc, hq1, hq2]
              · simp only [fV_nil, fM_nil, List.cons_append, List.nil_append]
                have hfe := feed_fault hv hs (hf_size hk1 hk2 hnz) (by decide)
                obtain ⟨b0, hb0⟩ : ∃ b, bt.getD 0 0 = b := ⟨_, rfl⟩
                obtain ⟨b1, hb1⟩ : ∃ b, bt.getD 1 0 = b := ⟨_, rfl⟩
                obtain ⟨b2, hb2⟩ : ∃ b, bt.getD 2 0 = b := ⟨_, rfl⟩
                obtain ⟨b3, hb3⟩ : ∃ b, bt.getD 3 0 = b := ⟨_, rfl⟩
                have hg0 := rowG (bs := bt) (i := 0) (by omega) hb0
                have hg1 := rowG (bs := bt) (i := 1) (by omega) hb1
                have hg2 := rowG (bs := bt) (i := 2) (by omega) hb2
                have hg3 := rowG (bs := bt) (i := 3) (by omega) hb3
                obtain ⟨n, hn⟩ : ∃ x, nOf bt = x := ⟨_, rfl⟩
                have hk0 : kOf bt = b0.toNat := by rw [kOf, hb0]
                have hn0 : 256 * b2.toNat + b3.toNat = n := by rw [← hn, nOf, hb2, hb3]
                have hnl : n < 65536 := hn ▸ nOf_lt bt
                have hl0 := b0.toNat_lt
                have hl1 := b1.toNat_lt
                have hl2 := b2.toNat_lt
                have hl3 := b3.toNat_lt
                have hid : b1.toNat ≤ 255 := by omega
                have hge : (4 : Int) ≤ ((bt.length : Nat) : Int) := by omega
                have hgt3 : (3 : Int) < ((bt.length : Nat) : Int) := by omega
                have hp0 : (0 : Int) < ((bt.length : Nat) : Int) := by omega
                have hp1 : (1 : Int) < ((bt.length : Nat) : Int) := by omega
                have hp2 : (2 : Int) < ((bt.length : Nat) : Int) := by omega
                have hlo : bt.length ≤ all.length := by have := hv.2.2; simp only at this; omega
                rw [hk0] at hk1 hk2
                rw [hn] at hnz
                have hq1 : (b0 < 1) = False := eq_false fun h => by have := UInt8.lt_iff_toNat_lt.mp h; simp at this; omega
                have hq2 : (5 < b0) = False := eq_false fun h => by have := UInt8.lt_iff_toNat_lt.mp h; simp at this; omega
                have hq3 : (900 : Int) < ((n : Nat) : Int) := by omega
                obtain ⟨hnn, hnn2, hw1, hw2, hcap⟩ : ior (ishl ((b2.toNat : Nat) : Int) (UInt64.toNat 8)) ((b3.toNat : Nat) : Int) = ((n : Nat) : Int) ∧ Go.RowKit.wrap64 (Go.RowKit.wrap64 (((b2.toNat : Nat) : Int) * 256) + ((b3.toNat : Nat) : Int)) = ((n : Nat) : Int) ∧ Go.RowKit.wrap64 (4 + ((n : Nat) : Int)) = ((n + 4 : Nat) : Int) ∧ Go.RowKit.wrap64 (((bt.length : Nat) : Int) - 4) = ((bt.length - 4 : Nat) : Int) ∧ (0 + 1) * 40 ≤ 140737488355328 := ⟨n_shl hl2 hl3 hn0, n_mul hl2 hl3 hn0, wnat (by omega) (by omega), wnat (by omega) (by omega), by omega⟩
                have hbc : bt.length ≤ 140737488355328 := by clear hnn hnn2 hw1 hw2 hcap; omega
                
                refine seq_k fun N48 M48 hN48 hM48 => ?_
                refine seq_k fun N49 M49 hN49 hM49 => ?_
                refine region_k fun K50 hK50 => ?_
                simp only [go_sem, decide_false, decide_true, Bool.not_true, Bool.not_false, h9, hcap0, hcap1, Nat.zero_add, hal, hall, hb0, hb1, hb2, hb3, hg0, hg1, hg2, hg3, hge, hgt3, hp0, hp1, hp2, Int.toNat_zero, Int.toNat_one, Int.reduceToNat, Int.toNat_natCast, hnn, hnn2, hw1, hw2, hbc, hq1, hq2, hq3]
                all_goals repeat' (first | apply And.intro | intro _)
                all_goals
                  refine hK50 _ ?_
                  refine hN49 _ ?_
                  refine cond_k rfl (fun hc => ?_) (fun hc => ?_)
                  · try simp only [go_sem, decide_false, decide_true, Bool.not_true, Bool.not_false, h9, hcap0, hcap1, Nat.zero_add, hal, hall, hb0, hb1, hb2, hb3, hg0, hg1, hg2, hg3, hge, hgt3, hp0, hp1, hp2, Int.toNat_zero, Int.toNat_one, Int.reduceToNat, Int.toNat_natCast, hnn, hnn2, hw1, hw2, hbc, hq1, hq2, hq3] at hc
                    all_goals
                      refine skip_k ?_
                      refine hN48 _ ?_
                      refine block_k fun B51 bn51 bx51 br51 bi51 => ?_
                      refine seq_k fun N52 M52 hN52 hM52 => ?_
                      refine draw_k [23, 24, 25, 26, 27, 28, 29, 30, 31, 9] [0, 1, 3, 7, 0, 16, 48, 112, 255, 0, 1023] [] mixed (by kernel_rfl) (by simp only [go_sem]) fun K53 hK53 => ?_
                      simp only [go_sem, decide_false, decide_true, Bool.not_true, Bool.not_false, h9, hcap0, hcap1, Nat.zero_add, hal, hall, hb0, hb1, hb2, hb3, hg0, hg1, hg2, hg3, hge, hgt3, hp0, hp1, hp2, Int.toNat_zero, Int.toNat_one, Int.reduceToNat, Int.toNat_natCast, hnn, hnn2, hw1, hw2, hbc, hq1, hq2, hq3]
                      all_goals repeat' (first | apply And.intro | intro _)
                      all_goals
                        refine hK53 _ _ ?_ ?_
                        · first | trivial | (simp only [go_sem]; done) | (simp only [go_sem]; simp; done) | (simp only [go_sem]; simp; simp only [go_sem])
                        refine hN52 _ ?_
                        refine seq_k fun N54 M54 hN54 hM54 => ?_
                        refine draw_k [32, 33, 34, 35, 36, 37, 38, 39, 40, 41, 10] [0, 1, 3, 7, 15, 0, 32, 96, 224, 511, 1023] [] mixed (by kernel_rfl) (by simp only [go_sem]) fun K55 hK55 => ?_
                        simp only [go_sem, decide_false, decide_true, Bool.not_true, Bool.not_false, h9, hcap0, hcap1, Nat.zero_add, hal, hall, hb0, hb1, hb2, hb3, hg0, hg1, hg2, hg3, hge, hgt3, hp0, hp1, hp2, Int.toNat_zero, Int.toNat_one, Int.reduceToNat, Int.toNat_natCast, hnn, hnn2, hw1, hw2, hbc, hq1, hq2, hq3]
                        all_goals repeat' (first | apply And.intro | intro _)
                        all_goals
                          refine hK55 _ _ ?_ ?_
                          · first | trivial | (simp only [go_sem]; done) | (simp only [go_sem]; simp; done) | (simp only [go_sem]; simp; simp only [go_sem])
                          refine hN54 _ ?_
                          refine seq_k fun N56 M56 hN56 hM56 => ?_
                          refine seq_k fun N57 M57 hN57 hM57 => ?_
                          refine region_k fun K58 hK58 => ?_
                          simp only [go_sem, decide_false, decide_true, Bool.not_true, Bool.not_false, h9, hcap0, hcap1, Nat.zero_add, hal, hall, hb0, hb1, hb2, hb3, hg0, hg1, hg2, hg3, hge, hgt3, hp0, hp1, hp2, Int.toNat_zero, Int.toNat_one, Int.reduceToNat, Int.toNat_natCast, hnn, hnn2, hw1, hw2, hbc, hq1, hq2, hq3]
                          all_goals repeat' (first | apply And.intro | intro _)
                          all_goals refine call_view (fun k => k) (fun _ _ => rfl) (by first | rfl | (simp only [go_sem, decide_false, decide_true, Bool.not_true, Bool.not_false, h9, hcap0, hcap1, Nat.zero_add, hal, hall, hb0, hb1, hb2, hb3, hg0, hg1, hg2, hg3, hge, hgt3, hp0, hp1, hp2, Int.toNat_zero, Int.toNat_one, Int.reduceToNat, Int.toNat_natCast, hnn, hnn2, hw1, hw2, hbc, hq1, hq2, hq3]; rfl) | simp only [go_sem, decide_false, decide_true, Bool.not_true, Bool.not_false, h9, hcap0, hcap1, Nat.zero_add, hal, hall, hb0, hb1, hb2, hb3, hg0, hg1, hg2, hg3, hge, hgt3, hp0, hp1, hp2, Int.toNat_zero, Int.toNat_one, Int.reduceToNat, Int.toNat_natCast, hnn, hnn2, hw1, hw2, hbc, hq1, hq2, hq3]) (by first | exact ((fc_low _ _ hid _ _ hk).plain fun _ _ h => h) | exact ((fc_big _ _ hid _ _ hk).plain fun _ _ h => h) | exact ((fc_mid _ _ hid _ _ hk1 (by omega)).plain fun _ _ h => h)) ?_
                          all_goals (rintro v m ⟨hR, hm⟩; subst hR; subst hm)
                          all_goals refine And.intro (by first | rfl | simp only [go_sem, decide_false, decide_true, Bool.not_true, Bool.not_false, h9, hcap0, hcap1, Nat.zero_add, hal, hall, hb0, hb1, hb2, hb3, hg0, hg1, hg2, hg3, hge, hgt3, hp0, hp1, hp2, Int.toNat_zero, Int.toNat_one, Int.reduceToNat, Int.toNat_natCast, hnn, hnn2, hw1, hw2, hbc, hq1, hq2, hq3]) (And.intro (by first | rfl | simp only [go_sem, decide_false, decide_true, Bool.not_true, Bool.not_false, h9, hcap0, hcap1, Nat.zero_add, hal, hall, hb0, hb1, hb2, hb3, hg0, hg1, hg2, hg3, hge, hgt3, hp0, hp1, hp2, Int.toNat_zero, Int.toNat_one, Int.reduceToNat, Int.toNat_natCast, hnn, hnn2, hw1, hw2, hbc, hq1, hq2, hq3]) ?_)
                          all_goals simp only [go_sem, decide_false, decide_true, Bool.not_true, Bool.not_false, h9, hcap0, hcap1, Nat.zero_add, hal, hall, hb0, hb1, hb2, hb3, hg0, hg1, hg2, hg3, hge, hgt3, hp0, hp1, hp2, Int.toNat_zero, Int.toNat_one, Int.reduceToNat, Int.toNat_natCast, hnn, hnn2, hw1, hw2, hbc, hq1, hq2, hq3]
                          all_goals repeat' (first | apply And.intro | intro _)
                          all_goals
                            refine hK58 _ ?_
                            refine hN57 _ ?_
                            refine seq_k fun N59 M59 hN59 hM59 => ?_
                            refine region_k fun K60 hK60 => ?_
                            simp only [go_sem, decide_false, decide_true, Bool.not_true, Bool.not_false, h9, hcap0, hcap1, Nat.zero_add, hal, hall, hb0, hb1, hb2, hb3, hg0, hg1, hg2, hg3, hge, hgt3, hp0, hp1, hp2, Int.toNat_zero, Int.toNat_one, Int.reduceToNat, Int.toNat_natCast, hnn, hnn2, hw1, hw2, hbc, hq1, hq2, hq3]
                            all_goals repeat' (first | apply And.intro | intro _)
                            all_goals
                              refine hK60 _ ?_
                              refine hN59 _ ?_
                              refine cond_k rfl (fun hc => ?_) (fun hc => ?_)
                              · exfalso; revert hc; simp [go_sem, decide_false, decide_true, Bool.not_true, Bool.not_false, h9, hcap0, hcap1, Nat.zero_add, hal, hall, hb0, hb1, hb2, hb3, hg0, hg1, hg2, hg3, hge, hgt3, hp0, hp1, hp2, Int.toNat_zero, Int.toNat_one, Int.reduceToNat, Int.toNat_natCast, hnn, hnn2, hw1, hw2, hbc, hq1, hq2, hq3]
                              · try simp only [go_sem, decide_false, decide_true, Bool.not_true, Bool.not_false, h9, hcap0, hcap1, Nat.zero_add, hal, hall, hb0, hb1, hb2, hb3, hg0, hg1, hg2, hg3, hge, hgt3, hp0, hp1, hp2, Int.toNat_zero, Int.toNat_one, Int.reduceToNat, Int.toNat_natCast, hnn, hnn2, hw1, hw2, hbc, hq1, hq2, hq3] at hc
                                all_goals
                                  refine skip_k ?_
                                  refine hN56 _ ?_
                                  refine seq_k fun N61 M61 hN61 hM61 => ?_
                                  refine seq_k fun N62 M62 hN62 hM62 => ?_
                                  refine region_k fun K63 hK63 => ?_
                                  simp only [go_sem, decide_false, decide_true, Bool.not_true, Bool.not_false, h9, hcap0, hcap1, Nat.zero_add, hal, hall, hb0, hb1, hb2, hb3, hg0, hg1, hg2, hg3, hge, hgt3, hp0, hp1, hp2, Int.toNat_zero, Int.toNat_one, Int.reduceToNat, Int.toNat_natCast, hnn, hnn2, hw1, hw2, hbc, hq1, hq2, hq3]
                                  all_goals repeat' (first | apply And.intro | intro _)
                                  all_goals
                                    refine hK63 _ ?_
                                    refine hN62 _ ?_
                                    refine cond_k rfl (fun hc => ?_) (fun hc => ?_)
                                    · try simp only [go_sem, decide_false, decide_true, Bool.not_true, Bool.not_false, h9, hcap0, hcap1, Nat.zero_add, hal, hall, hb0, hb1, hb2, hb3, hg0, hg1, hg2, hg3, hge, hgt3, hp0, hp1, hp2, Int.toNat_zero, Int.toNat_one, Int.reduceToNat, Int.toNat_natCast, hnn, hnn2, hw1, hw2, hbc, hq1, hq2, hq3] at hc
                                      all_goals
                                        refine seq_k fun N64 M64 hN64 hM64 => ?_
                                        refine region_k fun K65 hK65 => ?_
                                        simp only [go_sem, decide_false, decide_true, Bool.not_true, Bool.not_false, h9, hcap0, hcap1, Nat.zero_add, hal, hall, hb0, hb1, hb2, hb3, hg0, hg1, hg2, hg3, hge, hgt3, hp0, hp1, hp2, Int.toNat_zero, Int.toNat_one, Int.reduceToNat, Int.toNat_natCast, hnn, hnn2, hw1, hw2, hbc, hq1, hq2, hq3]
                                        all_goals repeat' (first | apply And.intro | intro _)
                                        all_goals
                                          refine hK65 _ ?_
                                          refine hN64 _ ?_
                                          refine ret_k ?_
                                          refine hM61 _ _ ?_
                                          refine br51 _ ?_
                                          refine hM12 _ _ ?_
                                          refine br11 _ ?_
                                          refine hM10 _ _ ?_
                                          simp only [go_sem, decide_false, decide_true, Bool.not_true, Bool.not_false, h9, hcap0, hcap1, Nat.zero_add, hal, hall, hb0, hb1, hb2, hb3, hg0, hg1, hg2, hg3, hge, hgt3, hp0, hp1, hp2, Int.toNat_zero, Int.toNat_one, Int.reduceToNat, Int.toNat_natCast, hnn, hnn2, hw1, hw2, hbc, hq1, hq2, hq3]
                                          all_goals (rw [hfp, hfe]; exact feed_bad)
                                    · exfalso; revert hc; simp [go_sem, decide_false, decide_true, Bool.not_true, Bool.not_false, h9, hcap0, hcap1, Nat.zero_add, hal, hall, hb0, hb1, hb2, hb3, hg0, hg1, hg2, hg3, hge, hgt3, hp0, hp1, hp2, Int.toNat_zero, Int.toNat_one, Int.reduceToNat, Int.toNat_natCast, hnn, hnn2, hw1, hw2, hbc, hq1, hq2, hq3]
                  · exfalso; revert hc; simp [go_sem, decide_false, decide_true, Bool.not_true, Bool.not_false, h9, hcap0, hcap1, Nat.zero_add, hal, hall, hb0, hb1, hb2, hb3, hg0, hg1, hg2, hg3, hge, hgt3, hp0, hp1, hp2, Int.toNat_zero, Int.toNat_one, Int.reduceToNat, Int.toNat_natCast, hnn, hnn2, hw1, hw2, hbc, hq1, hq2, hq3]
              · simp only [fV_nil, fM_nil, List.cons_append, List.nil_append]
                have hfe := feed_fault hv hs (hf_form hk hn1 hnz) (by decide)
                obtain ⟨b0, hb0⟩ : ∃ b, bt.getD 0 0 = b := ⟨_, rfl⟩
                obtain ⟨b1, hb1⟩ : ∃ b, bt.getD 1 0 = b := ⟨_, rfl⟩
                obtain ⟨b2, hb2⟩ : ∃ b, bt.getD 2 0 = b := ⟨_, rfl⟩
                obtain ⟨b3, hb3⟩ : ∃ b, bt.getD 3 0 = b := ⟨_, rfl⟩
                have hg0 := rowG (bs := bt) (i := 0) (by omega) hb0
                have hg1 := rowG (bs := bt) (i := 1) (by omega) hb1
                have hg2 := rowG (bs := bt) (i := 2) (by omega) hb2
                have hg3 := rowG (bs := bt) (i := 3) (by omega) hb3
                obtain ⟨n, hn⟩ : ∃ x, nOf bt = x := ⟨_, rfl⟩
                have hk0 : kOf bt = b0.toNat := by rw [kOf, hb0]
                have hn0 : 256 * b2.toNat + b3.toNat = n := by rw [← hn, nOf, hb2, hb3]
                have hnl : n < 65536 := hn ▸ nOf_lt bt
                have hl0 := b0.toNat_lt
                have hl1 := b1.toNat_lt
                have hl2 := b2.toNat_lt
                have hl3 := b3.toNat_lt
                have hid : b1.toNat ≤ 255 := by omega
                have hge : (4 : Int) ≤ ((bt.length : Nat) : Int) := by omega
                have hgt3 : (3 : Int) < ((bt.length : Nat) : Int) := by omega
                have hp0 : (0 : Int) < ((bt.length : Nat) : Int) := by omega
                have hp1 : (1 : Int) < ((bt.length : Nat) : Int) := by omega
                have hp2 : (2 : Int) < ((bt.length : Nat) : Int) := by omega
                have hlo : bt.length ≤ all.length := by have := hv.2.2; simp only at this; omega
                rw [hk0] at hk
                rw [hn] at hn1 hnz
                have hk1 : 1 ≤ b0.toNat := by omega
                have hk2 : b0.toNat ≤ 5 := by omega
                have hq1 : (b0 < 1) = False := eq_false fun h => by have := UInt8.lt_iff_toNat_lt.mp h; simp at this; omega
                have hq2 : (5 < b0) = False := eq_false fun h => by have := UInt8.lt_iff_toNat_lt.mp h; simp at this; omega
                have hq3 : ¬ (900 : Int) < ((n : Nat) : Int) := by omega
                have hq4 : (((b0.toNat : Nat) : Int) = 5) = True := eq_true (by omega)
                have hq5 : (0 : Int) < ((n : Nat) : Int) := by omega
                have hq6 : (b0 = 5) = True := eq_true (UInt8.toNat_inj.mp hk)
                obtain ⟨hnn, hnn2, hw1, hw2, hcap⟩ : ior (ishl ((b2.toNat : Nat) : Int) (UInt64.toNat 8)) ((b3.toNat : Nat) : Int) = ((n : Nat) : Int) ∧ Go.RowKit.wrap64 (Go.RowKit.wrap64 (((b2.toNat : Nat) : Int) * 256) + ((b3.toNat : Nat) : Int)) = ((n : Nat) : Int) ∧ Go.RowKit.wrap64 (4 + ((n : Nat) : Int)) = ((n + 4 : Nat) : Int) ∧ Go.RowKit.wrap64 (((bt.length : Nat) : Int) - 4) = ((bt.length - 4 : Nat) : Int) ∧ (0 + 1) * 40 ≤ 140737488355328 := ⟨n_shl hl2 hl3 hn0, n_mul hl2 hl3 hn0, wnat (by omega) (by omega), wnat (by omega) (by omega), by omega⟩
                have hbc : bt.length ≤ 140737488355328 := by clear hnn hnn2 hw1 hw2 hcap; omega
                
                refine seq_k fun N66 M66 hN66 hM66 => ?_
                refine seq_k fun N67 M67 hN67 hM67 => ?_
                refine region_k fun K68 hK68 => ?_
                simp only [go_sem, decide_false, decide_true, Bool.not_true, Bool.not_false, h9, hcap0, hcap1, Nat.zero_add, hal, hall, hb0, hb1, hb2, hb3, hg0, hg1, hg2, hg3, hge, hgt3, hp0, hp1, hp2, Int.toNat_zero, Int.toNat_one, Int.reduceToNat, Int.toNat_natCast, hnn, hnn2, hw1, hw2, hbc, hq1, hq2, hq3, hq4, hq5, hq6]
                all_goals repeat' (first | apply And.intro | intro _)
                all_goals
                  refine hK68 _ ?_
                  refine hN67 _ ?_
                  refine cond_k rfl (fun hc => ?_) (fun hc => ?_)
                  · try simp only [go_sem, decide_false, decide_true, Bool.not_true, Bool.not_false, h9, hcap0, hcap1, Nat.zero_add, hal, hall, hb0, hb1, hb2, hb3, hg0, hg1, hg2, hg3, hge, hgt3, hp0, hp1, hp2, Int.toNat_zero, Int.toNat_one, Int.reduceToNat, Int.toNat_natCast, hnn, hnn2, hw1, hw2, hbc, hq1, hq2, hq3, hq4, hq5, hq6] at hc
                    all_goals
                      refine skip_k ?_
                      refine hN66 _ ?_
                      refine block_k fun B69 bn69 bx69 br69 bi69 => ?_
                      refine seq_k fun N70 M70 hN70 hM70 => ?_
                      refine draw_k [23, 24, 25, 26, 27, 28, 29, 30, 31, 9] [0, 1, 3, 7, 0, 16, 48, 112, 255, 0, 1023] [] mixed (by kernel_rfl) (by simp only [go_sem]) fun K71 hK71 => ?_
                      simp only [go_sem, decide_false, decide_true, Bool.not_true, Bool.not_false, h9, hcap0, hcap1, Nat.zero_add, hal, hall, hb0, hb1, hb2, hb3, hg0, hg1, hg2, hg3, hge, hgt3, hp0, hp1, hp2, Int.toNat_zero, Int.toNat_one, Int.reduceToNat, Int.toNat_natCast, hnn, hnn2, hw1, hw2, hbc, hq1, hq2, hq3, hq4, hq5, hq6]
                      all_goals repeat' (first | apply And.intro | intro _)
                      all_goals
                        refine hK71 _ _ ?_ ?_
                        · first | trivial | (simp only [go_sem]; done) | (simp only [go_sem]; simp; done) | (simp only [go_sem]; simp; simp only [go_sem])
                        refine hN70 _ ?_
                        refine seq_k fun N72 M72 hN72 hM72 => ?_
                        refine draw_k [32, 33, 34, 35, 36, 37, 38, 39, 40, 41, 10] [0, 1, 3, 7, 15, 0, 32, 96, 224, 511, 1023] [] mixed (by kernel_rfl) (by simp only [go_sem]) fun K73 hK73 => ?_
                        simp only [go_sem, decide_false, decide_true, Bool.not_true, Bool.not_false, h9, hcap0, hcap1, Nat.zero_add, hal, hall, hb0, hb1, hb2, hb3, hg0, hg1, hg2, hg3, hge, hgt3, hp0, hp1, hp2, Int.toNat_zero, Int.toNat_one, Int.reduceToNat, Int.toNat_natCast, hnn, hnn2, hw1, hw2, hbc, hq1, hq2, hq3, hq4, hq5, hq6]
                        all_goals repeat' (first | apply And.intro | intro _)
                        all_goals
                          refine hK73 _ _ ?_ ?_
                          · first | trivial | (simp only [go_sem]; done) | (simp only [go_sem]; simp; done) | (simp only [go_sem]; simp; simp only [go_sem])
                          refine hN72 _ ?_
                          refine seq_k fun N74 M74 hN74 hM74 => ?_
                          refine seq_k fun N75 M75 hN75 hM75 => ?_
                          refine region_k fun K76 hK76 => ?_
                          simp only [go_sem, decide_false, decide_true, Bool.not_true, Bool.not_false, h9, hcap0, hcap1, Nat.zero_add, hal, hall, hb0, hb1, hb2, hb3, hg0, hg1, hg2, hg3, hge, hgt3, hp0, hp1, hp2, Int.toNat_zero, Int.toNat_one, Int.reduceToNat, Int.toNat_natCast, hnn, hnn2, hw1, hw2, hbc, hq1, hq2, hq3, hq4, hq5, hq6]
                          all_goals repeat' (first | apply And.intro | intro _)
                          all_goals refine call_view (fun k => k) (fun _ _ => rfl) (by first | rfl | (simp only [go_sem, decide_false, decide_true, Bool.not_true, Bool.not_false, h9, hcap0, hcap1, Nat.zero_add, hal, hall, hb0, hb1, hb2, hb3, hg0, hg1, hg2, hg3, hge, hgt3, hp0, hp1, hp2, Int.toNat_zero, Int.toNat_one, Int.reduceToNat, Int.toNat_natCast, hnn, hnn2, hw1, hw2, hbc, hq1, hq2, hq3, hq4, hq5, hq6]; rfl) | simp only [go_sem, decide_false, decide_true, Bool.not_true, Bool.not_false, h9, hcap0, hcap1, Nat.zero_add, hal, hall, hb0, hb1, hb2, hb3, hg0, hg1, hg2, hg3, hge, hgt3, hp0, hp1, hp2, Int.toNat_zero, Int.toNat_one, Int.reduceToNat, Int.toNat_natCast, hnn, hnn2, hw1, hw2, hbc, hq1, hq2, hq3, hq4, hq5, hq6]) (by first | exact ((fc_low _ _ hid _ _ hk).plain fun _ _ h => h) | exact ((fc_big _ _ hid _ _ hk).plain fun _ _ h => h) | exact ((fc_mid _ _ hid _ _ hk1 (by omega)).plain fun _ _ h => h)) ?_
                          all_goals (rintro v m ⟨hR, hm⟩; subst hR; subst hm)
                          all_goals refine And.intro (by first | rfl | simp only [go_sem, decide_false, decide_true, Bool.not_true, Bool.not_false, h9, hcap0, hcap1, Nat.zero_add, hal, hall, hb0, hb1, hb2, hb3, hg0, hg1, hg2, hg3, hge, hgt3, hp0, hp1, hp2, Int.toNat_zero, Int.toNat_one, Int.reduceToNat, Int.toNat_natCast, hnn, hnn2, hw1, hw2, hbc, hq1, hq2, hq3, hq4, hq5, hq6]) (And.intro (by first | rfl | simp only [go_sem, decide_false, decide_true, Bool.not_true, Bool.not_false, h9, hcap0, hcap1, Nat.zero_add, hal, hall, hb0, hb1, hb2, hb3, hg0, hg1, hg2, hg3, hge, hgt3, hp0, hp1, hp2, Int.toNat_zero, Int.toNat_one, Int.reduceToNat, Int.toNat_natCast, hnn, hnn2, hw1, hw2, hbc, hq1, hq2, hq3, hq4, hq5, hq6]) ?_)
                          all_goals simp only [go_sem, decide_false, decide_true, Bool.not_true, Bool.not_false, h9, hcap0, hcap1, Nat.zero_add, hal, hall, hb0, hb1, hb2, hb3, hg0, hg1, hg2, hg3, hge, hgt3, hp0, hp1, hp2, Int.toNat_zero, Int.toNat_one, Int.reduceToNat, Int.toNat_natCast, hnn, hnn2, hw1, hw2, hbc, hq1, hq2, hq3, hq4, hq5, hq6]
                          all_goals repeat' (first | apply And.intro | intro _)
                          all_goals
                            refine hK76 _ ?_
                            refine hN75 _ ?_
                            refine seq_k fun N77 M77 hN77 hM77 => ?_
                            refine region_k fun K78 hK78 => ?_
                            simp only [go_sem, decide_false, decide_true, Bool.not_true, Bool.not_false, h9, hcap0, hcap1, Nat.zero_add, hal, hall, hb0, hb1, hb2, hb3, hg0, hg1, hg2, hg3, hge, hgt3, hp0, hp1, hp2, Int.toNat_zero, Int.toNat_one, Int.reduceToNat, Int.toNat_natCast, hnn, hnn2, hw1, hw2, hbc, hq1, hq2, hq3, hq4, hq5, hq6]
                            all_goals repeat' (first | apply And.intro | intro _)
                            all_goals
                              refine hK78 _ ?_
                              refine hN77 _ ?_
                              refine cond_k rfl (fun hc => ?_) (fun hc => ?_)
                              · exfalso; revert hc; simp [go_sem, decide_false, decide_true, Bool.not_true, Bool.not_false, h9, hcap0, hcap1, Nat.zero_add, hal, hall, hb0, hb1, hb2, hb3, hg0, hg1, hg2, hg3, hge, hgt3, hp0, hp1, hp2, Int.toNat_zero, Int.toNat_one, Int.reduceToNat, Int.toNat_natCast, hnn, hnn2, hw1, hw2, hbc, hq1, hq2, hq3, hq4, hq5, hq6]
                              · try simp only [go_sem, decide_false, decide_true, Bool.not_true, Bool.not_false, h9, hcap0, hcap1, Nat.zero_add, hal, hall, hb0, hb1, hb2, hb3, hg0, hg1, hg2, hg3, hge, hgt3, hp0, hp1, hp2, Int.toNat_zero, Int.toNat_one, Int.reduceToNat, Int.toNat_natCast, hnn, hnn2, hw1, hw2, hbc, hq1, hq2, hq3, hq4, hq5, hq6] at hc
                                all_goals
                                  refine skip_k ?_
                                  refine hN74 _ ?_
                                  refine seq_k fun N79 M79 hN79 hM79 => ?_
                                  refine seq_k fun N80 M80 hN80 hM80 => ?_
                                  refine region_k fun K81 hK81 => ?_
                                  simp only [go_sem, decide_false, decide_true, Bool.not_true, Bool.not_false, h9, hcap0, hcap1, Nat.zero_add, hal, hall, hb0, hb1, hb2, hb3, hg0, hg1, hg2, hg3, hge, hgt3, hp0, hp1, hp2, Int.toNat_zero, Int.toNat_one, Int.reduceToNat, Int.toNat_natCast, hnn, hnn2, hw1, hw2, hbc, hq1, hq2, hq3, hq4, hq5, hq6]
                                  all_goals repeat' (first | apply And.intro | intro _)
                                  all_goals
                                    refine hK81 _ ?_
                                    refine hN80 _ ?_
                                    refine cond_k rfl (fun hc => ?_) (fun hc => ?_)
                                    · exfalso; revert hc; simp [go_sem, decide_false, decide_true, Bool.not_true, Bool.not_false, h9, hcap0, hcap1, Nat.zero_add, hal, hall, hb0, hb1, hb2, hb3, hg0, hg1, hg2, hg3, hge, hgt3, hp0, hp1, hp2, Int.toNat_zero, Int.toNat_one, Int.reduceToNat, Int.toNat_natCast, hnn, hnn2, hw1, hw2, hbc, hq1, hq2, hq3, hq4, hq5, hq6]
                                    · try simp only [go_sem, decide_false, decide_true, Bool.not_true, Bool.not_false, h9, hcap0, hcap1, Nat.zero_add, hal, hall, hb0, hb1, hb2, hb3, hg0, hg1, hg2, hg3, hge, hgt3, hp0, hp1, hp2, Int.toNat_zero, Int.toNat_one, Int.reduceToNat, Int.toNat_natCast, hnn, hnn2, hw1, hw2, hbc, hq1, hq2, hq3, hq4, hq5, hq6] at hc
                                      all_goals
                                        refine skip_k ?_
                                        refine hN79 _ ?_
                                        refine seq_k fun N82 M82 hN82 hM82 => ?_
                                        refine seq_k fun N83 M83 hN83 hM83 => ?_
                                        refine region_k fun K84 hK84 => ?_
                                        simp only [go_sem, decide_false, decide_true, Bool.not_true, Bool.not_false, h9, hcap0, hcap1, Nat.zero_add, hal, hall, hb0, hb1, hb2, hb3, hg0, hg1, hg2, hg3, hge, hgt3, hp0, hp1, hp2, Int.toNat_zero, Int.toNat_one, Int.reduceToNat, Int.toNat_natCast, hnn, hnn2, hw1, hw2, hbc, hq1, hq2, hq3, hq4, hq5, hq6]
                                        all_goals repeat' (first | apply And.intro | intro _)
                                        all_goals
                                          refine hK84 _ ?_
                                          refine hN83 _ ?_
                                          refine cond_k rfl (fun hc => ?_) (fun hc => ?_)
                                          · try simp only [go_sem, decide_false, decide_true, Bool.not_true, Bool.not_false, h9, hcap0, hcap1, Nat.zero_add, hal, hall, hb0, hb1, hb2, hb3, hg0, hg1, hg2, hg3, hge, hgt3, hp0, hp1, hp2, Int.toNat_zero, Int.toNat_one, Int.reduceToNat, Int.toNat_natCast, hnn, hnn2, hw1, hw2, hbc, hq1, hq2, hq3, hq4, hq5, hq6] at hc
                                            all_goals
                                              refine seq_k fun N85 M85 hN85 hM85 => ?_
                                              refine region_k fun K86 hK86 => ?_
                                              simp only [go_sem, decide_false, decide_true, Bool.not_true, Bool.not_false, h9, hcap0, hcap1, Nat.zero_add, hal, hall, hb0, hb1, hb2, hb3, hg0, hg1, hg2, hg3, hge, hgt3, hp0, hp1, hp2, Int.toNat_zero, Int.toNat_one, Int.reduceToNat, Int.toNat_natCast, hnn, hnn2, hw1, hw2, hbc, hq1, hq2, hq3, hq4, hq5, hq6]
                                              all_goals repeat' (first | apply And.intro | intro _)
                                              all_goals
                                                refine hK86 _ ?_
                                                refine hN85 _ ?_
                                                refine ret_k ?_
                                                refine hM82 _ _ ?_
                                                refine br69 _ ?_
                                                refine hM12 _ _ ?_
                                                refine br11 _ ?_
                                                refine hM10 _ _ ?_
                                                simp only [go_sem, decide_false, decide_true, Bool.not_true, Bool.not_false, h9, hcap0, hcap1, Nat.zero_add, hal, hall, hb0, hb1, hb2, hb3, hg0, hg1, hg2, hg3, hge, hgt3, hp0, hp1, hp2, Int.toNat_zero, Int.toNat_one, Int.reduceToNat, Int.toNat_natCast, hnn, hnn2, hw1, hw2, hbc, hq1, hq2, hq3, hq4, hq5, hq6]
                                                all_goals (rw [hfp, hfe]; exact feed_bad)
                                          · exfalso; revert hc; simp [go_sem, decide_false, decide_true, Bool.not_true, Bool.not_false, h9, hcap0, hcap1, Nat.zero_add, hal, hall, hb0, hb1, hb2, hb3, hg0, hg1, hg2, hg3, hge, hgt3, hp0, hp1, hp2, Int.toNat_zero, Int.toNat_one, Int.reduceToNat, Int.toNat_natCast, hnn, hnn2, hw1, hw2, hbc, hq1, hq2, hq3, hq4, hq5, hq6]
                  · exfalso; revert hc; simp [go_sem, decide_false, decide_true, Bool.not_true, Bool.not_false, h9, hcap0, hcap1, Nat.zero_add, hal, hall, hb0, hb1, hb2, hb3, hg0, hg1, hg2, hg3, hge, hgt3, hp0, hp1, hp2, Int.toNat_zero, Int.toNat_one, Int.reduceToNat, Int.toNat_natCast, hnn, hnn2, hw1, hw2, hbc, hq1, hq2, hq3, hq4, hq5, hq6]
              · simp only [fV_nil, fM_nil, List.cons_append, List.nil_append]
                have hfe := feed_wait hv hs (hf_ok hk1 (by omega) hnz (by omega)) hw
                obtain ⟨b0, hb0⟩ : ∃ b, bt.getD 0 0 = b := ⟨_, rfl⟩
                obtain ⟨b1, hb1⟩ : ∃ b, bt.getD 1 0 = b := ⟨_, rfl⟩
                obtain ⟨b2, hb2⟩ : ∃ b, bt.getD 2 0 = b := ⟨_, rfl⟩
                obtain ⟨b3, hb3⟩ : ∃ b, bt.getD 3 0 = b := ⟨_, rfl⟩
                have hg0 := rowG (bs := bt) (i := 0) (by omega) hb0
                have hg1 := rowG (bs := bt) (i := 1) (by omega) hb1
                have hg2 := rowG (bs := bt) (i := 2) (by omega) hb2
                have hg3 := rowG (bs := bt) (i := 3) (by omega) hb3
                obtain ⟨n, hn⟩ : ∃ x, nOf bt = x := ⟨_, rfl⟩
                have hk0 : kOf bt = b0.toNat := by rw [kOf, hb0]
                have hn0 : 256 * b2.toNat + b3.toNat = n := by rw [← hn, nOf, hb2, hb3]
                have hnl : n < 65536 := hn ▸ nOf_lt bt
                have hl0 := b0.toNat_lt
                have hl1 := b1.toNat_lt
                have hl2 := b2.toNat_lt
                have hl3 := b3.toNat_lt
                have hid : b1.toNat ≤ 255 := by omega
                have hge : (4 : Int) ≤ ((bt.length : Nat) : Int) := by omega
                have hgt3 : (3 : Int) < ((bt.length : Nat) : Int) := by omega
                have hp0 : (0 : Int) < ((bt.length : Nat) : Int) := by omega
                have hp1 : (1 : Int) < ((bt.length : Nat) : Int) := by omega
                have hp2 : (2 : Int) < ((bt.length : Nat) : Int) := by omega
                have hlo : bt.length ≤ all.length := by have := hv.2.2; simp only at this; omega
                rw [hk0] at hk1 hk2
                rw [hn] at hnz hw
                have hq1 : (b0 < 1) = False := eq_false fun h => by have := UInt8.lt_iff_toNat_lt.mp h; simp at this; omega
                have hq2 : (5 < b0) = False := eq_false fun h => by have := UInt8.lt_iff_toNat_lt.mp h; simp at this; omega
                have hq3 : ¬ (900 : Int) < ((n : Nat) : Int) := by omega
                have hq4 : ¬ ((b0.toNat : Nat) : Int) = 5 := by omega
                have hq6 : (b0 = 5) = False := eq_false fun h => by subst h; simp at hk2
                have hq7 : ((bt.length : Nat) : Int) < ((n + 4 : Nat) : Int) := by omega
                have hq8 : ((bt.length - 4 : Nat) : Int) < ((n : Nat) : Int) := by omega
                obtain ⟨hnn, hnn2, hw1, hw2, hcap⟩ : ior (ishl ((b2.toNat : Nat) : Int) (UInt64.toNat 8)) ((b3.toNat : Nat) : Int) = ((n : Nat) : Int) ∧ Go.RowKit.wrap64 (Go.RowKit.wrap64 (((b2.toNat : Nat) : Int) * 256) + ((b3.toNat : Nat) : Int)) = ((n : Nat) : Int) ∧ Go.RowKit.wrap64 (4 + ((n : Nat) : Int)) = ((n + 4 : Nat) : Int) ∧ Go.RowKit.wrap64 (((bt.length : Nat) : Int) - 4) = ((bt.length - 4 : Nat) : Int) ∧ (0 + 1) * 40 ≤ 140737488355328 := ⟨n_shl hl2 hl3 hn0, n_mul hl2 hl3 hn0, wnat (by omega) (by omega), wnat (by omega) (by omega), by omega⟩
                have hbc : bt.length ≤ 140737488355328 := by clear hnn hnn2 hw1 hw2 hcap; omega
                
                refine seq_k fun N87 M87 hN87 hM87 => ?_
                refine seq_k fun N88 M88 hN88 hM88 => ?_
                refine region_k fun K89 hK89 => ?_
                simp only [go_sem, decide_false, decide_true, Bool.not_true, Bool.not_false, h9, hcap0, hcap1, Nat.zero_add, hal, hall, hb0, hb1, hb2, hb3, hg0, hg1, hg2, hg3, hge, hgt3, hp0, hp1, hp2, Int.toNat_zero, Int.toNat_one, Int.reduceToNat, Int.toNat_natCast, hnn, hnn2, hw1, hw2, hbc, hq1, hq2, hq3, hq4, hq6, hq7, hq8]
                all_goals repeat' (first | apply And.intro | intro _)
                all_goals
                  refine hK89 _ ?_
                  refine hN88 _ ?_
                  refine cond_k rfl (fun hc => ?_) (fun hc => ?_)
                  · try simp only [go_sem, decide_false, decide_true, Bool.not_true, Bool.not_false, h9, hcap0, hcap1, Nat.zero_add, hal, hall, hb0, hb1, hb2, hb3, hg0, hg1, hg2, hg3, hge, hgt3, hp0, hp1, hp2, Int.toNat_zero, Int.toNat_one, Int.reduceToNat, Int.toNat_natCast, hnn, hnn2, hw1, hw2, hbc, hq1, hq2, hq3, hq4, hq6, hq7, hq8] at hc
                    all_goals
                      refine skip_k ?_
                      refine hN87 _ ?_
                      refine block_k fun B90 bn90 bx90 br90 bi90 => ?_
                      refine seq_k fun N91 M91 hN91 hM91 => ?_
                      refine draw_k [23, 24, 25, 26, 27, 28, 29, 30, 31, 9] [0, 1, 3, 7, 0, 16, 48, 112, 255, 0, 1023] [] mixed (by kernel_rfl) (by simp only [go_sem]) fun K92 hK92 => ?_
                      simp only [go_sem, decide_false, decide_true, Bool.not_true, Bool.not_false, h9, hcap0, hcap1, Nat.zero_add, hal, hall, hb0, hb1, hb2, hb3, hg0, hg1, hg2, hg3, hge, hgt3, hp0, hp1, hp2, Int.toNat_zero, Int.toNat_one, Int.reduceToNat, Int.toNat_natCast, hnn, hnn2, hw1, hw2, hbc, hq1, hq2, hq3, hq4, hq6, hq7, hq8]
                      all_goals repeat' (first | apply And.intro | intro _)
                      all_goals
                        refine hK92 _ _ ?_ ?_
                        · first | trivial | (simp only [go_sem]; done) | (simp only [go_sem]; simp; done) | (simp only [go_sem]; simp; simp only [go_sem])
                        refine hN91 _ ?_
                        refine seq_k fun N93 M93 hN93 hM93 => ?_
                        refine draw_k [32, 33, 34, 35, 36, 37, 38, 39, 40, 41, 10] [0, 1, 3, 7, 15, 0, 32, 96, 224, 511, 1023] [] mixed (by kernel_rfl) (by simp only [go_sem]) fun K94 hK94 => ?_
                        simp only [go_sem, decide_false, decide_true, Bool.not_true, Bool.not_false, h9, hcap0, hcap1, Nat.zero_add, hal, hall, hb0, hb1, hb2, hb3, hg0, hg1, hg2, hg3, hge, hgt3, hp0, hp1, hp2, Int.toNat_zero, Int.toNat_one, Int.reduceToNat, Int.toNat_natCast, hnn, hnn2, hw1, hw2, hbc, hq1, hq2, hq3, hq4, hq6, hq7, hq8]
                        all_goals repeat' (first | apply And.intro | intro _)
                        all_goals
                          refine hK94 _ _ ?_ ?_
                          · first | trivial | (simp only [go_sem]; done) | (simp only [go_sem]; simp; done) | (simp only [go_sem]; simp; simp only [go_sem])
                          refine hN93 _ ?_
                          refine seq_k fun N95 M95 hN95 hM95 => ?_
                          refine seq_k fun N96 M96 hN96 hM96 => ?_
                          refine region_k fun K97 hK97 => ?_
                          simp only [go_sem, decide_false, decide_true, Bool.not_true, Bool.not_false, h9, hcap0, hcap1, Nat.zero_add, hal, hall, hb0, hb1, hb2, hb3, hg0, hg1, hg2, hg3, hge, hgt3, hp0, hp1, hp2, Int.toNat_zero, Int.toNat_one, Int.reduceToNat, Int.toNat_natCast, hnn, hnn2, hw1, hw2, hbc, hq1, hq2, hq3, hq4, hq6, hq7, hq8]
                          all_goals repeat' (first | apply And.intro | intro _)
                          all_goals refine call_view (fun k => k) (fun _ _ => rfl) (by first | rfl | (simp only [go_sem, decide_false, decide_true, Bool.not_true, Bool.not_false, h9, hcap0, hcap1, Nat.zero_add, hal, hall, hb0, hb1, hb2, hb3, hg0, hg1, hg2, hg3, hge, hgt3, hp0, hp1, hp2, Int.toNat_zero, Int.toNat_one, Int.reduceToNat, Int.toNat_natCast, hnn, hnn2, hw1, hw2, hbc, hq1, hq2, hq3, hq4, hq6, hq7, hq8]; rfl) | simp only [go_sem, decide_false, decide_true, Bool.not_true, Bool.not_false, h9, hcap0, hcap1, Nat.zero_add, hal, hall, hb0, hb1, hb2, hb3, hg0, hg1, hg2, hg3, hge, hgt3, hp0, hp1, hp2, Int.toNat_zero, Int.toNat_one, Int.reduceToNat, Int.toNat_natCast, hnn, hnn2, hw1, hw2, hbc, hq1, hq2, hq3, hq4, hq6, hq7, hq8]) (by first | exact ((fc_low _ _ hid _ _ hk).plain fun _ _ h => h) | exact ((fc_big _ _ hid _ _ hk).plain fun _ _ h => h) | exact ((fc_mid _ _ hid _ _ hk1 (by omega)).plain fun _ _ h => h)) ?_
                          all_goals (rintro v m ⟨hR, hm⟩; subst hR; subst hm)
                          all_goals refine And.intro (by first | rfl | simp only [go_sem, decide_false, decide_true, Bool.not_true, Bool.not_false, h9, hcap0, hcap1, Nat.zero_add, hal, hall, hb0, hb1, hb2, hb3, hg0, hg1, hg2, hg3, hge, hgt3, hp0, hp1, hp2, Int.toNat_zero, Int.toNat_one, Int.reduceToNat, Int.toNat_natCast, hnn, hnn2, hw1, hw2, hbc, hq1, hq2, hq3, hq4, hq6, hq7, hq8]) (And.intro (by first | rfl | simp only [go_sem, decide_false, decide_true, Bool.not_true, Bool.not_false, h9, hcap0, hcap1, Nat.zero_add, hal, hall, hb0, hb1, hb2, hb3, hg0, hg1, hg2, hg3, hge, hgt3, hp0, hp1, hp2, Int.toNat_zero, Int.toNat_one, Int.reduceToNat, Int.toNat_natCast, hnn, hnn2, hw1, hw2, hbc, hq1, hq2, hq3, hq4, hq6, hq7, hq8]) ?_)
                          all_goals simp only [go_sem, decide_false, decide_true, Bool.not_true, Bool.not_false, h9, hcap0, hcap1, Nat.zero_add, hal, hall, hb0, hb1, hb2, hb3, hg0, hg1, hg2, hg3, hge, hgt3, hp0, hp1, hp2, Int.toNat_zero, Int.toNat_one, Int.reduceToNat, Int.toNat_natCast, hnn, hnn2, hw1, hw2, hbc, hq1, hq2, hq3, hq4, hq6, hq7, hq8]
                          all_goals repeat' (first | apply And.intro | intro _)
                          all_goals
                            refine hK97 _ ?_
                            refine hN96 _ ?_
                            refine seq_k fun N98 M98 hN98 hM98 => ?_
                            refine region_k fun K99 hK99 => ?_
                            simp only [go_sem, decide_false, decide_true, Bool.not_true, Bool.not_false, h9, hcap0, hcap1, Nat.zero_add, hal, hall, hb0, hb1, hb2, hb3, hg0, hg1, hg2, hg3, hge, hgt3, hp0, hp1, hp2, Int.toNat_zero, Int.toNat_one, Int.reduceToNat, Int.toNat_natCast, hnn, hnn2, hw1, hw2, hbc, hq1, hq2, hq3, hq4, hq6, hq7, hq8]
                            all_goals repeat' (first | apply And.intro | intro _)
                            all_goals
                              refine hK99 _ ?_
                              refine hN98 _ ?_
                              refine cond_k rfl (fun hc => ?_) (fun hc => ?_)
                              · exfalso; revert hc; simp [go_sem, decide_false, decide_true, Bool.not_true, Bool.not_false, h9, hcap0, hcap1, Nat.zero_add, hal, hall, hb0, hb1, hb2, hb3, hg0, hg1, hg2, hg3, hge, hgt3, hp0, hp1, hp2, Int.toNat_zero, Int.toNat_one, Int.reduceToNat, Int.toNat_natCast, hnn, hnn2, hw1, hw2, hbc, hq1, hq2, hq3, hq4, hq6, hq7, hq8]
                              · try simp only [go_sem, decide_false, decide_true, Bool.not_true, Bool.not_false, h9, hcap0, hcap1, Nat.zero_add, hal, hall, hb0, hb1, hb2, hb3, hg0, hg1, hg2, hg3, hge, hgt3, hp0, hp1, hp2, Int.toNat_zero, Int.toNat_one, Int.reduceToNat, Int.toNat_natCast, hnn, hnn2, hw1, hw2, hbc, hq1, hq2, hq3, hq4, hq6, hq7, hq8] at hc
                                all_goals
                                  refine skip_k ?_
                                  refine hN95 _ ?_
                                  refine seq_k fun N100 M100 hN100 hM100 => ?_
                                  refine seq_k fun N101 M101 hN101 hM101 => ?_
                                  refine region_k fun K102 hK102 => ?_
                                  simp only [go_sem, decide_false, decide_true, Bool.not_true, Bool.not_false, h9, hcap0, hcap1, Nat.zero_add, hal, hall, hb0, hb1, hb2, hb3, hg0, hg1, hg2, hg3, hge, hgt3, hp0, hp1, hp2, Int.toNat_zero, Int.toNat_one, Int.reduceToNat, Int.toNat_natCast, hnn, hnn2, hw1, hw2, hbc, hq1, hq2, hq3, hq4, hq6, hq7, hq8]
                                  all_goals repeat' (first | apply And.intro | intro _)
                                  all_goals
                                    refine hK102 _ ?_
                                    refine hN101 _ ?_
                                    refine cond_k rfl (fun hc => ?_) (fun hc => ?_)
                                    · exfalso; revert hc; simp [go_sem, decide_false, decide_true, Bool.not_true, Bool.not_false, h9, hcap0, hcap1, Nat.zero_add, hal, hall, hb0, hb1, hb2, hb3, hg0, hg1, hg2, hg3, hge, hgt3, hp0, hp1, hp2, Int.toNat_zero, Int.toNat_one, Int.reduceToNat, Int.toNat_natCast, hnn, hnn2, hw1, hw2, hbc, hq1, hq2, hq3, hq4, hq6, hq7, hq8]
                                    · try simp only [go_sem, decide_false, decide_true, Bool.not_true, Bool.not_false, h9, hcap0, hcap1, Nat.zero_add, hal, hall, hb0, hb1, hb2, hb3, hg0, hg1, hg2, hg3, hge, hgt3, hp0, hp1, hp2, Int.toNat_zero, Int.toNat_one, Int.reduceToNat, Int.toNat_natCast, hnn, hnn2, hw1, hw2, hbc, hq1, hq2, hq3, hq4, hq6, hq7, hq8] at hc
                                      all_goals
                                        refine skip_k ?_
                                        refine hN100 _ ?_
                                        refine seq_k fun N103 M103 hN103 hM103 => ?_
                                        refine seq_k fun N104 M104 hN104 hM104 => ?_
                                        refine region_k fun K105 hK105 => ?_
                                        simp only [go_sem, decide_false, decide_true, Bool.not_true, Bool.not_false, h9, hcap0, hcap1, Nat.zero_add, hal, hall, hb0, hb1, hb2, hb3, hg0, hg1, hg2, hg3, hge, hgt3, hp0, hp1, hp2, Int.toNat_zero, Int.toNat_one, Int.reduceToNat, Int.toNat_natCast, hnn, hnn2, hw1, hw2, hbc, hq1, hq2, hq3, hq4, hq6, hq7, hq8]
                                        all_goals repeat' (first | apply And.intro | intro _)
                                        all_goals
                                          refine hK105 _ ?_
                                          refine hN104 _ ?_
                                          refine cond_k rfl (fun hc => ?_) (fun hc => ?_)
                                          · exfalso; revert hc; simp [go_sem, decide_false, decide_true, Bool.not_true, Bool.not_false, h9, hcap0, hcap1, Nat.zero_add, hal, hall, hb0, hb1, hb2, hb3, hg0, hg1, hg2, hg3, hge, hgt3, hp0, hp1, hp2, Int.toNat_zero, Int.toNat_one, Int.reduceToNat, Int.toNat_natCast, hnn, hnn2, hw1, hw2, hbc, hq1, hq2, hq3, hq4, hq6, hq7, hq8]
                                          · try simp only [go_sem, decide_false, decide_true, Bool.not_true, Bool.not_false, h9, hcap0, hcap1, Nat.zero_add, hal, hall, hb0, hb1, hb2, hb3, hg0, hg1, hg2, hg3, hge, hgt3, hp0, hp1, hp2, Int.toNat_zero, Int.toNat_one, Int.reduceToNat, Int.toNat_natCast, hnn, hnn2, hw1, hw2, hbc, hq1, hq2, hq3, hq4, hq6, hq7, hq8] at hc
                                            all_goals
                                              refine skip_k ?_
                                              refine hN103 _ ?_
                                              refine seq_k fun N106 M106 hN106 hM106 => ?_
                                              refine seq_k fun N107 M107 hN107 hM107 => ?_
                                              refine region_k fun K108 hK108 => ?_
                                              simp only [go_sem, decide_false, decide_true, Bool.not_true, Bool.not_false, h9, hcap0, hcap1, Nat.zero_add, hal, hall, hb0, hb1, hb2, hb3, hg0, hg1, hg2, hg3, hge, hgt3, hp0, hp1, hp2, Int.toNat_zero, Int.toNat_one, Int.reduceToNat, Int.toNat_natCast, hnn, hnn2, hw1, hw2, hbc, hq1, hq2, hq3, hq4, hq6, hq7, hq8]
                                              all_goals repeat' (first | apply And.intro | intro _)
                                              all_goals
                                                refine hK108 _ ?_
                                                refine hN107 _ ?_
                                                refine cond_k rfl (fun hc => ?_) (fun hc => ?_)
                                                · try simp only [go_sem, decide_false, decide_true, Bool.not_true, Bool.not_false, h9, hcap0, hcap1, Nat.zero_add, hal, hall, hb0, hb1, hb2, hb3, hg0, hg1, hg2, hg3, hge, hgt3, hp0, hp1, hp2, Int.toNat_zero, Int.toNat_one, Int.reduceToNat, Int.toNat_natCast, hnn, hnn2, hw1, hw2, hbc, hq1, hq2, hq3, hq4, hq6, hq7, hq8] at hc
                                                  all_goals
                                                    refine exit_k ?_
                                                    refine hM106 _ _ ?_
                                                    refine bi90 _ _ (by decide) ?_
                                                    refine hM12 _ _ ?_
                                                    refine bx11 _ ?_
                                                    refine hN10 _ ?_
                                                    refine seq_k fun N109 M109 hN109 hM109 => ?_
                                                    refine region_k fun K110 hK110 => ?_
                                                    simp only [go_sem, decide_false, decide_true, Bool.not_true, Bool.not_false, h9, hcap0, hcap1, Nat.zero_add, hal, hall, hb0, hb1, hb2, hb3, hg0, hg1, hg2, hg3, hge, hgt3, hp0, hp1, hp2, Int.toNat_zero, Int.toNat_one, Int.reduceToNat, Int.toNat_natCast, hnn, hnn2, hw1, hw2, hbc, hq1, hq2, hq3, hq4, hq6, hq7, hq8]
                                                    all_goals repeat' (first | apply And.intro | intro _)
                                                    all_goals
                                                      refine hK110 _ ?_
                                                      refine hN109 _ ?_
                                                      refine ret_k ?_
                                                      simp only [go_sem, decide_false, decide_true, Bool.not_true, Bool.not_false, h9, hcap0, hcap1, Nat.zero_add, hal, hall, hb0, hb1, hb2, hb3, hg0, hg1, hg2, hg3, hge, hgt3, hp0, hp1, hp2, Int.toNat_zero, Int.toNat_one, Int.reduceToNat, Int.toNat_natCast, hnn, hnn2, hw1, hw2, hbc, hq1, hq2, hq3, hq4, hq6, hq7, hq8]
                                                      all_goals (rw [hfp, hfe]; exact feed_end_nil (b := true) (by simp [look]) rfl)
                                                · exfalso; revert hc; simp [go_sem, decide_false, decide_true, Bool.not_true, Bool.not_false, h9, hcap0, hcap1, Nat.zero_add, hal, hall, hb0, hb1, hb2, hb3, hg0, hg1, hg2, hg3, hge, hgt3, hp0, hp1, hp2, Int.toNat_zero, Int.toNat_one, Int.reduceToNat, Int.toNat_natCast, hnn, hnn2, hw1, hw2, hbc, hq1, hq2, hq3, hq4, hq6, hq7, hq8]
                  · exfalso; revert hc; simp [go_sem, decide_false, decide_true, Bool.not_true, Bool.not_false, h9, hcap0, hcap1, Nat.zero_add, hal, hall, hb0, hb1, hb2, hb3, hg0, hg1, hg2, hg3, hge, hgt3, hp0, hp1, hp2, Int.toNat_zero, Int.toNat_one, Int.reduceToNat, Int.toNat_natCast, hnn, hnn2, hw1, hw2, hbc, hq1, hq2, hq3, hq4, hq6, hq7, hq8]
              · simp only [fV_nil, fM_nil, List.cons_append, List.nil_append]
                have hnx := feed_next hv hs (hf_ok hk1 (by omega) hnz (by omega)) hw
                obtain ⟨b0, hb0⟩ : ∃ b, bt.getD 0 0 = b := ⟨_, rfl⟩
                obtain ⟨b1, hb1⟩ : ∃ b, bt.getD 1 0 = b := ⟨_, rfl⟩
                obtain ⟨b2, hb2⟩ : ∃ b, bt.getD 2 0 = b := ⟨_, rfl⟩
                obtain ⟨b3, hb3⟩ : ∃ b, bt.getD 3 0 = b := ⟨_, rfl⟩
                have hg0 := rowG (bs := bt) (i := 0) (by omega) hb0
                have hg1 := rowG (bs := bt) (i := 1) (by omega) hb1
                have hg2 := rowG (bs := bt) (i := 2) (by omega) hb2
                have hg3 := rowG (bs := bt) (i := 3) (by omega) hb3
                obtain ⟨n, hn⟩ : ∃ x, nOf bt = x := ⟨_, rfl⟩
                have hk0 : kOf bt = b0.toNat := by rw [kOf, hb0]
                have hn0 : 256 * b2.toNat + b3.toNat = n := by rw [← hn, nOf, hb2, hb3]
                have hnl : n < 65536 := hn ▸ nOf_lt bt
                have hl0 := b0.toNat_lt
                have hl1 := b1.toNat_lt
                have hl2 := b2.toNat_lt
                have hl3 := b3.toNat_lt
                have hid : b1.toNat ≤ 255 := by omega
                have hge : (4 : Int) ≤ ((bt.length : Nat) : Int) := by omega
                have hgt3 : (3 : Int) < ((bt.length : Nat) : Int) := by omega
                have hp0 : (0 : Int) < ((bt.length : Nat) : Int) := by omega
                have hp1 : (1 : Int) < ((bt.length : Nat) : Int) := by omega
                have hp2 : (2 : Int) < ((bt.length : Nat) : Int) := by omega
                have hlo : bt.length ≤ all.length := by have := hv.2.2; simp only at this; omega
                rw [hk0] at hk1 hk2
                rw [hn] at hnz hw hnx
                have hq1 : (b0 < 1) = False := eq_false fun h => by have := UInt8.lt_iff_toNat_lt.mp h; simp at this; omega
                have hq2 : (5 < b0) = False := eq_false fun h => by have := UInt8.lt_iff_toNat_lt.mp h; simp at this; omega
                have hq3 : ¬ (900 : Int) < ((n : Nat) : Int) := by omega
                have hq4 : ¬ ((b0.toNat : Nat) : Int) = 5 := by omega
                have hq6 : (b0 = 5) = False := eq_false fun h => by subst h; simp at hk2
                have hlt : 4 + n ≤ bt.length := by omega
                have hq7 : ¬ ((bt.length : Nat) : Int) < ((n + 4 : Nat) : Int) := by omega
                have hq8 : ¬ ((bt.length - 4 : Nat) : Int) < ((n : Nat) : Int) := by omega
                have hc6 : ((n + 4 : Nat) : Int) ≤ ((bt.length : Nat) : Int) := by omega
                have hc7 : (0 : Int) ≤ ((n + 4 : Nat) : Int) := by omega
                have hc8 : (4 : Int) ≤ ((n + 4 : Nat) : Int) := by omega
                have hd4 : n + 4 - 4 = n := by omega
                have hmi : min n (bt.length - 4) = n := by omega
                have hcap2 : n ≤ 140737488355328 := by omega
                have htk : ((bt.drop 4).take n).length = n := by rw [List.length_take, List.length_drop]; omega
                have hfr : frOf bt = ⟨b0.toNat, b1.toNat, (bt.drop 4).take n⟩ := by rw [frOf, hk0, iOf, hb1, hn]
                have hs61 := seal_bytes (k := 61) (bs := (bt.drop 4).take n) htk.symm
                obtain ⟨hnn, hnn2, hw1, hw2, hcap⟩ : ior (ishl ((b2.toNat : Nat) : Int) (UInt64.toNat 8)) ((b3.toNat : Nat) : Int) = ((n : Nat) : Int) ∧ Go.RowKit.wrap64 (Go.RowKit.wrap64 (((b2.toNat : Nat) : Int) * 256) + ((b3.toNat : Nat) : Int)) = ((n : Nat) : Int) ∧ Go.RowKit.wrap64 (4 + ((n : Nat) : Int)) = ((n + 4 : Nat) : Int) ∧ Go.RowKit.wrap64 (((bt.length : Nat) : Int) - 4) = ((bt.length - 4 : Nat) : Int) ∧ (0 + 1) * 40 ≤ 140737488355328 := ⟨n_shl hl2 hl3 hn0, n_mul hl2 hl3 hn0, wnat (by omega) (by omega), wnat (by omega) (by omega), by omega⟩
                have hbc : bt.length ≤ 140737488355328 := by clear hnn hnn2 hw1 hw2 hcap; omega
                
                refine seq_k fun N111 M111 hN111 hM111 => ?_
                refine seq_k fun N112 M112 hN112 hM112 => ?_
                refine region_k fun K113 hK113 => ?_
                simp only [go_sem, decide_false, decide_true, Bool.not_true, Bool.not_false, h9, hcap0, hcap1, Nat.zero_add, hal, hall, hb0, hb1, hb2, hb3, hg0, hg1, hg2, hg3, hge, hgt3, hp0, hp1, hp2, Int.toNat_zero, Int.toNat_one, Int.reduceToNat, Int.toNat_natCast, hnn, hnn2, hw1, hw2, hbc, hq1, hq2, hq3, hq4, hq6, hq7, hq8, hc6, hc7, hc8, hd4, hmi, hcap2, htk, hs61, hcap, List.length_take, List.length_drop]
                all_goals repeat' (first | apply And.intro | intro _)
                all_goals
                  refine hK113 _ ?_
                  refine hN112 _ ?_
                  refine cond_k rfl (fun hc => ?_) (fun hc => ?_)
                  · try simp only [go_sem, decide_false, decide_true, Bool.not_true, Bool.not_false, h9, hcap0, hcap1, Nat.zero_add, hal, hall, hb0, hb1, hb2, hb3, hg0, hg1, hg2, hg3, hge, hgt3, hp0, hp1, hp2, Int.toNat_zero, Int.toNat_one, Int.reduceToNat, Int.toNat_natCast, hnn, hnn2, hw1, hw2, hbc, hq1, hq2, hq3, hq4, hq6, hq7, hq8, hc6, hc7, hc8, hd4, hmi, hcap2, htk, hs61, hcap, List.length_take, List.length_drop] at hc
                    all_goals
                      refine skip_k ?_
                      refine hN111 _ ?_
                      refine block_k fun B114 bn114 bx114 br114 bi114 => ?_
                      refine seq_k fun N115 M115 hN115 hM115 => ?_
                      refine draw_k [23, 24, 25, 26, 27, 28, 29, 30, 31, 9] [0, 1, 3, 7, 0, 16, 48, 112, 255, 0, 1023] [] mixed (by kernel_rfl) (by simp only [go_sem]) fun K116 hK116 => ?_
                      simp only [go_sem, decide_false, decide_true, Bool.not_true, Bool.not_false, h9, hcap0, hcap1, Nat.zero_add, hal, hall, hb0, hb1, hb2, hb3, hg0, hg1, hg2, hg3, hge, hgt3, hp0, hp1, hp2, Int.toNat_zero, Int.toNat_one, Int.reduceToNat, Int.toNat_natCast, hnn, hnn2, hw1, hw2, hbc, hq1, hq2, hq3, hq4, hq6, hq7, hq8, hc6, hc7, hc8, hd4, hmi, hcap2, htk, hs61, hcap, List.length_take, List.length_drop]
                      all_goals repeat' (first | apply And.intro | intro _)
                      all_goals
                        refine hK116 _ _ ?_ ?_
                        · first | trivial | (simp only [go_sem]; done) | (simp only [go_sem]; simp; done) | (simp only [go_sem]; simp; simp only [go_sem])
                        refine hN115 _ ?_
                        refine seq_k fun N117 M117 hN117 hM117 => ?_
                        refine draw_k [32, 33, 34, 35, 36, 37, 38, 39, 40, 41, 10] [0, 1, 3, 7, 15, 0, 32, 96, 224, 511, 1023] [] mixed (by kernel_rfl) (by simp only [go_sem]) fun K118 hK118 => ?_
                        simp only [go_sem, decide_false, decide_true, Bool.not_true, Bool.not_false, h9, hcap0, hcap1, Nat.zero_add, hal, hall, hb0, hb1, hb2, hb3, hg0, hg1, hg2, hg3, hge, hgt3, hp0, hp1, hp2, Int.toNat_zero, Int.toNat_one, Int.reduceToNat, Int.toNat_natCast, hnn, hnn2, hw1, hw2, hbc, hq1, hq2, hq3, hq4, hq6, hq7, hq8, hc6, hc7, hc8, hd4, hmi, hcap2, htk, hs61, hcap, List.length_take, List.length_drop]
                        all_goals repeat' (first | apply And.intro | intro _)
                        all_goals
                          refine hK118 _ _ ?_ ?_
                          · first | trivial | (simp only [go_sem]; done) | (simp only [go_sem]; simp; done) | (simp only [go_sem]; simp; simp only [go_sem])
                          refine hN117 _ ?_
                          refine seq_k fun N119 M119 hN119 hM119 => ?_
                          refine seq_k fun N120 M120 hN120 hM120 => ?_
                          refine region_k fun K121 hK121 => ?_
                          simp only [go_sem, decide_false, decide_true, Bool.not_true, Bool.not_false, h9, hcap0, hcap1, Nat.zero_add, hal, hall, hb0, hb1, hb2, hb3, hg0, hg1, hg2, hg3, hge, hgt3, hp0, hp1, hp2, Int.toNat_zero, Int.toNat_one, Int.reduceToNat, Int.toNat_natCast, hnn, hnn2, hw1, hw2, hbc, hq1, hq2, hq3, hq4, hq6, hq7, hq8, hc6, hc7, hc8, hd4, hmi, hcap2, htk, hs61, hcap, List.length_take, List.length_drop]
                          all_goals repeat' (first | apply And.intro | intro _)
                          all_goals refine call_view (fun k => k) (fun _ _ => rfl) (by first | rfl | (simp only [go_sem, decide_false, decide_true, Bool.not_true, Bool.not_false, h9, hcap0, hcap1, Nat.zero_add, hal, hall, hb0, hb1, hb2, hb3, hg0, hg1, hg2, hg3, hge, hgt3, hp0, hp1, hp2, Int.toNat_zero, Int.toNat_one, Int.reduceToNat, Int.toNat_natCast, hnn, hnn2, hw1, hw2, hbc, hq1, hq2, hq3, hq4, hq6, hq7, hq8, hc6, hc7, hc8, hd4, hmi, hcap2, htk, hs61, hcap, List.length_take, List.length_drop]; rfl) | simp only [go_sem, decide_false, decide_true, Bool.not_true, Bool.not_false, h9, hcap0, hcap1, Nat.zero_add, hal, hall, hb0, hb1, hb2, hb3, hg0, hg1, hg2, hg3, hge, hgt3, hp0, hp1, hp2, Int.toNat_zero, Int.toNat_one, Int.reduceToNat, Int.toNat_natCast, hnn, hnn2, hw1, hw2, hbc, hq1, hq2, hq3, hq4, hq6, hq7, hq8, hc6, hc7, hc8, hd4, hmi, hcap2, htk, hs61, hcap, List.length_take, List.length_drop]) (by first | exact ((fc_low _ _ hid _ _ hk).plain fun _ _ h => h) | exact ((fc_big _ _ hid _ _ hk).plain fun _ _ h => h) | exact ((fc_mid _ _ hid _ _ hk1 (by omega)).plain fun _ _ h => h)) ?_
                          all_goals (rintro v m ⟨hR, hm⟩; subst hR; subst hm)
                          all_goals refine And.intro (by first | rfl | simp only [go_sem, decide_false, decide_true, Bool.not_true, Bool.not_false, h9, hcap0, hcap1, Nat.zero_add, hal, hall, hb0, hb1, hb2, hb3, hg0, hg1, hg2, hg3, hge, hgt3, hp0, hp1, hp2, Int.toNat_zero, Int.toNat_one, Int.reduceToNat, Int.toNat_natCast, hnn, hnn2, hw1, hw2, hbc, hq1, hq2, hq3, hq4, hq6, hq7, hq8, hc6, hc7, hc8, hd4, hmi, hcap2, htk, hs61, hcap, List.length_take, List.length_drop]) (And.intro (by first | rfl | simp only [go_sem, decide_false, decide_true, Bool.not_true, Bool.not_false, h9, hcap0, hcap1, Nat.zero_add, hal, hall, hb0, hb1, hb2, hb3, hg0, hg1, hg2, hg3, hge, hgt3, hp0, hp1, hp2, Int.toNat_zero, Int.toNat_one, Int.reduceToNat, Int.toNat_natCast, hnn, hnn2, hw1, hw2, hbc, hq1, hq2, hq3, hq4, hq6, hq7, hq8, hc6, hc7, hc8, hd4, hmi, hcap2, htk, hs61, hcap, List.length_take, List.length_drop]) ?_)
                          all_goals simp only [go_sem, decide_false, decide_true, Bool.not_true, Bool.not_false, h9, hcap0, hcap1, Nat.zero_add, hal, hall, hb0, hb1, hb2, hb3, hg0, hg1, hg2, hg3, hge, hgt3, hp0, hp1, hp2, Int.toNat_zero, Int.toNat_one, Int.reduceToNat, Int.toNat_natCast, hnn, hnn2, hw1, hw2, hbc, hq1, hq2, hq3, hq4, hq6, hq7, hq8, hc6, hc7, hc8, hd4, hmi, hcap2, htk, hs61, hcap, List.length_take, List.length_drop]
                          all_goals repeat' (first | apply And.intro | intro _)
                          all_goals
                            refine hK121 _ ?_
                            refine hN120 _ ?_
                            refine seq_k fun N122 M122 hN122 hM122 => ?_
                            refine region_k fun K123 hK123 => ?_
                            simp only [go_sem, decide_false, decide_true, Bool.not_true, Bool.not_false, h9, hcap0, hcap1, Nat.zero_add, hal, hall, hb0, hb1, hb2, hb3, hg0, hg1, hg2, hg3, hge, hgt3, hp0, hp1, hp2, Int.toNat_zero, Int.toNat_one, Int.reduceToNat, Int.toNat_natCast, hnn, hnn2, hw1, hw2, hbc, hq1, hq2, hq3, hq4, hq6, hq7, hq8, hc6, hc7, hc8, hd4, hmi, hcap2, htk, hs61, hcap, List.length_take, List.length_drop]
                            all_goals repeat' (first | apply And.intro | intro _)
                            all_goals
                              refine hK123 _ ?_
                              refine hN122 _ ?_
                              refine cond_k rfl (fun hc => ?_) (fun hc => ?_)
                              · exfalso; revert hc; simp [go_sem, decide_false, decide_true, Bool.not_true, Bool.not_false, h9, hcap0, hcap1, Nat.zero_add, hal, hall, hb0, hb1, hb2, hb3, hg0, hg1, hg2, hg3, hge, hgt3, hp0, hp1, hp2, Int.toNat_zero, Int.toNat_one, Int.reduceToNat, Int.toNat_natCast, hnn, hnn2, hw1, hw2, hbc, hq1, hq2, hq3, hq4, hq6, hq7, hq8, hc6, hc7, hc8, hd4, hmi, hcap2, htk, hs61, hcap, List.length_take, List.length_drop]
                              · try simp only [go_sem, decide_false, decide_true, Bool.not_true, Bool.not_false, h9, hcap0, hcap1, Nat.zero_add, hal, hall, hb0, hb1, hb2, hb3, hg0, hg1, hg2, hg3, hge, hgt3, hp0, hp1, hp2, Int.toNat_zero, Int.toNat_one, Int.reduceToNat, Int.toNat_natCast, hnn, hnn2, hw1, hw2, hbc, hq1, hq2, hq3, hq4, hq6, hq7, hq8, hc6, hc7, hc8, hd4, hmi, hcap2, htk, hs61, hcap, List.length_take, List.length_drop] at hc
                                all_goals
                                  refine skip_k ?_
                                  refine hN119 _ ?_
                                  refine seq_k fun N124 M124 hN124 hM124 => ?_
                                  refine seq_k fun N125 M125 hN125 hM125 => ?_
                                  refine region_k fun K126 hK126 => ?_
                                  simp only [go_sem, decide_false, decide_true, Bool.not_true, Bool.not_false, h9, hcap0, hcap1, Nat.zero_add, hal, hall, hb0, hb1, hb2, hb3, hg0, hg1, hg2, hg3, hge, hgt3, hp0, hp1, hp2, Int.toNat_zero, Int.toNat_one, Int.reduceToNat, Int.toNat_natCast, hnn, hnn2, hw1, hw2, hbc, hq1, hq2, hq3, hq4, hq6, hq7, hq8, hc6, hc7, hc8, hd4, hmi, hcap2, htk, hs61, hcap, List.length_take, List.length_drop]
                                  all_goals repeat' (first | apply And.intro | intro _)
                                  all_goals
                                    refine hK126 _ ?_
                                    refine hN125 _ ?_
                                    refine cond_k rfl (fun hc => ?_) (fun hc => ?_)
                                    · exfalso; revert hc; simp [go_sem, decide_false, decide_true, Bool.not_true, Bool.not_false, h9, hcap0, hcap1, Nat.zero_add, hal, hall, hb0, hb1, hb2, hb3, hg0, hg1, hg2, hg3, hge, hgt3, hp0, hp1, hp2, Int.toNat_zero, Int.toNat_one, Int.reduceToNat, Int.toNat_natCast, hnn, hnn2, hw1, hw2, hbc, hq1, hq2, hq3, hq4, hq6, hq7, hq8, hc6, hc7, hc8, hd4, hmi, hcap2, htk, hs61, hcap, List.length_take, List.length_drop]
                                    · try simp only [go_sem, decide_false, decide_true, Bool.not_true, Bool.not_false, h9, hcap0, hcap1, Nat.zero_add, hal, hall, hb0, hb1, hb2, hb3, hg0, hg1, hg2, hg3, hge, hgt3, hp0, hp1, hp2, Int.toNat_zero, Int.toNat_one, Int.reduceToNat, Int.toNat_natCast, hnn, hnn2, hw1, hw2, hbc, hq1, hq2, hq3, hq4, hq6, hq7, hq8, hc6, hc7, hc8, hd4, hmi, hcap2, htk, hs61, hcap, List.length_take, List.length_drop] at hc
                                      all_goals
                                        refine skip_k ?_
                                        refine hN124 _ ?_
                                        refine seq_k fun N127 M127 hN127 hM127 => ?_
                                        refine seq_k fun N128 M128 hN128 hM128 => ?_
                                        refine region_k fun K129 hK129 => ?_
                                        simp only [go_sem, decide_false, decide_true, Bool.not_true, Bool.not_false, h9, hcap0, hcap1, Nat.zero_add, hal, hall, hb0, hb1, hb2, hb3, hg0, hg1, hg2, hg3, hge, hgt3, hp0, hp1, hp2, Int.toNat_zero, Int.toNat_one, Int.reduceToNat, Int.toNat_natCast, hnn, hnn2, hw1, hw2, hbc, hq1, hq2, hq3, hq4, hq6, hq7, hq8, hc6, hc7, hc8, hd4, hmi, hcap2, htk, hs61, hcap, List.length_take, List.length_drop]
                                        all_goals repeat' (first | apply And.intro | intro _)
                                        all_goals
                                          refine hK129 _ ?_
                                          refine hN128 _ ?_
                                          refine cond_k rfl (fun hc => ?_) (fun hc => ?_)
                                          · exfalso; revert hc; simp [go_sem, decide_false, decide_true, Bool.not_true, Bool.not_false, h9, hcap0, hcap1, Nat.zero_add, hal, hall, hb0, hb1, hb2, hb3, hg0, hg1, hg2, hg3, hge, hgt3, hp0, hp1, hp2, Int.toNat_zero, Int.toNat_one, Int.reduceToNat, Int.toNat_natCast, hnn, hnn2, hw1, hw2, hbc, hq1, hq2, hq3, hq4, hq6, hq7, hq8, hc6, hc7, hc8, hd4, hmi, hcap2, htk, hs61, hcap, List.length_take, List.length_drop]
                                          · try simp only [go_sem, decide_false, decide_true, Bool.not_true, Bool.not_false, h9, hcap0, hcap1, Nat.zero_add, hal, hall, hb0, hb1, hb2, hb3, hg0, hg1, hg2, hg3, hge, hgt3, hp0, hp1, hp2, Int.toNat_zero, Int.toNat_one, Int.reduceToNat, Int.toNat_natCast, hnn, hnn2, hw1, hw2, hbc, hq1, hq2, hq3, hq4, hq6, hq7, hq8, hc6, hc7, hc8, hd4, hmi, hcap2, htk, hs61, hcap, List.length_take, List.length_drop] at hc
                                            all_goals
                                              refine skip_k ?_
                                              refine hN127 _ ?_
                                              refine seq_k fun N130 M130 hN130 hM130 => ?_
                                              refine seq_k fun N131 M131 hN131 hM131 => ?_
                                              refine region_k fun K132 hK132 => ?_
                                              simp only [go_sem, decide_false, decide_true, Bool.not_true, Bool.not_false, h9, hcap0, hcap1, Nat.zero_add, hal, hall, hb0, hb1, hb2, hb3, hg0, hg1, hg2, hg3, hge, hgt3, hp0, hp1, hp2, Int.toNat_zero, Int.toNat_one, Int.reduceToNat, Int.toNat_natCast, hnn, hnn2, hw1, hw2, hbc, hq1, hq2, hq3, hq4, hq6, hq7, hq8, hc6, hc7, hc8, hd4, hmi, hcap2, htk, hs61, hcap, List.length_take, List.length_drop]
                                              all_goals repeat' (first | apply And.intro | intro _)
                                              all_goals
                                                refine hK132 _ ?_
                                                refine hN131 _ ?_
                                                refine cond_k rfl (fun hc => ?_) (fun hc => ?_)
                                                · exfalso; revert hc; simp [go_sem, decide_false, decide_true, Bool.not_true, Bool.not_false, h9, hcap0, hcap1, Nat.zero_add, hal, hall, hb0, hb1, hb2, hb3, hg0, hg1, hg2, hg3, hge, hgt3, hp0, hp1, hp2, Int.toNat_zero, Int.toNat_one, Int.reduceToNat, Int.toNat_natCast, hnn, hnn2, hw1, hw2, hbc, hq1, hq2, hq3, hq4, hq6, hq7, hq8, hc6, hc7, hc8, hd4, hmi, hcap2, htk, hs61, hcap, List.length_take, List.length_drop]
                                                · try simp only [go_sem, decide_false, decide_true, Bool.not_true, Bool.not_false, h9, hcap0, hcap1, Nat.zero_add, hal, hall, hb0, hb1, hb2, hb3, hg0, hg1, hg2, hg3, hge, hgt3, hp0, hp1, hp2, Int.toNat_zero, Int.toNat_one, Int.reduceToNat, Int.toNat_natCast, hnn, hnn2, hw1, hw2, hbc, hq1, hq2, hq3, hq4, hq6, hq7, hq8, hc6, hc7, hc8, hd4, hmi, hcap2, htk, hs61, hcap, List.length_take, List.length_drop] at hc
                                                  all_goals
                                                    refine skip_k ?_
                                                    refine hN130 _ ?_
                                                    refine seq_k fun N133 M133 hN133 hM133 => ?_
                                                    refine region_k fun K134 hK134 => ?_
                                                    simp only [go_sem, decide_false, decide_true, Bool.not_true, Bool.not_false, h9, hcap0, hcap1, Nat.zero_add, hal, hall, hb0, hb1, hb2, hb3, hg0, hg1, hg2, hg3, hge, hgt3, hp0, hp1, hp2, Int.toNat_zero, Int.toNat_one, Int.reduceToNat, Int.toNat_natCast, hnn, hnn2, hw1, hw2, hbc, hq1, hq2, hq3, hq4, hq6, hq7, hq8, hc6, hc7, hc8, hd4, hmi, hcap2, htk, hs61, hcap, List.length_take, List.length_drop]
                                                    all_goals repeat' (first | apply And.intro | intro _)
                                                    all_goals
                                                      refine hK134 _ ?_
                                                      refine hN133 _ ?_
                                                      refine seq_k fun N135 M135 hN135 hM135 => ?_
                                                      refine ht_seal 61 (((bt.drop 4).take n).map .u8) (b := true) (by simp only [pls_bytes, look]; simp) (by decide) ?_
                                                      simp only [St.laid, sealE, sealM, sealV, sealW, List.map_cons, List.map_nil, sealL_pl, sealL_fn0, hs61, sealL_sne (j := 75) (k := 61) (by decide), sealL_pne (j := 9) (k := 61) (by decide), frsC_seal, map_sealB, Nat.reduceLT, Nat.reduceEqDiff, if_true, if_false, reduceIte]
                                                      refine region_k fun K136 hK136 => ?_
                                                      simp only [go_sem, decide_false, decide_true, Bool.not_true, Bool.not_false, h9, hcap0, hcap1, Nat.zero_add, hal, hall, hb0, hb1, hb2, hb3, hg0, hg1, hg2, hg3, hge, hgt3, hp0, hp1, hp2, Int.toNat_zero, Int.toNat_one, Int.reduceToNat, Int.toNat_natCast, hnn, hnn2, hw1, hw2, hbc, hq1, hq2, hq3, hq4, hq6, hq7, hq8, hc6, hc7, hc8, hd4, hmi, hcap2, htk, hs61, hcap, List.length_take, List.length_drop]
                                                      all_goals repeat' (first | apply And.intro | intro _)
                                                      all_goals
                                                        refine hK136 _ ?_
                                                        refine hN135 _ ?_
                                                        refine region_k fun K137 hK137 => ?_
                                                        simp only [go_sem, decide_false, decide_true, Bool.not_true, Bool.not_false, h9, hcap0, hcap1, Nat.zero_add, hal, hall, hb0, hb1, hb2, hb3, hg0, hg1, hg2, hg3, hge, hgt3, hp0, hp1, hp2, Int.toNat_zero, Int.toNat_one, Int.reduceToNat, Int.toNat_natCast, hnn, hnn2, hw1, hw2, hbc, hq1, hq2, hq3, hq4, hq6, hq7, hq8, hc6, hc7, hc8, hd4, hmi, hcap2, htk, hs61, hcap, List.length_take, List.length_drop]
                                                        all_goals repeat' (first | apply And.intro | intro _)
                                                        all_goals
                                                          refine hK137 _ ?_
                                                          refine bn114 _ ?_
                                                          refine hN12 ⟨(c - 1, [] ++ [frOf bt], bt.drop (4 + n)), hnx⟩ _ ?_ ?_ ?_
                                                          · (have hcl0 := hv.2.1; simp only at hcl0; show c - 1 < c; clear hnn hnn2 hw1 hw2 hcap; omega)
                                                          · (simp only [go_sem, fV_snoc, fV_one, Nat.add_comm 4 n, leX, List.cons_append, List.nil_append]; try simp [fV_snoc, fV_one])
                                                          · (simp only [fM_snoc, frsC_snoc, hfr, go_sem, leX, List.cons_append, List.nil_append]; try simp [fM_one, frsC_one, leX, look, pls, sealL_pl])
                  · exfalso; revert hc; simp [go_sem, decide_false, decide_true, Bool.not_true, Bool.not_false, h9, hcap0, hcap1, Nat.zero_add, hal, hall, hb0, hb1, hb2, hb3, hg0, hg1, hg2, hg3, hge, hgt3, hp0, hp1, hp2, Int.toNat_zero, Int.toNat_one, Int.reduceToNat, Int.toNat_natCast, hnn, hnn2, hw1, hw2, hbc, hq1, hq2, hq3, hq4, hq6, hq7, hq8, hc6, hc7, hc8, hd4, hmi, hcap2, htk, hs61, hcap, List.length_take, List.length_drop]
              · simp only [fV_nil, fM_nil, List.cons_append, List.nil_append]
                have hnx := feed_next hv hs (hf_ok (by omega) (by omega) (by omega) (fun _ => hnz)) (by omega)
                obtain ⟨b0, hb0⟩ : ∃ b, bt.getD 0 0 = b := ⟨_, rfl⟩
                obtain ⟨b1, hb1⟩ : ∃ b, bt.getD 1 0 = b := ⟨_, rfl⟩
                obtain ⟨b2, hb2⟩ : ∃ b, bt.getD 2 0 = b := ⟨_, rfl⟩
                obtain ⟨b3, hb3⟩ : ∃ b, bt.getD 3 0 = b := ⟨_, rfl⟩
                have hg0 := rowG (bs := bt) (i := 0) (by omega) hb0
                have hg1 := rowG (bs := bt) (i := 1) (by omega) hb1
                have hg2 := rowG (bs := bt) (i := 2) (by omega) hb2
                have hg3 := rowG (bs := bt) (i := 3) (by omega) hb3
                obtain ⟨n, hn⟩ : ∃ x, nOf bt = x := ⟨_, rfl⟩
                have hk0 : kOf bt = b0.toNat := by rw [kOf, hb0]
                have hn0 : 256 * b2.toNat + b3.toNat = n := by rw [← hn, nOf, hb2, hb3]
                have hnl : n < 65536 := hn ▸ nOf_lt bt
                have hl0 := b0.toNat_lt
                have hl1 := b1.toNat_lt
                have hl2 := b2.toNat_lt
                have hl3 := b3.toNat_lt
                have hid : b1.toNat ≤ 255 := by omega
                have hge : (4 : Int) ≤ ((bt.length : Nat) : Int) := by omega
                have hgt3 : (3 : Int) < ((bt.length : Nat) : Int) := by omega
                have hp0 : (0 : Int) < ((bt.length : Nat) : Int) := by omega
                have hp1 : (1 : Int) < ((bt.length : Nat) : Int) := by omega
                have hp2 : (2 : Int) < ((bt.length : Nat) : Int) := by omega
                have hlo : bt.length ≤ all.length := by have := hv.2.2; simp only at this; omega
                rw [hk0] at hk
                rw [hn] at hnz hnx
                have hk1 : 1 ≤ b0.toNat := by omega
                have hk2 : b0.toNat ≤ 5 := by omega
                have hq1 : (b0 < 1) = False := eq_false fun h => by have := UInt8.lt_iff_toNat_lt.mp h; simp at this; omega
                have hq2 : (5 < b0) = False := eq_false fun h => by have := UInt8.lt_iff_toNat_lt.mp h; simp at this; omega
                have hq3 : ¬ (900 : Int) < ((n : Nat) : Int) := by omega
                have hq4 : (((b0.toNat : Nat) : Int) = 5) = True := eq_true (by omega)
                have hq5 : ¬ (0 : Int) < ((n : Nat) : Int) := by omega
                have hq6 : (b0 = 5) = True := eq_true (UInt8.toNat_inj.mp hk)
                have hlt : 4 + n ≤ bt.length := by omega
                have hq7 : ¬ ((bt.length : Nat) : Int) < ((n + 4 : Nat) : Int) := by omega
                have hq8 : ¬ ((bt.length - 4 : Nat) : Int) < ((n : Nat) : Int) := by omega
                have hc6 : ((n + 4 : Nat) : Int) ≤ ((bt.length : Nat) : Int) := by omega
                have hc7 : (0 : Int) ≤ ((n + 4 : Nat) : Int) := by omega
                have hc8 : (4 : Int) ≤ ((n + 4 : Nat) : Int) := by omega
                have hd4 : n + 4 - 4 = n := by omega
                have hmi : min n (bt.length - 4) = n := by omega
                have hcap2 : n ≤ 140737488355328 := by omega
                have htk : ((bt.drop 4).take n).length = n := by rw [List.length_take, List.length_drop]; omega
                have hfr : frOf bt = ⟨b0.toNat, b1.toNat, (bt.drop 4).take n⟩ := by rw [frOf, hk0, iOf, hb1, hn]
                have hs61 := seal_bytes (k := 61) (bs := (bt.drop 4).take n) htk.symm
                obtain ⟨hnn, hnn2, hw1, hw2, hcap⟩ : ior (ishl ((b2.toNat : Nat) : Int) (UInt64.toNat 8)) ((b3.toNat : Nat) : Int) = ((n : Nat) : Int) ∧ Go.RowKit.wrap64 (Go.RowKit.wrap64 (((b2.toNat : Nat) : Int) * 256) + ((b3.toNat : Nat) : Int)) = ((n : Nat) : Int) ∧ Go.RowKit.wrap64 (4 + ((n : Nat) : Int)) = ((n + 4 : Nat) : Int) ∧ Go.RowKit.wrap64 (((bt.length : Nat) : Int) - 4) = ((bt.length - 4 : Nat) : Int) ∧ (0 + 1) * 40 ≤ 140737488355328 := ⟨n_shl hl2 hl3 hn0, n_mul hl2 hl3 hn0, wnat (by omega) (by omega), wnat (by omega) (by omega), by omega⟩
                have hbc : bt.length ≤ 140737488355328 := by clear hnn hnn2 hw1 hw2 hcap; omega
                
                refine seq_k fun N138 M138 hN138 hM138 => ?_
                refine seq_k fun N139 M139 hN139 hM139 => ?_
                refine region_k fun K140 hK140 => ?_
                simp only [go_sem, decide_false, decide_true, Bool.not_true, Bool.not_false, h9, hcap0, hcap1, Nat.zero_add, hal, hall, hb0, hb1, hb2, hb3, hg0, hg1, hg2, hg3, hge, hgt3, hp0, hp1, hp2, Int.toNat_zero, Int.toNat_one, Int.reduceToNat, Int.toNat_natCast, hnn, hnn2, hw1, hw2, hbc, hq1, hq2, hq3, hq4, hq6, hq7, hq8, hc6, hc7, hc8, hd4, hmi, hcap2, htk, hs61, hcap, List.length_take, List.length_drop, hq5]
                all_goals repeat' (first | apply And.intro | intro _)
                all_goals
                  refine hK140 _ ?_
                  refine hN139 _ ?_
                  refine cond_k rfl (fun hc => ?_) (fun hc => ?_)
                  · try simp only [go_sem, decide_false, decide_true, Bool.not_true, Bool.not_false, h9, hcap0, hcap1, Nat.zero_add, hal, hall, hb0, hb1, hb2, hb3, hg0, hg1, hg2, hg3, hge, hgt3, hp0, hp1, hp2, Int.toNat_zero, Int.toNat_one, Int.reduceToNat, Int.toNat_natCast, hnn, hnn2, hw1, hw2, hbc, hq1, hq2, hq3, hq4, hq6, hq7, hq8, hc6, hc7, hc8, hd4, hmi, hcap2, htk, hs61, hcap, List.length_take, List.length_drop, hq5] at hc
                    all_goals
                      refine skip_k ?_
                      refine hN138 _ ?_
                      refine block_k fun B141 bn141 bx141 br141 bi141 => ?_
                      refine seq_k fun N142 M142 hN142 hM142 => ?_
                      refine draw_k [23, 24, 25, 26, 27, 28, 29, 30, 31, 9] [0, 1, 3, 7, 0, 16, 48, 112, 255, 0, 1023] [] mixed (by kernel_rfl) (by simp only [go_sem]) fun K143 hK143 => ?_
                      simp only [go_sem, decide_false, decide_true, Bool.not_true, Bool.not_false, h9, hcap0, hcap1, Nat.zero_add, hal, hall, hb0, hb1, hb2, hb3, hg0, hg1, hg2, hg3, hge, hgt3, hp0, hp1, hp2, Int.toNat_zero, Int.toNat_one, Int.reduceToNat, Int.toNat_natCast, hnn, hnn2, hw1, hw2, hbc, hq1, hq2, hq3, hq4, hq6, hq7, hq8, hc6, hc7, hc8, hd4, hmi, hcap2, htk, hs61, hcap, List.length_take, List.length_drop, hq5]
                      all_goals repeat' (first | apply And.intro | intro _)
                      all_goals
                        refine hK143 _ _ ?_ ?_
                        · first | trivial | (simp only [go_sem]; done) | (simp only [go_sem]; simp; done) | (simp only [go_sem]; simp; simp only [go_sem])
                        refine hN142 _ ?_
                        refine seq_k fun N144 M144 hN144 hM144 => ?_
                        refine draw_k [32, 33, 34, 35, 36, 37, 38, 39, 40, 41, 10] [0, 1, 3, 7, 15, 0, 32, 96, 224, 511, 1023] [] mixed (by kernel_rfl) (by simp only [go_sem]) fun K145 hK145 => ?_
                        simp only [go_sem, decide_false, decide_true, Bool.not_true, Bool.not_false, h9, hcap0, hcap1, Nat.zero_add, hal, hall, hb0, hb1, hb2, hb3, hg0, hg1, hg2, hg3, hge, hgt3, hp0, hp1, hp2, Int.toNat_zero, Int.toNat_one, Int.reduceToNat, Int.toNat_natCast, hnn, hnn2, hw1, hw2, hbc, hq1, hq2, hq3, hq4, hq6, hq7, hq8, hc6, hc7, hc8, hd4, hmi, hcap2, htk, hs61, hcap, List.length_take, List.length_drop, hq5]
                        all_goals repeat' (first | apply And.intro | intro _)
                        all_goals
                          refine hK145 _ _ ?_ ?_
                          · first | trivial | (simp only [go_sem]; done) | (simp only [go_sem]; simp; done) | (simp only [go_sem]; simp; simp only [go_sem])
                          refine hN144 _ ?_
                          refine seq_k fun N146 M146 hN146 hM146 => ?_
                          refine seq_k fun N147 M147 hN147 hM147 => ?_
                          refine region_k fun K148 hK148 => ?_
                          simp only [go_sem, decide_false, decide_true, Bool.not_true, Bool.not_false, h9, hcap0, hcap1, Nat.zero_add, hal, hall, hb0, hb1, hb2, hb3, hg0, hg1, hg2, hg3, hge, hgt3, hp0, hp1, hp2, Int.toNat_zero, Int.toNat_one, Int.reduceToNat, Int.toNat_natCast, hnn, hnn2, hw1, hw2, hbc, hq1, hq2, hq3, hq4, hq6, hq7, hq8, hc6, hc7, hc8, hd4, hmi, hcap2, htk, hs61, hcap, List.length_take, List.length_drop, hq5]
                          all_goals repeat' (first | apply And.intro | intro _)
                          all_goals refine call_view (fun k => k) (fun _ _ => rfl) (by first | rfl | (simp only [go_sem, decide_false, decide_true, Bool.not_true, Bool.not_false, h9, hcap0, hcap1, Nat.zero_add, hal, hall, hb0, hb1, hb2, hb3, hg0, hg1, hg2, hg3, hge, hgt3, hp0, hp1, hp2, Int.toNat_zero, Int.toNat_one, Int.reduceToNat, Int.toNat_natCast, hnn, hnn2, hw1, hw2, hbc, hq1, hq2, hq3, hq4, hq6, hq7, hq8, hc6, hc7, hc8, hd4, hmi, hcap2, htk, hs61, hcap, List.length_take, List.length_drop, hq5]; rfl) | simp only [go_sem, decide_false, decide_true, Bool.not_true, Bool.not_false, h9, hcap0, hcap1, Nat.zero_add, hal, hall, hb0, hb1, hb2, hb3, hg0, hg1, hg2, hg3, hge, hgt3, hp0, hp1, hp2, Int.toNat_zero, Int.toNat_one, Int.reduceToNat, Int.toNat_natCast, hnn, hnn2, hw1, hw2, hbc, hq1, hq2, hq3, hq4, hq6, hq7, hq8, hc6, hc7, hc8, hd4, hmi, hcap2, htk, hs61, hcap, List.length_take, List.length_drop, hq5]) (by first | exact ((fc_low _ _ hid _ _ hk).plain fun _ _ h => h) | exact ((fc_big _ _ hid _ _ hk).plain fun _ _ h => h) | exact ((fc_mid _ _ hid _ _ hk1 (by omega)).plain fun _ _ h => h)) ?_
                          all_goals (rintro v m ⟨hR, hm⟩; subst hR; subst hm)
                          all_goals refine And.intro (by first | rfl | simp only [go_sem, decide_false, decide_true, Bool.not_true, Bool.not_false, h9, hcap0, hcap1, Nat.zero_add, hal, hall, hb0, hb1, hb2, hb3, hg0, hg1, hg2, hg3, hge, hgt3, hp0, hp1, hp2, Int.toNat_zero, Int.toNat_one, Int.reduceToNat, Int.toNat_natCast, hnn, hnn2, hw1, hw2, hbc, hq1, hq2, hq3, hq4, hq6, hq7, hq8, hc6, hc7, hc8, hd4, hmi, hcap2, htk, hs61, hcap, List.length_take, List.length_drop, hq5]) (And.intro (by first | rfl | simp only [go_sem, decide_false, decide_true, Bool.not_true, Bool.not_false, h9, hcap0, hcap1, Nat.zero_add, hal, hall, hb0, hb1, hb2, hb3, hg0, hg1, hg2, hg3, hge, hgt3, hp0, hp1, hp2, Int.toNat_zero, Int.toNat_one, Int.reduceToNat, Int.toNat_natCast, hnn, hnn2, hw1, hw2, hbc, hq1, hq2, hq3, hq4, hq6, hq7, hq8, hc6, hc7, hc8, hd4, hmi, hcap2, htk, hs61, hcap, List.length_take, List.length_drop, hq5]) ?_)
                          all_goals simp only [go_sem, decide_false, decide_true, Bool.not_true, Bool.not_false, h9, hcap0, hcap1, Nat.zero_add, hal, hall, hb0, hb1, hb2, hb3, hg0, hg1, hg2, hg3, hge, hgt3, hp0, hp1, hp2, Int.toNat_zero, Int.toNat_one, Int.reduceToNat, Int.toNat_natCast, hnn, hnn2, hw1, hw2, hbc, hq1, hq2, hq3, hq4, hq6, hq7, hq8, hc6, hc7, hc8, hd4, hmi, hcap2, htk, hs61, hcap, List.length_take, List.length_drop, hq5]
                          all_goals repeat' (first | apply And.intro | intro _)
                          all_goals
                            refine hK148 _ ?_
                            refine hN147 _ ?_
                            refine seq_k fun N149 M149 hN149 hM149 => ?_
                            refine region_k fun K150 hK150 => ?_
                            simp only [go_sem, decide_false, decide_true, Bool.not_true, Bool.not_false, h9, hcap0, hcap1, Nat.zero_add, hal, hall, hb0, hb1, hb2, hb3, hg0, hg1, hg2, hg3, hge, hgt3, hp0, hp1, hp2, Int.toNat_zero, Int.toNat_one, Int.reduceToNat, Int.toNat_natCast, hnn, hnn2, hw1, hw2, hbc, hq1, hq2, hq3, hq4, hq6, hq7, hq8, hc6, hc7, hc8, hd4, hmi, hcap2, htk, hs61, hcap, List.length_take, List.length_drop, hq5]
                            all_goals repeat' (first | apply And.intro | intro _)
                            all_goals
                              refine hK150 _ ?_
                              refine hN149 _ ?_
                              refine cond_k rfl (fun hc => ?_) (fun hc => ?_)
                              · exfalso; revert hc; simp [go_sem, decide_false, decide_true, Bool.not_true, Bool.not_false, h9, hcap0, hcap1, Nat.zero_add, hal, hall, hb0, hb1, hb2, hb3, hg0, hg1, hg2, hg3, hge, hgt3, hp0, hp1, hp2, Int.toNat_zero, Int.toNat_one, Int.reduceToNat, Int.toNat_natCast, hnn, hnn2, hw1, hw2, hbc, hq1, hq2, hq3, hq4, hq6, hq7, hq8, hc6, hc7, hc8, hd4, hmi, hcap2, htk, hs61, hcap, List.length_take, List.length_drop, hq5]
                              · try simp only [go_sem, decide_false, decide_true, Bool.not_true, Bool.not_false, h9, hcap0, hcap1, Nat.zero_add, hal, hall, hb0, hb1, hb2, hb3, hg0, hg1, hg2, hg3, hge, hgt3, hp0, hp1, hp2, Int.toNat_zero, Int.toNat_one, Int.reduceToNat, Int.toNat_natCast, hnn, hnn2, hw1, hw2, hbc, hq1, hq2, hq3, hq4, hq6, hq7, hq8, hc6, hc7, hc8, hd4, hmi, hcap2, htk, hs61, hcap, List.length_take, List.length_drop, hq5] at hc
                                all_goals
                                  refine skip_k ?_
                                  refine hN146 _ ?_
                                  refine seq_k fun N151 M151 hN151 hM151 => ?_
                                  refine seq_k fun N152 M152 hN152 hM152 => ?_
                                  refine region_k fun K153 hK153 => ?_
                                  simp only [go_sem, decide_false, decide_true, Bool.not_true, Bool.not_false, h9, hcap0, hcap1, Nat.zero_add, hal, hall, hb0, hb1, hb2, hb3, hg0, hg1, hg2, hg3, hge, hgt3, hp0, hp1, hp2, Int.toNat_zero, Int.toNat_one, Int.reduceToNat, Int.toNat_natCast, hnn, hnn2, hw1, hw2, hbc, hq1, hq2, hq3, hq4, hq6, hq7, hq8, hc6, hc7, hc8, hd4, hmi, hcap2, htk, hs61, hcap, List.length_take, List.length_drop, hq5]
                                  all_goals repeat' (first | apply And.intro | intro _)
                                  all_goals
                                    refine hK153 _ ?_
                                    refine hN152 _ ?_
                                    refine cond_k rfl (fun hc => ?_) (fun hc => ?_)
                                    · exfalso; revert hc; simp [go_sem, decide_false, decide_true, Bool.not_true, Bool.not_false, h9, hcap0, hcap1, Nat.zero_add, hal, hall, hb0, hb1, hb2, hb3, hg0, hg1, hg2, hg3, hge, hgt3, hp0, hp1, hp2, Int.toNat_zero, Int.toNat_one, Int.reduceToNat, Int.toNat_natCast, hnn, hnn2, hw1, hw2, hbc, hq1, hq2, hq3, hq4, hq6, hq7, hq8, hc6, hc7, hc8, hd4, hmi, hcap2, htk, hs61, hcap, List.length_take, List.length_drop, hq5]
                                    · try simp only [go_sem, decide_false, decide_true, Bool.not_true, Bool.not_false, h9, hcap0, hcap1, Nat.zero_add, hal, hall, hb0, hb1, hb2, hb3, hg0, hg1, hg2, hg3, hge, hgt3, hp0, hp1, hp2, Int.toNat_zero, Int.toNat_one, Int.reduceToNat, Int.toNat_natCast, hnn, hnn2, hw1, hw2, hbc, hq1, hq2, hq3, hq4, hq6, hq7, hq8, hc6, hc7, hc8, hd4, hmi, hcap2, htk, hs61, hcap, List.length_take, List.length_drop, hq5] at hc
                                      all_goals
                                        refine skip_k ?_
                                        refine hN151 _ ?_
                                        refine seq_k fun N154 M154 hN154 hM154 => ?_
                                        refine seq_k fun N155 M155 hN155 hM155 => ?_
                                        refine region_k fun K156 hK156 => ?_
                                        simp only [go_sem, decide_false, decide_true, Bool.not_true, Bool.not_false, h9, hcap0, hcap1, Nat.zero_add, hal, hall, hb0, hb1, hb2, hb3, hg0, hg1, hg2, hg3, hge, hgt3, hp0, hp1, hp2, Int.toNat_zero, Int.toNat_one, Int.reduceToNat, Int.toNat_natCast, hnn, hnn2, hw1, hw2, hbc, hq1, hq2, hq3, hq4, hq6, hq7, hq8, hc6, hc7, hc8, hd4, hmi, hcap2, htk, hs61, hcap, List.length_take, List.length_drop, hq5]
                                        all_goals repeat' (first | apply And.intro | intro _)
                                        all_goals
                                          refine hK156 _ ?_
                                          refine hN155 _ ?_
                                          refine cond_k rfl (fun hc => ?_) (fun hc => ?_)
                                          · exfalso; revert hc; simp [go_sem, decide_false, decide_true, Bool.not_true, Bool.not_false, h9, hcap0, hcap1, Nat.zero_add, hal, hall, hb0, hb1, hb2, hb3, hg0, hg1, hg2, hg3, hge, hgt3, hp0, hp1, hp2, Int.toNat_zero, Int.toNat_one, Int.reduceToNat, Int.toNat_natCast, hnn, hnn2, hw1, hw2, hbc, hq1, hq2, hq3, hq4, hq6, hq7, hq8, hc6, hc7, hc8, hd4, hmi, hcap2, htk, hs61, hcap, List.length_take, List.length_drop, hq5]
                                          · try simp only [go_sem, decide_false, decide_true, Bool.not_true, Bool.not_false, h9, hcap0, hcap1, Nat.zero_add, hal, hall, hb0, hb1, hb2, hb3, hg0, hg1, hg2, hg3, hge, hgt3, hp0, hp1, hp2, Int.toNat_zero, Int.toNat_one, Int.reduceToNat, Int.toNat_natCast, hnn, hnn2, hw1, hw2, hbc, hq1, hq2, hq3, hq4, hq6, hq7, hq8, hc6, hc7, hc8, hd4, hmi, hcap2, htk, hs61, hcap, List.length_take, List.length_drop, hq5] at hc
                                            all_goals
                                              refine skip_k ?_
                                              refine hN154 _ ?_
                                              refine seq_k fun N157 M157 hN157 hM157 => ?_
                                              refine seq_k fun N158 M158 hN158 hM158 => ?_
                                              refine region_k fun K159 hK159 => ?_
                                              simp only [go_sem, decide_false, decide_true, Bool.not_true, Bool.not_false, h9, hcap0, hcap1, Nat.zero_add, hal, hall, hb0, hb1, hb2, hb3, hg0, hg1, hg2, hg3, hge, hgt3, hp0, hp1, hp2, Int.toNat_zero, Int.toNat_one, Int.reduceToNat, Int.toNat_natCast, hnn, hnn2, hw1, hw2, hbc, hq1, hq2, hq3, hq4, hq6, hq7, hq8, hc6, hc7, hc8, hd4, hmi, hcap2, htk, hs61, hcap, List.length_take, List.length_drop, hq5]
                                              all_goals repeat' (first | apply And.intro | intro _)
                                              all_goals
                                                refine hK159 _ ?_
                                                refine hN158 _ ?_
                                                refine cond_k rfl (fun hc => ?_) (fun hc => ?_)
                                                · exfalso; revert hc; simp [go_sem, decide_false, decide_true, Bool.not_true, Bool.not_false, h9, hcap0, hcap1, Nat.zero_add, hal, hall, hb0, hb1, hb2, hb3, hg0, hg1, hg2, hg3, hge, hgt3, hp0, hp1, hp2, Int.toNat_zero, Int.toNat_one, Int.reduceToNat, Int.toNat_natCast, hnn, hnn2, hw1, hw2, hbc, hq1, hq2, hq3, hq4, hq6, hq7, hq8, hc6, hc7, hc8, hd4, hmi, hcap2, htk, hs61, hcap, List.length_take, List.length_drop, hq5]
                                                · try simp only [go_sem, decide_false, decide_true, Bool.not_true, Bool.not_false, h9, hcap0, hcap1, Nat.zero_add, hal, hall, hb0, hb1, hb2, hb3, hg0, hg1, hg2, hg3, hge, hgt3, hp0, hp1, hp2, Int.toNat_zero, Int.toNat_one, Int.reduceToNat, Int.toNat_natCast, hnn, hnn2, hw1, hw2, hbc, hq1, hq2, hq3, hq4, hq6, hq7, hq8, hc6, hc7, hc8, hd4, hmi, hcap2, htk, hs61, hcap, List.length_take, List.length_drop, hq5] at hc
                                                  all_goals
                                                    refine skip_k ?_
                                                    refine hN157 _ ?_
                                                    refine seq_k fun N160 M160 hN160 hM160 => ?_
                                                    refine region_k fun K161 hK161 => ?_
                                                    simp only [go_sem, decide_false, decide_true, Bool.not_true, Bool.not_false, h9, hcap0, hcap1, Nat.zero_add, hal, hall, hb0, hb1, hb2, hb3, hg0, hg1, hg2, hg3, hge, hgt3, hp0, hp1, hp2, Int.toNat_zero, Int.toNat_one, Int.reduceToNat, Int.toNat_natCast, hnn, hnn2, hw1, hw2, hbc, hq1, hq2, hq3, hq4, hq6, hq7, hq8, hc6, hc7, hc8, hd4, hmi, hcap2, htk, hs61, hcap, List.length_take, List.length_drop, hq5]
                                                    all_goals repeat' (first | apply And.intro | intro _)
                                                    all_goals
                                                      refine hK161 _ ?_
                                                      refine hN160 _ ?_
                                                      refine seq_k fun N162 M162 hN162 hM162 => ?_
                                                      refine ht_seal 61 (((bt.drop 4).take n).map .u8) (b := true) (by simp only [pls_bytes, look]; simp) (by decide) ?_
                                                      simp only [St.laid, sealE, sealM, sealV, sealW, List.map_cons, List.map_nil, sealL_pl, sealL_fn0, hs61, sealL_sne (j := 75) (k := 61) (by decide), sealL_pne (j := 9) (k := 61) (by decide), frsC_seal, map_sealB, Nat.reduceLT, Nat.reduceEqDiff, if_true, if_false, reduceIte]
                                                      refine region_k fun K163 hK163 => ?_
                                                      simp only [go_sem, decide_false, decide_true, Bool.not_true, Bool.not_false, h9, hcap0, hcap1, Nat.zero_add, hal, hall, hb0, hb1, hb2, hb3, hg0, hg1, hg2, hg3, hge, hgt3, hp0, hp1, hp2, Int.toNat_zero, Int.toNat_one, Int.reduceToNat, Int.toNat_natCast, hnn, hnn2, hw1, hw2, hbc, hq1, hq2, hq3, hq4, hq6, hq7, hq8, hc6, hc7, hc8, hd4, hmi, hcap2, htk, hs61, hcap, List.length_take, List.length_drop, hq5]
                                                      all_goals repeat' (first | apply And.intro | intro _)
                                                      all_goals
                                                        refine hK163 _ ?_
                                                        refine hN162 _ ?_
                                                        refine region_k fun K164 hK164 => ?_
                                                        simp only [go_sem, decide_false, decide_true, Bool.not_true, Bool.not_false, h9, hcap0, hcap1, Nat.zero_add, hal, hall, hb0, hb1, hb2, hb3, hg0, hg1, hg2, hg3, hge, hgt3, hp0, hp1, hp2, Int.toNat_zero, Int.toNat_one, Int.reduceToNat, Int.toNat_natCast, hnn, hnn2, hw1, hw2, hbc, hq1, hq2, hq3, hq4, hq6, hq7, hq8, hc6, hc7, hc8, hd4, hmi, hcap2, htk, hs61, hcap, List.length_take, List.length_drop, hq5]
                                                        all_goals repeat' (first | apply And.intro | intro _)
                                                        all_goals
                                                          refine hK164 _ ?_
                                                          refine bn141 _ ?_
                                                          refine hN12 ⟨(c - 1, [] ++ [frOf bt], bt.drop (4 + n)), hnx⟩ _ ?_ ?_ ?_
                                                          · (have hcl0 := hv.2.1; simp only at hcl0; show c - 1 < c; clear hnn hnn2 hw1 hw2 hcap; omega)
                                                          · (simp only [go_sem, fV_snoc, fV_one, Nat.add_comm 4 n, leX, List.cons_append, List.nil_append]; try simp [fV_snoc, fV_one])
                                                          · (simp only [fM_snoc, frsC_snoc, hfr, go_sem, leX, List.cons_append, List.nil_append]; try simp [fM_one, frsC_one, leX, look, pls, sealL_pl])
                  · exfalso; revert hc; simp [go_sem, decide_false, decide_true, Bool.not_true, Bool.not_false, h9, hcap0, hcap1, Nat.zero_add, hal, hall, hb0, hb1, hb2, hb3, hg0, hg1, hg2, hg3, hge, hgt3, hp0, hp1, hp2, Int.toNat_zero, Int.toNat_one, Int.reduceToNat, Int.toNat_natCast, hnn, hnn2, hw1, hw2, hbc, hq1, hq2, hq3, hq4, hq6, hq7, hq8, hc6, hc7, hc8, hd4, hmi, hcap2, htk, hs61, hcap, List.length_take, List.length_drop, hq5]
              · simp only [fV_of _ hl0, fM_of _ hl0, List.cons_append, List.nil_append]
                have hlb : 4 * l.length + bt.length ≤ all.length := hv.2.2
                have hge : ¬ (4 : Int) ≤ ((bt.length : Nat) : Int) := by omega
                have hgt3 : ¬ (3 : Int) < ((bt.length : Nat) : Int) := by omega
                have hfe := feed_short hv hs
                have hbc : bt.length ≤ 140737488355328 := by omega
                
                refine seq_k fun N165 M165 hN165 hM165 => ?_
                refine seq_k fun N166 M166 hN166 hM166 => ?_
                refine region_k fun K167 hK167 => ?_
                simp only [go_sem, decide_false, decide_true, Bool.not_true, Bool.not_false, h9, hcap0, hcap1, Nat.zero_add, hal, hall, hge, hgt3, hbc]
                all_goals repeat' (first | apply And.intro | intro _)
                all_goals
                  refine hK167 _ ?_
                  refine hN166 _ ?_
                  refine cond_k rfl (fun hc => ?_) (fun hc => ?_)
                  · exfalso; revert hc; simp [go_sem, decide_false, decide_true, Bool.not_true, Bool.not_false, h9, hcap0, hcap1, Nat.zero_add, hal, hall, hge, hgt3, hbc]
                  · try simp only [go_sem, decide_false, decide_true, Bool.not_true, Bool.not_false, h9, hcap0, hcap1, Nat.zero_add, hal, hall, hge, hgt3, hbc] at hc
                    all_goals
                      refine exit_k ?_
                      refine hM165 _ _ ?_
                      refine hM12 _ _ ?_
                      refine bx11 _ ?_
                      refine hN10 _ ?_
                      refine seq_k fun N168 M168 hN168 hM168 => ?_
                      refine region_k fun K169 hK169 => ?_
                      simp only [go_sem, decide_false, decide_true, Bool.not_true, Bool.not_false, h9, hcap0, hcap1, Nat.zero_add, hal, hall, hge, hgt3, hbc]
                      all_goals repeat' (first | apply And.intro | intro _)
                      all_goals
                        refine hK169 _ ?_
                        refine hN168 _ ?_
                        refine ret_k ?_
                        simp only [go_sem, decide_false, decide_true, Bool.not_true, Bool.not_false, h9, hcap0, hcap1, Nat.zero_add, hal, hall, hge, hgt3, hbc]
                        all_goals (rw [hfp, hfe]; exact feed_end (b := true) (by simp [look]) rfl (by simp [look]) rfl (by decide))
              · simp only [fV_of _ hl0, fM_of _ hl0, List.cons_append, List.nil_append]
                have hlb : 4 * l.length + bt.length ≤ all.length := hv.2.2
                have hfe := feed_fault hv hs (hf_kind (.inl hk)) (by decide)
                obtain ⟨b0, hb0⟩ : ∃ b, bt.getD 0 0 = b := ⟨_, rfl⟩
                obtain ⟨b1, hb1⟩ : ∃ b, bt.getD 1 0 = b := ⟨_, rfl⟩
                obtain ⟨b2, hb2⟩ : ∃ b, bt.getD 2 0 = b := ⟨_, rfl⟩
                obtain ⟨b3, hb3⟩ : ∃ b, bt.getD 3 0 = b := ⟨_, rfl⟩
                have hg0 := rowG (bs := bt) (i := 0) (by omega) hb0
                have hg1 := rowG (bs := bt) (i := 1) (by omega) hb1
                have hg2 := rowG (bs := bt) (i := 2) (by omega) hb2
                have hg3 := rowG (bs := bt) (i := 3) (by omega) hb3
                obtain ⟨n, hn⟩ : ∃ x, nOf bt = x := ⟨_, rfl⟩
                have hk0 : kOf bt = b0.toNat := by rw [kOf, hb0]
                have hn0 : 256 * b2.toNat + b3.toNat = n := by rw [← hn, nOf, hb2, hb3]
                have hnl : n < 65536 := hn ▸ nOf_lt bt
                have hl0 := b0.toNat_lt
                have hl1 := b1.toNat_lt
                have hl2 := b2.toNat_lt
                have hl3 := b3.toNat_lt
                have hid : b1.toNat ≤ 255 := by omega
                have hge : (4 : Int) ≤ ((bt.length : Nat) : Int) := by omega
                have hgt3 : (3 : Int) < ((bt.length : Nat) : Int) := by omega
                have hp0 : (0 : Int) < ((bt.length : Nat) : Int) := by omega
                have hp1 : (1 : Int) < ((bt.length : Nat) : Int) := by omega
                have hp2 : (2 : Int) < ((bt.length : Nat) : Int) := by omega
                have hlo : bt.length ≤ all.length := by have := hv.2.2; simp only at this; omega
                rw [hk0] at hk
                have hq1 : (b0 < 1) = True := eq_true (UInt8.lt_iff_toNat_lt.mpr hk)
                obtain ⟨hnn, hnn2, hw1, hw2, hcap⟩ : ior (ishl ((b2.toNat : Nat) : Int) (UInt64.toNat 8)) ((b3.toNat : Nat) : Int) = ((n : Nat) : Int) ∧ Go.RowKit.wrap64 (Go.RowKit.wrap64 (((b2.toNat : Nat) : Int) * 256) + ((b3.toNat : Nat) : Int)) = ((n : Nat) : Int) ∧ Go.RowKit.wrap64 (4 + ((n : Nat) : Int)) = ((n + 4 : Nat) : Int) ∧ Go.RowKit.wrap64 (((bt.length : Nat) : Int) - 4) = ((bt.length - 4 : Nat) : Int) ∧ (l.length + 1) * 40 ≤ 140737488355328 := ⟨n_shl hl2 hl3 hn0, n_mul hl2 hl3 hn0, wnat (by omega) (by omega), wnat (by omega) (by omega), by omega⟩
                have hbc : bt.length ≤ 140737488355328 := by clear hnn hnn2 hw1 hw2 hcap; omega
                
                refine seq_k fun N170 M170 hN170 hM170 => ?_
                refine seq_k fun N171 M171 hN171 hM171 => ?_
                refine region_k fun K172 hK172 => ?_
                simp only [go_sem, decide_false, decide_true, Bool.not_true, Bool.not_false, h9, hcap0, hcap1, Nat.zero_add, hal, hall, hb0, hb1, hb2, hb3, hg0, hg1, hg2, hg3, hge, hgt3, hp0, hp1, hp2, Int.toNat_zero, Int.toNat_one, Int.reduceToNat, Int.toNat_natCast, hnn, hnn2, hw1, hw2, hbc, hq1]
                all_goals repeat' (first | apply And.intro | intro _)
                all_goals
                  refine hK172 _ ?_
                  refine hN171 _ ?_
                  refine cond_k rfl (fun hc => ?_) (fun hc => ?_)
                  · try simp only [go_sem, decide_false, decide_true, Bool.not_true, Bool.not_false, h9, hcap0, hcap1, Nat.zero_add, hal, hall, hb0, hb1, hb2, hb3, hg0, hg1, hg2, hg3, hge, hgt3, hp0, hp1, hp2, Int.toNat_zero, Int.toNat_one, Int.reduceToNat, Int.toNat_natCast, hnn, hnn2, hw1, hw2, hbc, hq1] at hc
                    all_goals
                      refine skip_k ?_
                      refine hN170 _ ?_
                      refine block_k fun B173 bn173 bx173 br173 bi173 => ?_
                      refine seq_k fun N174 M174 hN174 hM174 => ?_
                      refine draw_k [23, 24, 25, 26, 27, 28, 29, 30, 31, 9] [0, 1, 3, 7, 0, 16, 48, 112, 255, 0, 1023] [] mixed (by kernel_rfl) (by simp only [go_sem]) fun K175 hK175 => ?_
                      simp only [go_sem, decide_false, decide_true, Bool.not_true, Bool.not_false, h9, hcap0, hcap1, Nat.zero_add, hal, hall, hb0, hb1, hb2, hb3, hg0, hg1, hg2, hg3, hge, hgt3, hp0, hp1, hp2, Int.toNat_zero, Int.toNat_one, Int.reduceToNat, Int.toNat_natCast, hnn, hnn2, hw1, hw2, hbc, hq1]
                      all_goals repeat' (first | apply And.intro | intro _)
                      all_goals
                        refine hK175 _ _ ?_ ?_
                        · first | trivial | (simp only [go_sem]; done) | (simp only [go_sem]; simp; done) | (simp only [go_sem]; simp; simp only [go_sem])
                        refine hN174 _ ?_
                        refine seq_k fun N176 M176 hN176 hM176 => ?_
                        refine draw_k [32, 33, 34, 35, 36, 37, 38, 39, 40, 41, 10] [0, 1, 3, 7, 15, 0, 32, 96, 224, 511, 1023] [] mixed (by kernel_rfl) (by simp only [go_sem]) fun K177 hK177 => ?_
                        simp only [go_sem, decide_false, decide_true, Bool.not_true, Bool.not_false, h9, hcap0, hcap1, Nat.zero_add, hal, hall, hb0, hb1, hb2, hb3, hg0, hg1, hg2, hg3, hge, hgt3, hp0, hp1, hp2, Int.toNat_zero, Int.toNat_one, Int.reduceToNat, Int.toNat_natCast, hnn, hnn2, hw1, hw2, hbc, hq1]
                        all_goals repeat' (first | apply And.intro | intro _)
                        all_goals
                          refine hK177 _ _ ?_ ?_
                          · first | trivial | (simp only [go_sem]; done) | (simp only [go_sem]; simp; done) | (simp only [go_sem]; simp; simp only [go_sem])
                          refine hN176 _ ?_
                          refine seq_k fun N178 M178 hN178 hM178 => ?_
                          refine seq_k fun N179 M179 hN179 hM179 => ?_
                          refine region_k fun K180 hK180 => ?_
                          simp only [go_sem, decide_false, decide_true, Bool.not_true, Bool.not_false, h9, hcap0, hcap1, Nat.zero_add, hal, hall, hb0, hb1, hb2, hb3, hg0, hg1, hg2, hg3, hge, hgt3, hp0, hp1, hp2, Int.toNat_zero, Int.toNat_one, Int.reduceToNat, Int.toNat_natCast, hnn, hnn2, hw1, hw2, hbc, hq1]
                          all_goals repeat' (first | apply And.intro | intro _)
                          all_goals refine call_view (fun k => k) (fun _ _ => rfl) (by first | rfl | (simp only [go_sem, decide_false, decide_true, Bool.not_true, Bool.not_false, h9, hcap0, hcap1, Nat.zero_add, hal, hall, hb0, hb1, hb2, hb3, hg0, hg1, hg2, hg3, hge, hgt3, hp0, hp1, hp2, Int.toNat_zero, Int.toNat_one, Int.reduceToNat, Int.toNat_natCast, hnn, hnn2, hw1, hw2, hbc, hq1]; rfl) | simp only [go_sem, decide_false, decide_true, Bool.not_true, Bool.not_false, h9, hcap0, hcap1, Nat.zero_add, hal, hall, hb0, hb1, hb2, hb3, hg0, hg1, hg2, hg3, hge, hgt3, hp0, hp1, hp2, Int.toNat_zero, Int.toNat_one, Int.reduceToNat, Int.toNat_natCast, hnn, hnn2, hw1, hw2, hbc, hq1]) (by first | exact ((fc_low _ _ hid _ _ hk).plain fun _ _ h => h) | exact ((fc_big _ _ hid _ _ hk).plain fun _ _ h => h) | exact ((fc_mid _ _ hid _ _ hk1 (by omega)).plain fun _ _ h => h)) ?_
                          all_goals (rintro v m ⟨hR, hm⟩; subst hR; subst hm)
                          all_goals refine And.intro (by first | rfl | simp only [go_sem, decide_false, decide_true, Bool.not_true, Bool.not_false, h9, hcap0, hcap1, Nat.zero_add, hal, hall, hb0, hb1, hb2, hb3, hg0, hg1, hg2, hg3, hge, hgt3, hp0, hp1, hp2, Int.toNat_zero, Int.toNat_one, Int.reduceToNat, Int.toNat_natCast, hnn, hnn2, hw1, hw2, hbc, hq1]) (And.intro (by first | rfl | simp only [go_sem, decide_false, decide_true, Bool.not_true, Bool.not_false, h9, hcap0, hcap1, Nat.zero_add, hal, hall, hb0, hb1, hb2, hb3, hg0, hg1, hg2, hg3, hge, hgt3, hp0, hp1, hp2, Int.toNat_zero, Int.toNat_one, Int.reduceToNat, Int.toNat_natCast, hnn, hnn2, hw1, hw2, hbc, hq1]) ?_)
                          all_goals simp only [go_sem, decide_false, decide_true, Bool.not_true, Bool.not_false, h9, hcap0, hcap1, Nat.zero_add, hal, hall, hb0, hb1, hb2, hb3, hg0, hg1, hg2, hg3, hge, hgt3, hp0, hp1, hp2, Int.toNat_zero, Int.toNat_one, Int.reduceToNat, Int.toNat_natCast, hnn, hnn2, hw1, hw2, hbc, hq1]
                          all_goals repeat' (first | apply And.intro | intro _)
                          all_goals
                            refine hK180 _ ?_
                            refine hN179 _ ?_
                            refine seq_k fun N181 M181 hN181 hM181 => ?_
                            refine region_k fun K182 hK182 => ?_
                            simp only [go_sem, decide_false, decide_true, Bool.not_true, Bool.not_false, h9, hcap0, hcap1, Nat.zero_add, hal, hall, hb0, hb1, hb2, hb3, hg0, hg1, hg2, hg3, hge, hgt3, hp0, hp1, hp2, Int.toNat_zero, Int.toNat_one, Int.reduceToNat, Int.toNat_natCast, hnn, hnn2, hw1, hw2, hbc, hq1]
                            all_goals repeat' (first | apply And.intro | intro _)
                            all_goals
                              refine hK182 _ ?_
                              refine hN181 _ ?_
                              refine cond_k rfl (fun hc => ?_) (fun hc => ?_)
                              · try simp only [go_sem, decide_false, decide_true, Bool.not_true, Bool.not_false, h9, hcap0, hcap1, Nat.zero_add, hal, hall, hb0, hb1, hb2, hb3, hg0, hg1, hg2, hg3, hge, hgt3, hp0, hp1, hp2, Int.toNat_zero, Int.toNat_one, Int.reduceToNat, Int.toNat_natCast, hnn, hnn2, hw1, hw2, hbc, hq1] at hc
                                all_goals
                                  refine seq_k fun N183 M183 hN183 hM183 => ?_
                                  refine region_k fun K184 hK184 => ?_
                                  simp only [go_sem, decide_false, decide_true, Bool.not_true, Bool.not_false, h9, hcap0, hcap1, Nat.zero_add, hal, hall, hb0, hb1, hb2, hb3, hg0, hg1, hg2, hg3, hge, hgt3, hp0, hp1, hp2, Int.toNat_zero, Int.toNat_one, Int.reduceToNat, Int.toNat_natCast, hnn, hnn2, hw1, hw2, hbc, hq1]
                                  all_goals repeat' (first | apply And.intro | intro _)
                                  all_goals
                                    refine hK184 _ ?_
                                    refine hN183 _ ?_
                                    refine ret_k ?_
                                    refine hM178 _ _ ?_
                                    refine br173 _ ?_
                                    refine hM12 _ _ ?_
                                    refine br11 _ ?_
                                    refine hM10 _ _ ?_
                                    simp only [go_sem, decide_false, decide_true, Bool.not_true, Bool.not_false, h9, hcap0, hcap1, Nat.zero_add, hal, hall, hb0, hb1, hb2, hb3, hg0, hg1, hg2, hg3, hge, hgt3, hp0, hp1, hp2, Int.toNat_zero, Int.toNat_one, Int.reduceToNat, Int.toNat_natCast, hnn, hnn2, hw1, hw2, hbc, hq1]
                                    all_goals (rw [hfp, hfe]; exact feed_bad)
                              · exfalso; revert hc; simp [go_sem, decide_false, decide_true, Bool.not_true, Bool.not_false, h9, hcap0, hcap1, Nat.zero_add, hal, hall, hb0, hb1, hb2, hb3, hg0, hg1, hg2, hg3, hge, hgt3, hp0, hp1, hp2, Int.toNat_zero, Int.toNat_one, Int.reduceToNat, Int.toNat_natCast, hnn, hnn2, hw1, hw2, hbc, hq1]
                  · exfalso; revert hc; simp [go_sem, decide_false, decide_true, Bool.not_true, Bool.not_false, h9, hcap0, hcap1, Nat.zero_add, hal, hall, hb0, hb1, hb2, hb3, hg0, hg1, hg2, hg3, hge, hgt3, hp0, hp1, hp2, Int.toNat_zero, Int.toNat_one, Int.reduceToNat, Int.toNat_natCast, hnn, hnn2, hw1, hw2, hbc, hq1]
              · simp only [fV_of _ hl0, fM_of _ hl0, List.cons_append, List.nil_append]
                have hlb : 4 * l.length + bt.length ≤ all.length := hv.2.2
                have hfe := feed_fault hv hs (hf_kind (.inr hk)) (by decide)
                obtain ⟨b0, hb0⟩ : ∃ b, bt.getD 0 0 = b := ⟨_, rfl⟩
                obtain ⟨b1, hb1⟩ : ∃ b, bt.getD 1 0 = b := ⟨_, rfl⟩
                obtain ⟨b2, hb2⟩ : ∃ b, bt.getD 2 0 = b := ⟨_, rfl⟩
                obtain ⟨b3, hb3⟩ : ∃ b, bt.getD 3 0 = b := ⟨_, rfl⟩
                have hg0 := rowG (bs := bt) (i := 0) (by omega) hb0
                have hg1 := rowG (bs := bt) (i := 1) (by omega) hb1
                have hg2 := rowG (bs := bt) (i := 2) (by omega) hb2
                have hg3 := rowG (bs := bt) (i := 3) (by omega) hb3
                obtain ⟨n, hn⟩ : ∃ x, nOf bt = x := ⟨_, rfl⟩
                have hk0 : kOf bt = b0.toNat := by rw [kOf, hb0]
                have hn0 : 256 * b2.toNat + b3.toNat = n := by rw [← hn, nOf, hb2, hb3]
                have hnl : n < 65536 := hn ▸ nOf_lt bt
                have hl0 := b0.toNat_lt
                have hl1 := b1.toNat_lt
                have hl2 := b2.toNat_lt
                have hl3 := b3.toNat_lt
                have hid : b1.toNat ≤ 255 := by omega
                have hge : (4 : Int) ≤ ((bt.length : Nat) : Int) := by omega
                have hgt3 : (3 : Int) < ((bt.length : Nat) : Int) := by omega
                have hp0 : (0 : Int) < ((bt.length : Nat) : Int) := by omega
                have hp1 : (1 : Int) < ((bt.length : Nat) : Int) := by omega
                have hp2 : (2 : Int) < ((bt.length : Nat) : Int) := by omega
                have hlo : bt.length ≤ all.length := by have := hv.2.2; simp only at this; omega
                rw [hk0] at hk
                have hq1 : (b0 < 1) = False := eq_false fun h => by have := UInt8.lt_iff_toNat_lt.mp h; simp at this; omega
                have hq2 : (5 < b0) = True := eq_true (UInt8.lt_iff_toNat_lt.mpr hk)
                obtain ⟨hnn, hnn2, hw1, hw2, hcap⟩ : ior (ishl ((b2.toNat : Nat) : Int) (UInt64.toNat 8)) ((b3.toNat : Nat) : Int) = ((n : Nat) : Int) ∧ Go.RowKit.wrap64 (Go.RowKit.wrap64 (((b2.toNat : Nat) : Int) * 256) + ((b3.toNat : Nat) : Int)) = ((n : Nat) : Int) ∧ Go.RowKit.wrap64 (4 + ((n : Nat) : Int)) = ((n + 4 : Nat) : Int) ∧ Go.RowKit.wrap64 (((bt.length : Nat) : Int) - 4) = ((bt.length - 4 : Nat) : Int) ∧ (l.length + 1) * 40 ≤ 140737488355328 := ⟨n_shl hl2 hl3 hn0, n_mul hl2 hl3 hn0, wnat (by omega) (by omega), wnat (by omega) (by omega), by omega⟩
                have hbc : bt.length ≤ 140737488355328 := by clear hnn hnn2 hw1 hw2 hcap; omega
                
                refine seq_k fun N185 M185 hN185 hM185 => ?_
                refine seq_k fun N186 M186 hN186 hM186 => ?_
                refine region_k fun K187 hK187 => ?_
                simp only [go_sem, decide_false, decide_true, Bool.not_true, Bool.not_false, h9, hcap0, hcap1, Nat.zero_add, hal, hall, hb0, hb1, hb2, hb3, hg0, hg1, hg2, hg3, hge, hgt3, hp0, hp1, hp2, Int.toNat_zero, Int.toNat_one, Int.reduceToNat, Int.toNat_natCast, hnn, hnn2, hw1, hw2, hbc, hq1, hq2]
                all_goals repeat' (first | apply And.intro | intro _)
                all_goals
                  refine hK187 _ ?_
                  refine hN186 _ ?_
                  refine cond_k rfl (fun hc => ?_) (fun hc => ?_)
                  · try simp only [go_sem, decide_false, decide_true, Bool.not_true, Bool.not_false, h9, hcap0, hcap1, Nat.zero_add, hal, hall, hb0, hb1, hb2, hb3, hg0, hg1, hg2, hg3, hge, hgt3, hp0, hp1, hp2, Int.toNat_zero, Int.toNat_one, Int.reduceToNat, Int.toNat_natCast, hnn, hnn2, hw1, hw2, hbc, hq1, hq2] at hc
                    all_goals
                      refine skip_k ?_
                      refine hN185 _ ?_
                      refine block_k fun B188 bn188 bx188 br188 bi188 => ?_
                      refine seq_k fun N189 M189 hN189 hM189 => ?_
                      refine draw_k [23, 24, 25, 26, 27, 28, 29, 30, 31, 9] [0, 1, 3, 7, 0, 16, 48, 112, 255, 0, 1023] [] mixed (by kernel_rfl) (by simp only [go_sem]) fun K190 hK190 => ?_
                      simp only [go_sem, decide_false, decide_true, Bool.not_true, Bool.not_false, h9, hcap0, hcap1, Nat.zero_add, hal, hall, hb0, hb1, hb2, hb3, hg0, hg1, hg2, hg3, hge, hgt3, hp0, hp1, hp2, Int.toNat_zero, Int.toNat_one, Int.reduceToNat, Int.toNat_natCast, hnn, hnn2, hw1, hw2, hbc, hq1, hq2]
                      all_goals repeat' (first | apply And.intro | intro _)
                      all_goals
                        refine hK190 _ _ ?_ ?_
                        · first | trivial | (simp only [go_sem]; done) | (simp only [go_sem]; simp; done) | (simp only [go_sem]; simp; simp only [go_sem])
                        refine hN189 _ ?_
                        refine seq_k fun N191 M191 hN191 hM191 => ?_
                        refine draw_k [32, 33, 34, 35, 36, 37, 38, 39, 40, 41, 10] [0, 1, 3, 7, 15, 0, 32, 96, 224, 511, 1023] [] mixed (by kernel_rfl) (by simp only [go_sem]) fun K192 hK192 => ?_
                        simp only [go_sem, decide_false, decide_true, Bool.not_true, Bool.not_false, h9, hcap0, hcap1, Nat.zero_add, hal, hall, hb0, hb1, hb2, hb3, hg0, hg1, hg2, hg3, hge, hgt3, hp0, hp1, hp2, Int.toNat_zero, Int.toNat_one, Int.reduceToNat, Int.toNat_natCast, hnn, hnn2, hw1, hw2, hbc, hq1, hq2]
                        all_goals repeat' (first | apply And.intro | intro _)
                        all_goals
                          refine hK192 _ _ ?_ ?_
                          · first | trivial | (simp only [go_sem]; done) | (simp only [go_sem]; simp; done) | (simp only [go_sem]; simp; simp only [go_sem])
                          refine hN191 _ ?_
                          refine seq_k fun N193 M193 hN193 hM193 => ?_
                          refine seq_k fun N194 M194 hN194 hM194 => ?_
                          refine region_k fun K195 hK195 => ?_
                          simp only [go_sem, decide_false, decide_true, Bool.not_true, Bool.not_false, h9, hcap0, hcap1, Nat.zero_add, hal, hall, hb0, hb1, hb2, hb3, hg0, hg1, hg2, hg3, hge, hgt3, hp0, hp1, hp2, Int.toNat_zero, Int.toNat_one, Int.reduceToNat, Int.toNat_natCast, hnn, hnn2, hw1, hw2, hbc, hq1, hq2]
                          all_goals repeat' (first | apply And.intro | intro _)
                          all_goals refine call_view (fun k => k) (fun _ _ => rfl) (by first | rfl | (simp only [go_sem, decide_false, decide_true, Bool.not_true, Bool.not_false, h9, hcap0, hcap1, Nat.zero_add, hal, hall, hb0, hb1, hb2, hb3, hg0, hg1, hg2, hg3, hge, hgt3, hp0, hp1, hp2, Int.toNat_zero, Int.toNat_one, Int.reduceToNat, Int.toNat_natCast, hnn, hnn2, hw1, hw2, hbc, hq1, hq2]; rfl) | simp only [go_sem, decide_false, decide_true, Bool.not_true, Bool.not_false, h9, hcap0, hcap1, Nat.zero_add, hal, hall, hb0, hb1, hb2, hb3, hg0, hg1, hg2, hg3, hge, hgt3, hp0, hp1, hp2, Int.toNat_zero, Int.toNat_one, Int.reduceToNat, Int.toNat_natCast, hnn, hnn2, hw1, hw2, hbc, hq1, hq2]) (by first | exact ((fc_low _ _ hid _ _ hk).plain fun _ _ h => h) | exact ((fc_big _ _ hid _ _ hk).plain fun _ _ h => h) | exact ((fc_mid _ _ hid _ _ hk1 (by omega)).plain fun _ _ h => h)) ?_
                          all_goals (rintro v m ⟨hR, hm⟩; subst hR; subst hm)
                          all_goals refine And.intro (by first | rfl | simp only [go_sem, decide_false, decide_true, Bool.not_true, Bool.not_false, h9, hcap0, hcap1, Nat.zero_add, hal, hall, hb0, hb1, hb2, hb3, hg0, hg1, hg2, hg3, hge, hgt3, hp0, hp1, hp2, Int.toNat_zero, Int.toNat_one, Int.reduceToNat, Int.toNat_natCast, hnn, hnn2, hw1, hw2, hbc, hq1, hq2]) (And.intro (by first | rfl | simp only [go_sem, decide_false, decide_true, Bool.not_true, Bool.not_false, h9, hcap0, hcap1, Nat.zero_add, hal, hall, hb0, hb1, hb2, hb3, hg0, hg1, hg2, hg3, hge, hgt3, hp0, hp1, hp2, Int.toNat_zero, Int.toNat_one, Int.reduceToNat, Int.toNat_natCast, hnn, hnn2, hw1, hw2, hbc, hq1, hq2]) ?_)
                          all_goals simp only [go_sem, decide_false, decide_true, Bool.not_true, Bool.not_false, h9, hcap0, hcap1, Nat.zero_add, hal, hall, hb0, hb1, hb2, hb3, hg0, hg1, hg2, hg3, hge, hgt3, hp0, hp1, hp2, Int.toNat_zero, Int.toNat_one, Int.reduceToNat, Int.toNat_natCast, hnn, hnn2, hw1, hw2, hbc, hq1, hq2]
                          all_goals repeat' (first | apply And.intro | intro _)
                          all_goals
                            refine hK195 _ ?_
                            refine hN194 _ ?_
                            refine seq_k fun N196 M196 hN196 hM196 => ?_
                            refine region_k fun K197 hK197 => ?_
                            simp only [go_sem, decide_false, decide_true, Bool.not_true, Bool.not_false, h9, hcap0, hcap1, Nat.zero_add, hal, hall, hb0, hb1, hb2, hb3, hg0, hg1, hg2, hg3, hge, hgt3, hp0, hp1, hp2, Int.toNat_zero, Int.toNat_one, Int.reduceToNat, Int.toNat_natCast, hnn, hnn2, hw1, hw2, hbc, hq1, hq2]
                            all_goals repeat' (first | apply And.intro | intro _)
                            all_goals
                              refine hK197 _ ?_
                              refine hN196 _ ?_
                              refine cond_k rfl (fun hc => ?_) (fun hc => ?_)
                              · try simp only [go_sem, decide_false, decide_true, Bool.not_true, Bool.not_false, h9, hcap0, hcap1, Nat.zero_add, hal, hall, hb0, hb1, hb2, hb3, hg0, hg1, hg2, hg3, hge, hgt3, hp0, hp1, hp2, Int.toNat_zero, Int.toNat_one, Int.reduceToNat, Int.toNat_natCast, hnn, hnn2, hw1, hw2, hbc, hq1, hq2] at hc
                                all_goals
                                  refine seq_k fun N198 M198 hN198 hM198 => ?_
                                  refine region_k fun K199 hK199 => ?_
                                  simp only [go_sem, decide_false, decide_true, Bool.not_true, Bool.not_false, h9, hcap0, hcap1, Nat.zero_add, hal, hall, hb0, hb1, hb2, hb3, hg0, hg1, hg2, hg3, hge, hgt3, hp0, hp1, hp2, Int.toNat_zero, Int.toNat_one, Int.reduceToNat, Int.toNat_natCast, hnn, hnn2, hw1, hw2, hbc, hq1, hq2]
                                  all_goals repeat' (first | apply And.intro | intro _)
                                  all_goals
                                    refine hK199 _ ?_
                                    refine hN198 _ ?_
                                    refine ret_k ?_
                                    refine hM193 _ _ ?_
                                    refine br188 _ ?_
                                    refine hM12 _ _ ?_
                                    refine br11 _ ?_
                                    refine hM10 _ _ ?_
                                    simp only [go_sem, decide_false, decide_true, Bool.not_true, Bool.not_false, h9, hcap0, hcap1, Nat.zero_add, hal, hall, hb0, hb1, hb2, hb3, hg0, hg1, hg2, hg3, hge, hgt3, hp0, hp1, hp2, Int.toNat_zero, Int.toNat_one, Int.reduceToNat, Int.toNat_natCast, hnn, hnn2, hw1, hw2, hbc, hq1, hq2]
                                    all_goals (rw [hfp, hfe]; exact feed_bad)
                              · exfalso; revert hc; simp [go_sem, decide_false, decide_true, Bool.not_true, Bool.not_false, h9, hcap0, hcap1, Nat.zero_add, hal, hall, hb0, hb1, hb2, hb3, hg0, hg1, hg2, hg3, hge, hgt3, hp0, hp1, hp2, Int.toNat_zero, Int.toNat_one, Int.reduceToNat, Int.toNat_natCast, hnn, hnn2, hw1, hw2, hbc, hq1, hq2]
                  · exfalso; revert hc; simp [go_sem, decide_false, decide_true, Bool.not_true, Bool.not_false, h9, hcap0, hcap1, Nat.zero_add, hal, hall, hb0, hb1, hb2, hb3, hg0, hg1, hg2, hg3, hge, hgt3, hp0, hp1, hp2, Int.toNat_zero, Int.toNat_one, Int.reduceToNat, Int.toNat_natCast, hnn, hnn2, hw1, hw2, hbc, hq1, hq2]
              · simp only [fV_of _ hl0, fM_of _ hl0, List.cons_append, List.nil_append]
                have hlb : 4 * l.length + bt.length ≤ all.length := hv.2.2
                have hfe := feed_fault hv hs (hf_size hk1 hk2 hnz) (by decide)
                obtain ⟨b0, hb0⟩ : ∃ b, bt.getD 0 0 = b := ⟨_, rfl⟩
                obtain ⟨b1, hb1⟩ : ∃ b, bt.getD 1 0 = b := ⟨_, rfl⟩
                obtain ⟨b2, hb2⟩ : ∃ b, bt.getD 2 0 = b := ⟨_, rfl⟩
                obtain ⟨b3, hb3⟩ : ∃ b, bt.getD 3 0 = b := ⟨_, rfl⟩
                have hg0 := rowG (bs := bt) (i := 0) (by omega) hb0
                have hg1 := rowG (bs := bt) (i := 1) (by omega) hb1
                have hg2 := rowG (bs := bt) (i := 2) (by omega) hb2
                have hg3 := rowG (bs := bt) (i := 3) (by omega) hb3
                obtain ⟨n, hn⟩ : ∃ x, nOf bt = x := ⟨_, rfl⟩
                have hk0 : kOf bt = b0.toNat := by rw [kOf, hb0]
                have hn0 : 256 * b2.toNat + b3.toNat = n := by rw [← hn, nOf, hb2, hb3]
                have hnl : n < 65536 := hn ▸ nOf_lt bt
                have hl0 := b0.toNat_lt
                have hl1 := b1.toNat_lt
                have hl2 := b2.toNat_lt
                have hl3 := b3.toNat_lt
                have hid : b1.toNat ≤ 255 := by omega
                have hge : (4 : Int) ≤ ((bt.length : Nat) : Int) := by omega
                have hgt3 : (3 : Int) < ((bt.length : Nat) : Int) := by omega
                have hp0 : (0 : Int) < ((bt.length : Nat) : Int) := by omega
                have hp1 : (1 : Int) < ((bt.length : Nat) : Int) := by omega
                have hp2 : (2 : Int) < ((bt.length : Nat) : Int) := by omega
                have hlo : bt.length ≤ all.length := by have := hv.2.2; simp only at this; omega
                rw [hk0] at hk1 hk2
                rw [hn] at hnz
                have hq1 : (b0 < 1) = False := eq_false fun h => by have := UInt8.lt_iff_toNat_lt.mp h; simp at this; omega
                have hq2 : (5 < b0) = False := eq_false fun h => by have := UInt8.lt_iff_toNat_lt.mp h; simp at this; omega
                have hq3 : (900 : Int) < ((n : Nat) : Int) := by omega
                obtain ⟨hnn, hnn2, hw1, hw2, hcap⟩ : ior (ishl ((b2.toNat : Nat) : Int) (UInt64.toNat 8)) ((b3.toNat : Nat) : Int) = ((n : Nat) : Int) ∧ Go.RowKit.wrap64 (Go.RowKit.wrap64 (((b2.toNat : Nat) : Int) * 256) + ((b3.toNat : Nat) : Int)) = ((n : Nat) : Int) ∧ Go.RowKit.wrap64 (4 + ((n : Nat) : Int)) = ((n + 4 : Nat) : Int) ∧ Go.RowKit.wrap64 (((bt.length : Nat) : Int) - 4) = ((bt.length - 4 : Nat) : Int) ∧ (l.length + 1) * 40 ≤ 140737488355328 := ⟨n_shl hl2 hl3 hn0, n_mul hl2 hl3 hn0, wnat (by omega) (by omega), wnat (by omega) (by omega), by omega⟩
                have hbc : bt.length ≤ 140737488355328 := by clear hnn hnn2 hw1 hw2 hcap; omega
                
                refine seq_k fun N200 M200 hN200 hM200 => ?_
                refine seq_k fun N201 M201 hN201 hM201 => ?_
                refine region_k fun K202 hK202 => ?_
                simp only [go_sem, decide_false, decide_true, Bool.not_true, Bool.not_false, h9, hcap0, hcap1, Nat.zero_add, hal, hall, hb0, hb1, hb2, hb3, hg0, hg1, hg2, hg3, hge, hgt3, hp0, hp1, hp2, Int.toNat_zero, Int.toNat_one, Int.reduceToNat, Int.toNat_natCast, hnn, hnn2, hw1, hw2, hbc, hq1, hq2, hq3]
                all_goals repeat' (first | apply And.intro | intro _)
                all_goals
                  refine hK202 _ ?_
                  refine hN201 _ ?_
                  refine cond_k rfl (fun hc => ?_) (fun hc => ?_)
                  · try simp only [go_sem, decide_false, decide_true, Bool.not_true, Bool.not_false, h9, hcap0, hcap1, Nat.zero_add, hal, hall, hb0, hb1, hb2, hb3, hg0, hg1, hg2, hg3, hge, hgt3, hp0, hp1, hp2, Int.toNat_zero, Int.toNat_one, Int.reduceToNat, Int.toNat_natCast, hnn, hnn2, hw1, hw2, hbc, hq1, hq2, hq3] at hc
                    all_goals
                      refine skip_k ?_
                      refine hN200 _ ?_
                      refine block_k fun B203 bn203 bx203 br203 bi203 => ?_
                      refine seq_k fun N204 M204 hN204 hM204 => ?_
                      refine draw_k [23, 24, 25, 26, 27, 28, 29, 30, 31, 9] [0, 1, 3, 7, 0, 16, 48, 112, 255, 0, 1023] [] mixed (by kernel_rfl) (by simp only [go_sem]) fun K205 hK205 => ?_
                      simp only [go_sem, decide_false, decide_true, Bool.not_true, Bool.not_false, h9, hcap0, hcap1, Nat.zero_add, hal, hall, hb0, hb1, hb2, hb3, hg0, hg1, hg2, hg3, hge, hgt3, hp0, hp1, hp2, Int.toNat_zero, Int.toNat_one, Int.reduceToNat, Int.toNat_natCast, hnn, hnn2, hw1, hw2, hbc, hq1, hq2, hq3]
                      all_goals repeat' (first | apply And.intro | intro _)
                      all_goals
                        refine hK205 _ _ ?_ ?_
                        · first | trivial | (simp only [go_sem]; done) | (simp only [go_sem]; simp; done) | (simp only [go_sem]; simp; simp only [go_sem])
                        refine hN204 _ ?_
                        refine seq_k fun N206 M206 hN206 hM206 => ?_
                        refine draw_k [32, 33, 34, 35, 36, 37, 38, 39, 40, 41, 10] [0, 1, 3, 7, 15, 0, 32, 96, 224, 511, 1023] [] mixed (by kernel_rfl) (by simp only [go_sem]) fun K207 hK207 => ?_
                        simp only [go_sem, decide_false, decide_true, Bool.not_true, Bool.not_false, h9, hcap0, hcap1, Nat.zero_add, hal, hall, hb0, hb1, hb2, hb3, hg0, hg1, hg2, hg3, hge, hgt3, hp0, hp1, hp2, Int.toNat_zero, Int.toNat_one, Int.reduceToNat, Int.toNat_natCast, hnn, hnn2, hw1, hw2, hbc, hq1, hq2, hq3]
                        all_goals repeat' (first | apply And.intro | intro _)
                        all_goals
                          refine hK207 _ _ ?_ ?_
                          · first | trivial | (simp only [go_sem]; done) | (simp only [go_sem]; simp; done) | (simp only [go_sem]; simp; simp only [go_sem])
                          refine hN206 _ ?_
                          refine seq_k fun N208 M208 hN208 hM208 => ?_
                          refine seq_k fun N209 M209 hN209 hM209 => ?_
                          refine region_k fun K210 hK210 => ?_
                          simp only [go_sem, decide_false, decide_true, Bool.not_true, Bool.not_false, h9, hcap0, hcap1, Nat.zero_add, hal, hall, hb0, hb1, hb2, hb3, hg0, hg1, hg2, hg3, hge, hgt3, hp0, hp1, hp2, Int.toNat_zero, Int.toNat_one, Int.reduceToNat, Int.toNat_natCast, hnn, hnn2, hw1, hw2, hbc, hq1, hq2, hq3]
                          all_goals repeat' (first | apply And.intro | intro _)
                          all_goals refine call_view (fun k => k) (fun _ _ => rfl) (by first | rfl | (simp only [go_sem, decide_false, decide_true, Bool.not_true, Bool.not_false, h9, hcap0, hcap1, Nat.zero_add, hal, hall, hb0, hb1, hb2, hb3, hg0, hg1, hg2, hg3, hge, hgt3, hp0, hp1, hp2, Int.toNat_zero, Int.toNat_one, Int.reduceToNat, Int.toNat_natCast, hnn, hnn2, hw1, hw2, hbc, hq1, hq2, hq3]; rfl) | simp only [go_sem, decide_false, decide_true, Bool.not_true, Bool.not_false, h9, hcap0, hcap1, Nat.zero_add, hal, hall, hb0, hb1, hb2, hb3, hg0, hg1, hg2, hg3, hge, hgt3, hp0, hp1, hp2, Int.toNat_zero, Int.toNat_one, Int.reduceToNat, Int.toNat_natCast, hnn, hnn2, hw1, hw2, hbc, hq1, hq2, hq3]) (by first | exact ((fc_low _ _ hid _ _ hk).plain fun _ _ h => h) | exact ((fc_big _ _ hid _ _ hk).plain fun _ _ h => h) | exact ((fc_mid _ _ hid _ _ hk1 (by omega)).plain fun _ _ h => h)) ?_
                          all_goals (rintro v m ⟨hR, hm⟩; subst hR; subst hm)
                          all_goals refine And.intro (by first | rfl | simp only [go_sem, decide_false, decide_true, Bool.not_true, Bool.not_false, h9, hcap0, hcap1, Nat.zero_add, hal, hall, hb0, hb1, hb2, hb3, hg0, hg1, hg2, hg3, hge, hgt3, hp0, hp1, hp2, Int.toNat_zero, Int.toNat_one, Int.reduceToNat, Int.toNat_natCast, hnn, hnn2, hw1, hw2, hbc, hq1, hq2, hq3]) (And.intro (by first | rfl | simp only [go_sem, decide_false, decide_true, Bool.not_true, Bool.not_false, h9, hcap0, hcap1, Nat.zero_add, hal, hall, hb0, hb1, hb2, hb3, hg0, hg1, hg2, hg3, hge, hgt3, hp0, hp1, hp2, Int.toNat_zero, Int.toNat_one, Int.reduceToNat, Int.toNat_natCast, hnn, hnn2, hw1, hw2, hbc, hq1, hq2, hq3]) ?_)
                          all_goals simp only [go_sem, decide_false, decide_true, Bool.not_true, Bool.not_false, h9, hcap0, hcap1, Nat.zero_add, hal, hall, hb0, hb1, hb2, hb3, hg0, hg1, hg2, hg3, hge, hgt3, hp0, hp1, hp2, Int.toNat_zero, Int.toNat_one, Int.reduceToNat, Int.toNat_natCast, hnn, hnn2, hw1, hw2, hbc, hq1, hq2, hq3]
                          all_goals repeat' (first | apply And.intro | intro _)
                          all_goals
                            refine hK210 _ ?_
                            refine hN209 _ ?_
                            refine seq_k fun N211 M211 hN211 hM211 => ?_
                            refine region_k fun K212 hK212 => ?_
                            simp only [go_sem, decide_false, decide_true, Bool.not_true, Bool.not_false, h9, hcap0, hcap1, Nat.zero_add, hal, hall, hb0, hb1, hb2, hb3, hg0, hg1, hg2, hg3, hge, hgt3, hp0, hp1, hp2, Int.toNat_zero, Int.toNat_one, Int.reduceToNat, Int.toNat_natCast, hnn, hnn2, hw1, hw2, hbc, hq1, hq2, hq3]
                            all_goals repeat' (first | apply And.intro | intro _)
                            all_goals
                              refine hK212 _ ?_
                              refine hN211 _ ?_
                              refine cond_k rfl (fun hc => ?_) (fun hc => ?_)
                              · exfalso; revert hc; simp [go_sem, decide_false, decide_true, Bool.not_true, Bool.not_false, h9, hcap0, hcap1, Nat.zero_add, hal, hall, hb0, hb1, hb2, hb3, hg0, hg1, hg2, hg3, hge, hgt3, hp0, hp1, hp2, Int.toNat_zero, Int.toNat_one, Int.reduceToNat, Int.toNat_natCast, hnn, hnn2, hw1, hw2, hbc, hq1, hq2, hq3]
                              · try simp only [go_sem, decide_false, decide_true, Bool.not_true, Bool.not_false, h9, hcap0, hcap1, Nat.zero_add, hal, hall, hb0, hb1, hb2, hb3, hg0, hg1, hg2, hg3, hge, hgt3, hp0, hp1, hp2, Int.toNat_zero, Int.toNat_one, Int.reduceToNat, Int.toNat_natCast, hnn, hnn2, hw1, hw2, hbc, hq1, hq2, hq3] at hc
                                all_goals
                                  refine skip_k ?_
                                  refine hN208 _ ?_
                                  refine seq_k fun N213 M213 hN213 hM213 => ?_
                                  refine seq_k fun N214 M214 hN214 hM214 => ?_
                                  refine region_k fun K215 hK215 => ?_
                                  simp only [go_sem, decide_false, decide_true, Bool.not_true, Bool.not_false, h9, hcap0, hcap1, Nat.zero_add, hal, hall, hb0, hb1, hb2, hb3, hg0, hg1, hg2, hg3, hge, hgt3, hp0, hp1, hp2, Int.toNat_zero, Int.toNat_one, Int.reduceToNat, Int.toNat_natCast, hnn, hnn2, hw1, hw2, hbc, hq1, hq2, hq3]
                                  all_goals repeat' (first | apply And.intro | intro _)
                                  all_goals
                                    refine hK215 _ ?_
                                    refine hN214 _ ?_
                                    refine cond_k rfl (fun hc => ?_) (fun hc => ?_)
                                    · try simp only [go_sem, decide_false, decide_true, Bool.not_true, Bool.not_false, h9, hcap0, hcap1, Nat.zero_add, hal, hall, hb0, hb1, hb2, hb3, hg0, hg1, hg2, hg3, hge, hgt3, hp0, hp1, hp2, Int.toNat_zero, Int.toNat_one, Int.reduceToNat, Int.toNat_natCast, hnn, hnn2, hw1, hw2, hbc, hq1, hq2, hq3] at hc
                                      all_goals
                                        refine seq_k fun N216 M216 hN216 hM216 => ?_
                                        refine region_k fun K217 hK217 => ?_
                                        simp only [go_sem, decide_false, decide_true, Bool.not_true, Bool.not_false, h9, hcap0, hcap1, Nat.zero_add, hal, hall, hb0, hb1, hb2, hb3, hg0, hg1, hg2, hg3, hge, hgt3, hp0, hp1, hp2, Int.toNat_zero, Int.toNat_one, Int.reduceToNat, Int.toNat_natCast, hnn, hnn2, hw1, hw2, hbc, hq1, hq2, hq3]
                                        all_goals repeat' (first | apply And.intro | intro _)
                                        all_goals
                                          refine hK217 _ ?_
                                          refine hN216 _ ?_
                                          refine ret_k ?_
                                          refine hM213 _ _ ?_
                                          refine br203 _ ?_
                                          refine hM12 _ _ ?_
                                          refine br11 _ ?_
                                          refine hM10 _ _ ?_
                                          simp only [go_sem, decide_false, decide_true, Bool.not_true, Bool.not_false, h9, hcap0, hcap1, Nat.zero_add, hal, hall, hb0, hb1, hb2, hb3, hg0, hg1, hg2, hg3, hge, hgt3, hp0, hp1, hp2, Int.toNat_zero, Int.toNat_one, Int.reduceToNat, Int.toNat_natCast, hnn, hnn2, hw1, hw2, hbc, hq1, hq2, hq3]
                                          all_goals (rw [hfp, hfe]; exact feed_bad)
                                    · exfalso; revert hc; simp [go_sem, decide_false, decide_true, Bool.not_true, Bool.not_false, h9, hcap0, hcap1, Nat.zero_add, hal, hall, hb0, hb1, hb2, hb3, hg0, hg1, hg2, hg3, hge, hgt3, hp0, hp1, hp2, Int.toNat_zero, Int.toNat_one, Int.reduceToNat, Int.toNat_natCast, hnn, hnn2, hw1, hw2, hbc, hq1, hq2, hq3]
                  · exfalso; revert hc; simp [go_sem, decide_false, decide_true, Bool.not_true, Bool.not_false, h9, hcap0, hcap1, Nat.zero_add, hal, hall, hb0, hb1, hb2, hb3, hg0, hg1, hg2, hg3, hge, hgt3, hp0, hp1, hp2, Int.toNat_zero, Int.toNat_one, Int.reduceToNat, Int.toNat_natCast, hnn, hnn2, hw1, hw2, hbc, hq1, hq2, hq3]
              · simp only [fV_of _ hl0, fM_of _ hl0, List.cons_append, List.nil_append]
                have hlb : 4 * l.length + bt.length ≤ all.length := hv.2.2
                have hfe := feed_fault hv hs (hf_form hk hn1 hnz) (by decide)
                obtain ⟨b0, hb0⟩ : ∃ b, bt.getD 0 0 = b := ⟨_, rfl⟩
                obtain ⟨b1, hb1⟩ : ∃ b, bt.getD 1 0 = b := ⟨_, rfl⟩
                obtain ⟨b2, hb2⟩ : ∃ b, bt.getD 2 0 = b := ⟨_, rfl⟩
                obtain ⟨b3, hb3⟩ : ∃ b, bt.getD 3 0 = b := ⟨_, rfl⟩
                have hg0 := rowG (bs := bt) (i := 0) (by omega) hb0
                have hg1 := rowG (bs := bt) (i := 1) (by omega) hb1
                have hg2 := rowG (bs := bt) (i := 2) (by omega) hb2
                have hg3 := rowG (bs := bt) (i := 3) (by omega) hb3
                obtain ⟨n, hn⟩ : ∃ x, nOf bt = x := ⟨_, rfl⟩
                have hk0 : kOf bt = b0.toNat := by rw [kOf, hb0]
                have hn0 : 256 * b2.toNat + b3.toNat = n := by rw [← hn, nOf, hb2, hb3]
                have hnl : n < 65536 := hn ▸ nOf_lt bt
                have hl0 := b0.toNat_lt
                have hl1 := b1.toNat_lt
                have hl2 := b2.toNat_lt
                have hl3 := b3.toNat_lt
                have hid : b1.toNat ≤ 255 := by omega
                have hge : (4 : Int) ≤ ((bt.length : Nat) : Int) := by omega
                have hgt3 : (3 : Int) < ((bt.length : Nat) : Int) := by omega
                have hp0 : (0 : Int) < ((bt.length : Nat) : Int) := by omega
                have hp1 : (1 : Int) < ((bt.length : Nat) : Int) := by omega
                have hp2 : (2 : Int) < ((bt.length : Nat) : Int) := by omega
                have hlo : bt.length ≤ all.length := by have := hv.2.2; simp only at this; omega
                rw [hk0] at hk
                rw [hn] at hn1 hnz
                have hk1 : 1 ≤ b0.toNat := by omega
                have hk2 : b0.toNat ≤ 5 := by omega
                have hq1 : (b0 < 1) = False := eq_false fun h => by have := UInt8.lt_iff_toNat_lt.mp h; simp at this; omega
                have hq2 : (5 < b0) = False := eq_false fun h => by have := UInt8.lt_iff_toNat_lt.mp h; simp at this; omega
                have hq3 : ¬ (900 : Int) < ((n : Nat) : Int) := by omega
                have hq4 : (((b0.toNat : Nat) : Int) = 5) = True := eq_true (by omega)
                have hq5 : (0 : Int) < ((n : Nat) : Int) := by omega
                have hq6 : (b0 = 5) = True := eq_true (UInt8.toNat_inj.mp hk)
                obtain ⟨hnn, hnn2, hw1, hw2, hcap⟩ : ior (ishl ((b2.toNat : Nat) : Int) (UInt64.toNat 8)) ((b3.toNat : Nat) : Int) = ((n : Nat) : Int) ∧ Go.RowKit.wrap64 (Go.RowKit.wrap64 (((b2.toNat : Nat) : Int) * 256) + ((b3.toNat : Nat) : Int)) = ((n : Nat) : Int) ∧ Go.RowKit.wrap64 (4 + ((n : Nat) : Int)) = ((n + 4 : Nat) : Int) ∧ Go.RowKit.wrap64 (((bt.length : Nat) : Int) - 4) = ((bt.length - 4 : Nat) : Int) ∧ (l.length + 1) * 40 ≤ 140737488355328 := ⟨n_shl hl2 hl3 hn0, n_mul hl2 hl3 hn0, wnat (by omega) (by omega), wnat (by omega) (by omega), by omega⟩
                have hbc : bt.length ≤ 140737488355328 := by clear hnn hnn2 hw1 hw2 hcap; omega
                
                refine seq_k fun N218 M218 hN218 hM218 => ?_
                refine seq_k fun N219 M219 hN219 hM219 => ?_
                refine region_k fun K220 hK220 => ?_
                simp only [go_sem, decide_false, decide_true, Bool.not_true, Bool.not_false, h9, hcap0, hcap1, Nat.zero_add, hal, hall, hb0, hb1, hb2, hb3, hg0, hg1, hg2, hg3, hge, hgt3, hp0, hp1, hp2, Int.toNat_zero, Int.toNat_one, Int.reduceToNat, Int.toNat_natCast, hnn, hnn2, hw1, hw2, hbc, hq1, hq2, hq3, hq4, hq5, hq6]
                all_goals repeat' (first | apply And.intro | intro _)
                all_goals
                  refine hK220 _ ?_
                  refine hN219 _ ?_
                  refine cond_k rfl (fun hc => ?_) (fun hc => ?_)
                  · try simp only [go_sem, decide_false, decide_true, Bool.not_true, Bool.not_false, h9, hcap0, hcap1, Nat.zero_add, hal, hall, hb0, hb1, hb2, hb3, hg0, hg1, hg2, hg3, hge, hgt3, hp0, hp1, hp2, Int.toNat_zero, Int.toNat_one, Int.reduceToNat, Int.toNat_natCast, hnn, hnn2, hw1, hw2, hbc, hq1, hq2, hq3, hq4, hq5, hq6] at hc
                    all_goals
                      refine skip_k ?_
                      refine hN218 _ ?_
                      refine block_k fun B221 bn221 bx221 br221 bi221 => ?_
                      refine seq_k fun N222 M222 hN222 hM222 => ?_
                      refine draw_k [23, 24, 25, 26, 27, 28, 29, 30, 31, 9] [0, 1, 3, 7, 0, 16, 48, 112, 255, 0, 1023] [] mixed (by kernel_rfl) (by simp only [go_sem]) fun K223 hK223 => ?_
                      simp only [go_sem, decide_false, decide_true, Bool.not_true, Bool.not_false, h9, hcap0, hcap1, Nat.zero_add, hal, hall, hb0, hb1, hb2, hb3, hg0, hg1, hg2, hg3, hge, hgt3, hp0, hp1, hp2, Int.toNat_zero, Int.toNat_one, Int.reduceToNat, Int.toNat_natCast, hnn, hnn2, hw1, hw2, hbc, hq1, hq2, hq3, hq4, hq5, hq6]
                      all_goals repeat' (first | apply And.intro | intro _)
                      all_goals
                        refine hK223 _ _ ?_ ?_
                        · first | trivial | (simp only [go_sem]; done) | (simp only [go_sem]; simp; done) | (simp only [go_sem]; simp; simp only [go_sem])
                        refine hN222 _ ?_
                        refine seq_k fun N224 M224 hN224 hM224 => ?_
                        refine draw_k [32, 33, 34, 35, 36, 37, 38, 39, 40, 41, 10] [0, 1, 3, 7, 15, 0, 32, 96, 224, 511, 1023] [] mixed (by kernel_rfl) (by simp only [go_sem]) fun K225 hK225 => ?_
                        simp only [go_sem, decide_false, decide_true, Bool.not_true, Bool.not_false, h9, hcap0, hcap1, Nat.zero_add, hal, hall, hb0, hb1, hb2, hb3, hg0, hg1, hg2, hg3, hge, hgt3, hp0, hp1, hp2, Int.toNat_zero, Int.toNat_one, Int.reduceToNat, Int.toNat_natCast, hnn, hnn2, hw1, hw2, hbc, hq1, hq2, hq3, hq4, hq5, hq6]
                        all_goals repeat' (first | apply And.intro | intro _)
                        all_goals
                          refine hK225 _ _ ?_ ?_
                          · first | trivial | (simp only [go_sem]; done) | (simp only [go_sem]; simp; done) | (simp only [go_sem]; simp; simp only [go_sem])
                          refine hN224 _ ?_
                          refine seq_k fun N226 M226 hN226 hM226 => ?_
                          refine seq_k fun N227 M227 hN227 hM227 => ?_
                          refine region_k fun K228 hK228 => ?_
                          simp only [go_sem, decide_false, decide_true, Bool.not_true, Bool.not_false, h9, hcap0, hcap1, Nat.zero_add, hal, hall, hb0, hb1, hb2, hb3, hg0, hg1, hg2, hg3, hge, hgt3, hp0, hp1, hp2, Int.toNat_zero, Int.toNat_one, Int.reduceToNat, Int.toNat_natCast, hnn, hnn2, hw1, hw2, hbc, hq1, hq2, hq3, hq4, hq5, hq6]
                          all_goals repeat' (first | apply And.intro | intro _)
                          all_goals refine call_view (fun k => k) (fun _ _ => rfl) (by first | rfl | (simp only [go_sem, decide_false, decide_true, Bool.not_true, Bool.not_false, h9, hcap0, hcap1, Nat.zero_add, hal, hall, hb0, hb1, hb2, hb3, hg0, hg1, hg2, hg3, hge, hgt3, hp0, hp1, hp2, Int.toNat_zero, Int.toNat_one, Int.reduceToNat, Int.toNat_natCast, hnn, hnn2, hw1, hw2, hbc, hq1, hq2, hq3, hq4, hq5, hq6]; rfl) | simp only [go_sem, decide_false, decide_true, Bool.not_true, Bool.not_false, h9, hcap0, hcap1, Nat.zero_add, hal, hall, hb0, hb1, hb2, hb3, hg0, hg1, hg2, hg3, hge, hgt3, hp0, hp1, hp2, Int.toNat_zero, Int.toNat_one, Int.reduceToNat, Int.toNat_natCast, hnn, hnn2, hw1, hw2, hbc, hq1, hq2, hq3, hq4, hq5, hq6]) (by first | exact ((fc_low _ _ hid _ _ hk).plain fun _ _ h => h) | exact ((fc_big _ _ hid _ _ hk).plain fun _ _ h => h) | exact ((fc_mid _ _ hid _ _ hk1 (by omega)).plain fun _ _ h => h)) ?_
                          all_goals (rintro v m ⟨hR, hm⟩; subst hR; subst hm)
                          all_goals refine And.intro (by first | rfl | simp only [go_sem, decide_false, decide_true, Bool.not_true, Bool.not_false, h9, hcap0, hcap1, Nat.zero_add, hal, hall, hb0, hb1, hb2, hb3, hg0, hg1, hg2, hg3, hge, hgt3, hp0, hp1, hp2, Int.toNat_zero, Int.toNat_one, Int.reduceToNat, Int.toNat_natCast, hnn, hnn2, hw1, hw2, hbc, hq1, hq2, hq3, hq4, hq5, hq6]) (And.intro (by first | rfl | simp only [go_sem, decide_false, decide_true, Bool.not_true, Bool.not_false, h9, hcap0, hcap1, Nat.zero_add, hal, hall, hb0, hb1, hb2, hb3, hg0, hg1, hg2, hg3, hge, hgt3, hp0, hp1, hp2, Int.toNat_zero, Int.toNat_one, Int.reduceToNat, Int.toNat_natCast, hnn, hnn2, hw1, hw2, hbc, hq1, hq2, hq3, hq4, hq5, hq6]) ?_)
                          all_goals simp only [go_sem, decide_false, decide_true, Bool.not_true, Bool.not_false, h9, hcap0, hcap1, Nat.zero_add, hal, hall, hb0, hb1, hb2, hb3, hg0, hg1, hg2, hg3, hge, hgt3, hp0, hp1, hp2, Int.toNat_zero, Int.toNat_one, Int.reduceToNat, Int.toNat_natCast, hnn, hnn2, hw1, hw2, hbc, hq1, hq2, hq3, hq4, hq5, hq6]
                          all_goals repeat' (first | apply And.intro | intro _)
                          all_goals
                            refine hK228 _ ?_
                            refine hN227 _ ?_
                            refine seq_k fun N229 M229 hN229 hM229 => ?_
                            refine region_k fun K230 hK230 => ?_
                            simp only [go_sem, decide_false, decide_true, Bool.not_true, Bool.not_false, h9, hcap0, hcap1, Nat.zero_add, hal, hall, hb0, hb1, hb2, hb3, hg0, hg1, hg2, hg3, hge, hgt3, hp0, hp1, hp2, Int.toNat_zero, Int.toNat_one, Int.reduceToNat, Int.toNat_natCast, hnn, hnn2, hw1, hw2, hbc, hq1, hq2, hq3, hq4, hq5, hq6]
                            all_goals repeat' (first | apply And.intro | intro _)
                            all_goals
                              refine hK230 _ ?_
                              refine hN229 _ ?_
                              refine cond_k rfl (fun hc => ?_) (fun hc => ?_)
                              · exfalso; revert hc; simp [go_sem, decide_false, decide_true, Bool.not_true, Bool.not_false, h9, hcap0, hcap1, Nat.zero_add, hal, hall, hb0, hb1, hb2, hb3, hg0, hg1, hg2, hg3, hge, hgt3, hp0, hp1, hp2, Int.toNat_zero, Int.toNat_one, Int.reduceToNat, Int.toNat_natCast, hnn, hnn2, hw1, hw2, hbc, hq1, hq2, hq3, hq4, hq5, hq6]
                              · try simp only [go_sem, decide_false, decide_true, Bool.not_true, Bool.not_false, h9, hcap0, hcap1, Nat.zero_add, hal, hall, hb0, hb1, hb2, hb3, hg0, hg1, hg2, hg3, hge, hgt3, hp0, hp1, hp2, Int.toNat_zero, Int.toNat_one, Int.reduceToNat, Int.toNat_natCast, hnn, hnn2, hw1, hw2, hbc, hq1, hq2, hq3, hq4, hq5, hq6] at hc
                                all_goals
                                  refine skip_k ?_
                                  refine hN226 _ ?_
                                  refine seq_k fun N231 M231 hN231 hM231 => ?_
                                  refine seq_k fun N232 M232 hN232 hM232 => ?_
                                  refine region_k fun K233 hK233 => ?_
                                  simp only [go_sem, decide_false, decide_true, Bool.not_true, Bool.not_false, h9, hcap0, hcap1, Nat.zero_add, hal, hall, hb0, hb1, hb2, hb3, hg0, hg1, hg2, hg3, hge, hgt3, hp0, hp1, hp2, Int.toNat_zero, Int.toNat_one, Int.reduceToNat, Int.toNat_natCast, hnn, hnn2, hw1, hw2, hbc, hq1, hq2, hq3, hq4, hq5, hq6]
                                  all_goals repeat' (first | apply And.intro | intro _)
                                  all_goals
                                    refine hK233 _ ?_
                                    refine hN232 _ ?_
                                    refine cond_k rfl (fun hc => ?_) (fun hc => ?_)
                                    · exfalso; revert hc; simp [go_sem, decide_false, decide_true, Bool.not_true, Bool.not_false, h9, hcap0, hcap1, Nat.zero_add, hal, hall, hb0, hb1, hb2, hb3, hg0, hg1, hg2, hg3, hge, hgt3, hp0, hp1, hp2, Int.toNat_zero, Int.toNat_one, Int.reduceToNat, Int.toNat_natCast, hnn, hnn2, hw1, hw2, hbc, hq1, hq2, hq3, hq4, hq5, hq6]
                                    · try simp only [go_sem, decide_false, decide_true, Bool.not_true, Bool.not_false, h9, hcap0, hcap1, Nat.zero_add, hal, hall, hb0, hb1, hb2, hb3, hg0, hg1, hg2, hg3, hge, hgt3, hp0, hp1, hp2, Int.toNat_zero, Int.toNat_one, Int.reduceToNat, Int.toNat_natCast, hnn, hnn2, hw1, hw2, hbc, hq1, hq2, hq3, hq4, hq5, hq6] at hc
                                      all_goals
                                        refine skip_k ?_
                                        refine hN231 _ ?_
                                        refine seq_k fun N234 M234 hN234 hM234 => ?_
                                        refine seq_k fun N235 M235 hN235 hM235 => ?_
                                        refine region_k fun K236 hK236 => ?_
                                        simp only [go_sem, decide_false, decide_true, Bool.not_true, Bool.not_false, h9, hcap0, hcap1, Nat.zero_add, hal, hall, hb0, hb1, hb2, hb3, hg0, hg1, hg2, hg3, hge, hgt3, hp0, hp1, hp2, Int.toNat_zero, Int.toNat_one, Int.reduceToNat, Int.toNat_natCast, hnn, hnn2, hw1, hw2, hbc, hq1, hq2, hq3, hq4, hq5, hq6]
                                        all_goals repeat' (first | apply And.intro | intro _)
                                        all_goals
                                          refine hK236 _ ?_
                                          refine hN235 _ ?_
                                          refine cond_k rfl (fun hc => ?_) (fun hc => ?_)
                                          · try simp only [go_sem, decide_false, decide_true, Bool.not_true, Bool.not_false, h9, hcap0, hcap1, Nat.zero_add, hal, hall, hb0, hb1, hb2, hb3, hg0, hg1, hg2, hg3, hge, hgt3, hp0, hp1, hp2, Int.toNat_zero, Int.toNat_one, Int.reduceToNat, Int.toNat_natCast, hnn, hnn2, hw1, hw2, hbc, hq1, hq2, hq3, hq4, hq5, hq6] at hc
                                            all_goals
                                              refine seq_k fun N237 M237 hN237 hM237 => ?_
                                              refine region_k fun K238 hK238 => ?_
                                              simp only [go_sem, decide_false, decide_true, Bool.not_true, Bool.not_false, h9, hcap0, hcap1, Nat.zero_add, hal, hall, hb0, hb1, hb2, hb3, hg0, hg1, hg2, hg3, hge, hgt3, hp0, hp1, hp2, Int.toNat_zero, Int.toNat_one, Int.reduceToNat, Int.toNat_natCast, hnn, hnn2, hw1, hw2, hbc, hq1, hq2, hq3, hq4, hq5, hq6]
                                              all_goals repeat' (first | apply And.intro | intro _)
                                              all_goals
                                                refine hK238 _ ?_
                                                refine hN237 _ ?_
                                                refine ret_k ?_
                                                refine hM234 _ _ ?_
                                                refine br221 _ ?_
                                                refine hM12 _ _ ?_
                                                refine br11 _ ?_
                                                refine hM10 _ _ ?_
                                                simp only [go_sem, decide_false, decide_true, Bool.not_true, Bool.not_false, h9, hcap0, hcap1, Nat.zero_add, hal, hall, hb0, hb1, hb2, hb3, hg0, hg1, hg2, hg3, hge, hgt3, hp0, hp1, hp2, Int.toNat_zero, Int.toNat_one, Int.reduceToNat, Int.toNat_natCast, hnn, hnn2, hw1, hw2, hbc, hq1, hq2, hq3, hq4, hq5, hq6]
                                                all_goals (rw [hfp, hfe]; exact feed_bad)
                                          · exfalso; revert hc; simp [go_sem, decide_false, decide_true, Bool.not_true, Bool.not_false, h9, hcap0, hcap1, Nat.zero_add, hal, hall, hb0, hb1, hb2, hb3, hg0, hg1, hg2, hg3, hge, hgt3, hp0, hp1, hp2, Int.toNat_zero, Int.toNat_one, Int.reduceToNat, Int.toNat_natCast, hnn, hnn2, hw1, hw2, hbc, hq1, hq2, hq3, hq4, hq5, hq6]
                  · exfalso; revert hc; simp [go_sem, decide_false, decide_true, Bool.not_true, Bool.not_false, h9, hcap0, hcap1, Nat.zero_add, hal, hall, hb0, hb1, hb2, hb3, hg0, hg1, hg2, hg3, hge, hgt3, hp0, hp1, hp2, Int.toNat_zero, Int.toNat_one, Int.reduceToNat, Int.toNat_natCast, hnn, hnn2, hw1, hw2, hbc, hq1, hq2, hq3, hq4, hq5, hq6]
              · simp only [fV_of _ hl0, fM_of _ hl0, List.cons_append, List.nil_append]
                have hlb : 4 * l.length + bt.length ≤ all.length := hv.2.2
                have hfe := feed_wait hv hs (hf_ok hk1 (by omega) hnz (by omega)) hw
                obtain ⟨b0, hb0⟩ : ∃ b, bt.getD 0 0 = b := ⟨_, rfl⟩
                obtain ⟨b1, hb1⟩ : ∃ b, bt.getD 1 0 = b := ⟨_, rfl⟩
                obtain ⟨b2, hb2⟩ : ∃ b, bt.getD 2 0 = b := ⟨_, rfl⟩
                obtain ⟨b3, hb3⟩ : ∃ b, bt.getD 3 0 = b := ⟨_, rfl⟩
                have hg0 := rowG (bs := bt) (i := 0) (by omega) hb0
                have hg1 := rowG (bs := bt) (i := 1) (by omega) hb1
                have hg2 := rowG (bs := bt) (i := 2) (by omega) hb2
                have hg3 := rowG (bs := bt) (i := 3) (by omega) hb3
                obtain ⟨n, hn⟩ : ∃ x, nOf bt = x := ⟨_, rfl⟩
                have hk0 : kOf bt = b0.toNat := by rw [kOf, hb0]
                have hn0 : 256 * b2.toNat + b3.toNat = n := by rw [← hn, nOf, hb2, hb3]
                have hnl : n < 65536 := hn ▸ nOf_lt bt
                have hl0 := b0.toNat_lt
                have hl1 := b1.toNat_lt
                have hl2 := b2.toNat_lt
                have hl3 := b3.toNat_lt
                have hid : b1.toNat ≤ 255 := by omega
                have hge : (4 : Int) ≤ ((bt.length : Nat) : Int) := by omega
                have hgt3 : (3 : Int) < ((bt.length : Nat) : Int) := by omega
                have hp0 : (0 : Int) < ((bt.length : Nat) : Int) := by omega
                have hp1 : (1 : Int) < ((bt.length : Nat) : Int) := by omega
                have hp2 : (2 : Int) < ((bt.length : Nat) : Int) := by omega
                have hlo : bt.length ≤ all.length := by have := hv.2.2; simp only at this; omega
                rw [hk0] at hk1 hk2
                rw [hn] at hnz hw
                have hq1 : (b0 < 1) = False := eq_false fun h => by have := UInt8.lt_iff_toNat_lt.mp h; simp at this; omega
                have hq2 : (5 < b0) = False := eq_false fun h => by have := UInt8.lt_iff_toNat_lt.mp h; simp at this; omega
                have hq3 : ¬ (900 : Int) < ((n : Nat) : Int) := by omega
                have hq4 : ¬ ((b0.toNat : Nat) : Int) = 5 := by omega
                have hq6 : (b0 = 5) = False := eq_false fun h => by subst h; simp at hk2
                have hq7 : ((bt.length : Nat) : Int) < ((n + 4 : Nat) : Int) := by omega
                have hq8 : ((bt.length - 4 : Nat) : Int) < ((n : Nat) : Int) := by omega
                obtain ⟨hnn, hnn2, hw1, hw2, hcap⟩ : ior (ishl ((b2.toNat : Nat) : Int) (UInt64.toNat 8)) ((b3.toNat : Nat) : Int) = ((n : Nat) : Int) ∧ Go.RowKit.wrap64 (Go.RowKit.wrap64 (((b2.toNat : Nat) : Int) * 256) + ((b3.toNat : Nat) : Int)) = ((n : Nat) : Int) ∧ Go.RowKit.wrap64 (4 + ((n : Nat) : Int)) = ((n + 4 : Nat) : Int) ∧ Go.RowKit.wrap64 (((bt.length : Nat) : Int) - 4) = ((bt.length - 4 : Nat) : Int) ∧ (l.length + 1) * 40 ≤ 140737488355328 := ⟨n_shl hl2 hl3 hn0, n_mul hl2 hl3 hn0, wnat (by omega) (by omega), wnat (by omega) (by omega), by omega⟩
                have hbc : bt.length ≤ 140737488355328 := by clear hnn hnn2 hw1 hw2 hcap; omega
                
                refine seq_k fun N239 M239 hN239 hM239 => ?_
                refine seq_k fun N240 M240 hN240 hM240 => ?_
                refine region_k fun K241 hK241 => ?_
                simp only [go_sem, decide_false, decide_true, Bool.not_true, Bool.not_false, h9, hcap0, hcap1, Nat.zero_add, hal, hall, hb0, hb1, hb2, hb3, hg0, hg1, hg2, hg3, hge, hgt3, hp0, hp1, hp2, Int.toNat_zero, Int.toNat_one, Int.reduceToNat, Int.toNat_natCast, hnn, hnn2, hw1, hw2, hbc, hq1, hq2, hq3, hq4, hq6, hq7, hq8]
                all_goals repeat' (first | apply And.intro | intro _)
                all_goals
                  refine hK241 _ ?_
                  refine hN240 _ ?_
                  refine cond_k rfl (fun hc => ?_) (fun hc => ?_)
                  · try simp only [go_sem, decide_false, decide_true, Bool.not_true, Bool.not_false, h9, hcap0, hcap1, Nat.zero_add, hal, hall, hb0, hb1, hb2, hb3, hg0, hg1, hg2, hg3, hge, hgt3, hp0, hp1, hp2, Int.toNat_zero, Int.toNat_one, Int.reduceToNat, Int.toNat_natCast, hnn, hnn2, hw1, hw2, hbc, hq1, hq2, hq3, hq4, hq6, hq7, hq8] at hc
                    all_goals
                      refine skip_k ?_
                      refine hN239 _ ?_
                      refine block_k fun B242 bn242 bx242 br242 bi242 => ?_
                      refine seq_k fun N243 M243 hN243 hM243 => ?_
                      refine draw_k [23, 24, 25, 26, 27, 28, 29, 30, 31, 9] [0, 1, 3, 7, 0, 16, 48, 112, 255, 0, 1023] [] mixed (by kernel_rfl) (by simp only [go_sem]) fun K244 hK244 => ?_
                      simp only [go_sem, decide_false, decide_true, Bool.not_true, Bool.not_false, h9, hcap0, hcap1, Nat.zero_add, hal, hall, hb0, hb1, hb2, hb3, hg0, hg1, hg2, hg3, hge, hgt3, hp0, hp1, hp2, Int.toNat_zero, Int.toNat_one, Int.reduceToNat, Int.toNat_natCast, hnn, hnn2, hw1, hw2, hbc, hq1, hq2, hq3, hq4, hq6, hq7, hq8]
                      all_goals repeat' (first | apply And.intro | intro _)
                      all_goals
                        refine hK244 _ _ ?_ ?_
                        · first | trivial | (simp only [go_sem]; done) | (simp only [go_sem]; simp; done) | (simp only [go_sem]; simp; simp only [go_sem])
                        refine hN243 _ ?_
                        refine seq_k fun N245 M245 hN245 hM245 => ?_
                        refine draw_k [32, 33, 34, 35, 36, 37, 38, 39, 40, 41, 10] [0, 1, 3, 7, 15, 0, 32, 96, 224, 511, 1023] [] mixed (by kernel_rfl) (by simp only [go_sem]) fun K246 hK246 => ?_
                        simp only [go_sem, decide_false, decide_true, Bool.not_true, Bool.not_false, h9, hcap0, hcap1, Nat.zero_add, hal, hall, hb0, hb1, hb2, hb3, hg0, hg1, hg2, hg3, hge, hgt3, hp0, hp1, hp2, Int.toNat_zero, Int.toNat_one, Int.reduceToNat, Int.toNat_natCast, hnn, hnn2, hw1, hw2, hbc, hq1, hq2, hq3, hq4, hq6, hq7, hq8]
                        all_goals repeat' (first | apply And.intro | intro _)
                        all_goals
                          refine hK246 _ _ ?_ ?_
                          · first | trivial | (simp only [go_sem]; done) | (simp only [go_sem]; simp; done) | (simp only [go_sem]; simp; simp only [go_sem])
                          refine hN245 _ ?_
                          refine seq_k fun N247 M247 hN247 hM247 => ?_
                          refine seq_k fun N248 M248 hN248 hM248 => ?_
                          refine region_k fun K249 hK249 => ?_
                          simp only [go_sem, decide_false, decide_true, Bool.not_true, Bool.not_false, h9, hcap0, hcap1, Nat.zero_add, hal, hall, hb0, hb1, hb2, hb3, hg0, hg1, hg2, hg3, hge, hgt3, hp0, hp1, hp2, Int.toNat_zero, Int.toNat_one, Int.reduceToNat, Int.toNat_natCast, hnn, hnn2, hw1, hw2, hbc, hq1, hq2, hq3, hq4, hq6, hq7, hq8]
                          all_goals repeat' (first | apply And.intro | intro _)
                          all_goals refine call_view (fun k => k) (fun _ _ => rfl) (by first | rfl | (simp only [go_sem, decide_false, decide_true, Bool.not_true, Bool.not_false, h9, hcap0, hcap1, Nat.zero_add, hal, hall, hb0, hb1, hb2, hb3, hg0, hg1, hg2, hg3, hge, hgt3, hp0, hp1, hp2, Int.toNat_zero, Int.toNat_one, Int.reduceToNat, Int.toNat_natCast, hnn, hnn2, hw1, hw2, hbc, hq1, hq2, hq3, hq4, hq6, hq7, hq8]; rfl) | simp only [go_sem, decide_false, decide_true, Bool.not_true, Bool.not_false, h9, hcap0, hcap1, Nat.zero_add, hal, hall, hb0, hb1, hb2, hb3, hg0, hg1, hg2, hg3, hge, hgt3, hp0, hp1, hp2, Int.toNat_zero, Int.toNat_one, Int.reduceToNat, Int.toNat_natCast, hnn, hnn2, hw1, hw2, hbc, hq1, hq2, hq3, hq4, hq6, hq7, hq8]) (by first | exact ((fc_low _ _ hid _ _ hk).plain fun _ _ h => h) | exact ((fc_big _ _ hid _ _ hk).plain fun _ _ h => h) | exact ((fc_mid _ _ hid _ _ hk1 (by omega)).plain fun _ _ h => h)) ?_
                          all_goals (rintro v m ⟨hR, hm⟩; subst hR; subst hm)
                          all_goals refine And.intro (by first | rfl | simp only [go_sem, decide_false, decide_true, Bool.not_true, Bool.not_false, h9, hcap0, hcap1, Nat.zero_add, hal, hall, hb0, hb1, hb2, hb3, hg0, hg1, hg2, hg3, hge, hgt3, hp0, hp1, hp2, Int.toNat_zero, Int.toNat_one, Int.reduceToNat, Int.toNat_natCast, hnn, hnn2, hw1, hw2, hbc, hq1, hq2, hq3, hq4, hq6, hq7, hq8]) (And.intro (by first | rfl | simp only [go_sem, decide_false, decide_true, Bool.not_true, Bool.not_false, h9, hcap0, hcap1, Nat.zero_add, hal, hall, hb0, hb1, hb2, hb3, hg0, hg1, hg2, hg3, hge, hgt3, hp0, hp1, hp2, Int.toNat_zero, Int.toNat_one, Int.reduceToNat, Int.toNat_natCast, hnn, hnn2, hw1, hw2, hbc, hq1, hq2, hq3, hq4, hq6, hq7, hq8]) ?_)
                          all_goals simp only [go_sem, decide_false, decide_true, Bool.not_true, Bool.not_false, h9, hcap0, hcap1, Nat.zero_add, hal, hall, hb0, hb1, hb2, hb3, hg0, hg1, hg2, hg3, hge, hgt3, hp0, hp1, hp2, Int.toNat_zero, Int.toNat_one, Int.reduceToNat, Int.toNat_natCast, hnn, hnn2, hw1, hw2, hbc, hq1, hq2, hq3, hq4, hq6, hq7, hq8]
                          all_goals repeat' (first | apply And.intro | intro _)
                          all_goals
                            refine hK249 _ ?_
                            refine hN248 _ ?_
                            refine seq_k fun N250 M250 hN250 hM250 => ?_
                            refine region_k fun K251 hK251 => ?_
                            simp only [go_sem, decide_false, decide_true, Bool.not_true, Bool.not_false, h9, hcap0, hcap1, Nat.zero_add, hal, hall, hb0, hb1, hb2, hb3, hg0, hg1, hg2, hg3, hge, hgt3, hp0, hp1, hp2, Int.toNat_zero, Int.toNat_one, Int.reduceToNat, Int.toNat_natCast, hnn, hnn2, hw1, hw2, hbc, hq1, hq2, hq3, hq4, hq6, hq7, hq8]
                            all_goals repeat' (first | apply And.intro | intro _)
                            all_goals
                              refine hK251 _ ?_
                              refine hN250 _ ?_
                              refine cond_k rfl (fun hc => ?_) (fun hc => ?_)
                              · exfalso; revert hc; simp [go_sem, decide_false, decide_true, Bool.not_true, Bool.not_false, h9, hcap0, hcap1, Nat.zero_add, hal, hall, hb0, hb1, hb2, hb3, hg0, hg1, hg2, hg3, hge, hgt3, hp0, hp1, hp2, Int.toNat_zero, Int.toNat_one, Int.reduceToNat, Int.toNat_natCast, hnn, hnn2, hw1, hw2, hbc, hq1, hq2, hq3, hq4, hq6, hq7, hq8]
                              · try simp only [go_sem, decide_false, decide_true, Bool.not_true, Bool.not_false, h9, hcap0, hcap1, Nat.zero_add, hal, hall, hb0, hb1, hb2, hb3, hg0, hg1, hg2, hg3, hge, hgt3, hp0, hp1, hp2, Int.toNat_zero, Int.toNat_one, Int.reduceToNat, Int.toNat_natCast, hnn, hnn2, hw1, hw2, hbc, hq1, hq2, hq3, hq4, hq6, hq7, hq8] at hc
                                all_goals
                                  refine skip_k ?_
                                  refine hN247 _ ?_
                                  refine seq_k fun N252 M252 hN252 hM252 => ?_
                                  refine seq_k fun N253 M253 hN253 hM253 => ?_
                                  refine region_k fun K254 hK254 => ?_
                                  simp only [go_sem, decide_false, decide_true, Bool.not_true, Bool.not_false, h9, hcap0, hcap1, Nat.zero_add, hal, hall, hb0, hb1, hb2, hb3, hg0, hg1, hg2, hg3, hge, hgt3, hp0, hp1, hp2, Int.toNat_zero, Int.toNat_one, Int.reduceToNat, Int.toNat_natCast, hnn, hnn2, hw1, hw2, hbc, hq1, hq2, hq3, hq4, hq6, hq7, hq8]
                                  all_goals repeat' (first | apply And.intro | intro _)
                                  all_goals
                                    refine hK254 _ ?_
                                    refine hN253 _ ?_
                                    refine cond_k rfl (fun hc => ?_) (fun hc => ?_)
                                    · exfalso; revert hc; simp [go_sem, decide_false, decide_true, Bool.not_true, Bool.not_false, h9, hcap0, hcap1, Nat.zero_add, hal, hall, hb0, hb1, hb2, hb3, hg0, hg1, hg2, hg3, hge, hgt3, hp0, hp1, hp2, Int.toNat_zero, Int.toNat_one, Int.reduceToNat, Int.toNat_natCast, hnn, hnn2, hw1, hw2, hbc, hq1, hq2, hq3, hq4, hq6, hq7, hq8]
                                    · try simp only [go_sem, decide_false, decide_true, Bool.not_true, Bool.not_false, h9, hcap0, hcap1, Nat.zero_add, hal, hall, hb0, hb1, hb2, hb3, hg0, hg1, hg2, hg3, hge, hgt3, hp0, hp1, hp2, Int.toNat_zero, Int.toNat_one, Int.reduceToNat, Int.toNat_natCast, hnn, hnn2, hw1, hw2, hbc, hq1, hq2, hq3, hq4, hq6, hq7, hq8] at hc
                                      all_goals
                                        refine skip_k ?_
                                        refine hN252 _ ?_
                                        refine seq_k fun N255 M255 hN255 hM255 => ?_
                                        refine seq_k fun N256 M256 hN256 hM256 => ?_
                                        refine region_k fun K257 hK257 => ?_
                                        simp only [go_sem, decide_false, decide_true, Bool.not_true, Bool.not_false, h9, hcap0, hcap1, Nat.zero_add, hal, hall, hb0, hb1, hb2, hb3, hg0, hg1, hg2, hg3, hge, hgt3, hp0, hp1, hp2, Int.toNat_zero, Int.toNat_one, Int.reduceToNat, Int.toNat_natCast, hnn, hnn2, hw1, hw2, hbc, hq1, hq2, hq3, hq4, hq6, hq7, hq8]
                                        all_goals repeat' (first | apply And.intro | intro _)
                                        all_goals
                                          refine hK257 _ ?_
                                          refine hN256 _ ?_
                                          refine cond_k rfl (fun hc => ?_) (fun hc => ?_)
                                          · exfalso; revert hc; simp [go_sem, decide_false, decide_true, Bool.not_true, Bool.not_false, h9, hcap0, hcap1, Nat.zero_add, hal, hall, hb0, hb1, hb2, hb3, hg0, hg1, hg2, hg3, hge, hgt3, hp0, hp1, hp2, Int.toNat_zero, Int.toNat_one, Int.reduceToNat, Int.toNat_natCast, hnn, hnn2, hw1, hw2, hbc, hq1, hq2, hq3, hq4, hq6, hq7, hq8]
                                          · try simp only [go_sem, decide_false, decide_true, Bool.not_true, Bool.not_false, h9, hcap0, hcap1, Nat.zero_add, hal, hall, hb0, hb1, hb2, hb3, hg0, hg1, hg2, hg3, hge, hgt3, hp0, hp1, hp2, Int.toNat_zero, Int.toNat_one, Int.reduceToNat, Int.toNat_natCast, hnn, hnn2, hw1, hw2, hbc, hq1, hq2, hq3, hq4, hq6, hq7, hq8] at hc
                                            all_goals
                                              refine skip_k ?_
                                              refine hN255 _ ?_
                                              refine seq_k fun N258 M258 hN258 hM258 => ?_
                                              refine seq_k fun N259 M259 hN259 hM259 => ?_
                                              refine region_k fun K260 hK260 => ?_
                                              simp only [go_sem, decide_false, decide_true, Bool.not_true, Bool.not_false, h9, hcap0, hcap1, Nat.zero_add, hal, hall, hb0, hb1, hb2, hb3, hg0, hg1, hg2, hg3, hge, hgt3, hp0, hp1, hp2, Int.toNat_zero, Int.toNat_one, Int.reduceToNat, Int.toNat_natCast, hnn, hnn2, hw1, hw2, hbc, hq1, hq2, hq3, hq4, hq6, hq7, hq8]
                                              all_goals repeat' (first | apply And.intro | intro _)
                                              all_goals
                                                refine hK260 _ ?_
                                                refine hN259 _ ?_
                                                refine cond_k rfl (fun hc => ?_) (fun hc => ?_)
                                                · try simp only [go_sem, decide_false, decide_true, Bool.not_true, Bool.not_false, h9, hcap0, hcap1, Nat.zero_add, hal, hall, hb0, hb1, hb2, hb3, hg0, hg1, hg2, hg3, hge, hgt3, hp0, hp1, hp2, Int.toNat_zero, Int.toNat_one, Int.reduceToNat, Int.toNat_natCast, hnn, hnn2, hw1, hw2, hbc, hq1, hq2, hq3, hq4, hq6, hq7, hq8] at hc
                                                  all_goals
                                                    refine exit_k ?_
                                                    refine hM258 _ _ ?_
                                                    refine bi242 _ _ (by decide) ?_
                                                    refine hM12 _ _ ?_
                                                    refine bx11 _ ?_
                                                    refine hN10 _ ?_
                                                    refine seq_k fun N261 M261 hN261 hM261 => ?_
                                                    refine region_k fun K262 hK262 => ?_
                                                    simp only [go_sem, decide_false, decide_true, Bool.not_true, Bool.not_false, h9, hcap0, hcap1, Nat.zero_add, hal, hall, hb0, hb1, hb2, hb3, hg0, hg1, hg2, hg3, hge, hgt3, hp0, hp1, hp2, Int.toNat_zero, Int.toNat_one, Int.reduceToNat, Int.toNat_natCast, hnn, hnn2, hw1, hw2, hbc, hq1, hq2, hq3, hq4, hq6, hq7, hq8]
                                                    all_goals repeat' (first | apply And.intro | intro _)
                                                    all_goals
                                                      refine hK262 _ ?_
                                                      refine hN261 _ ?_
                                                      refine ret_k ?_
                                                      simp only [go_sem, decide_false, decide_true, Bool.not_true, Bool.not_false, h9, hcap0, hcap1, Nat.zero_add, hal, hall, hb0, hb1, hb2, hb3, hg0, hg1, hg2, hg3, hge, hgt3, hp0, hp1, hp2, Int.toNat_zero, Int.toNat_one, Int.reduceToNat, Int.toNat_natCast, hnn, hnn2, hw1, hw2, hbc, hq1, hq2, hq3, hq4, hq6, hq7, hq8]
                                                      all_goals (rw [hfp, hfe]; exact feed_end (b := true) (by simp [look]) rfl (by simp [look]) rfl (by decide))
                                                · exfalso; revert hc; simp [go_sem, decide_false, decide_true, Bool.not_true, Bool.not_false, h9, hcap0, hcap1, Nat.zero_add, hal, hall, hb0, hb1, hb2, hb3, hg0, hg1, hg2, hg3, hge, hgt3, hp0, hp1, hp2, Int.toNat_zero, Int.toNat_one, Int.reduceToNat, Int.toNat_natCast, hnn, hnn2, hw1, hw2, hbc, hq1, hq2, hq3, hq4, hq6, hq7, hq8]
                  · exfalso; revert hc; simp [go_sem, decide_false, decide_true, Bool.not_true, Bool.not_false, h9, hcap0, hcap1, Nat.zero_add, hal, hall, hb0, hb1, hb2, hb3, hg0, hg1, hg2, hg3, hge, hgt3, hp0, hp1, hp2, Int.toNat_zero, Int.toNat_one, Int.reduceToNat, Int.toNat_natCast, hnn, hnn2, hw1, hw2, hbc, hq1, hq2, hq3, hq4, hq6, hq7, hq8]
              · simp only [fV_of _ hl0, fM_of _ hl0, List.cons_append, List.nil_append]
                have hlb : 4 * l.length + bt.length ≤ all.length := hv.2.2
                have hnx := feed_next hv hs (hf_ok hk1 (by omega) hnz (by omega)) hw
                obtain ⟨b0, hb0⟩ : ∃ b, bt.getD 0 0 = b := ⟨_, rfl⟩
                obtain ⟨b1, hb1⟩ : ∃ b, bt.getD 1 0 = b := ⟨_, rfl⟩
                obtain ⟨b2, hb2⟩ : ∃ b, bt.getD 2 0 = b := ⟨_, rfl⟩
                obtain ⟨b3, hb3⟩ : ∃ b, bt.getD 3 0 = b := ⟨_, rfl⟩
                have hg0 := rowG (bs := bt) (i := 0) (by omega) hb0
                have hg1 := rowG (bs := bt) (i := 1) (by omega) hb1
                have hg2 := rowG (bs := bt) (i := 2) (by omega) hb2
                have hg3 := rowG (bs := bt) (i := 3) (by omega) hb3
                obtain ⟨n, hn⟩ : ∃ x, nOf bt = x := ⟨_, rfl⟩
                have hk0 : kOf bt = b0.toNat := by rw [kOf, hb0]
                have hn0 : 256 * b2.toNat + b3.toNat = n := by rw [← hn, nOf, hb2, hb3]
                have hnl : n < 65536 := hn ▸ nOf_lt bt
                have hl0 := b0.toNat_lt
                have hl1 := b1.toNat_lt
                have hl2 := b2.toNat_lt
                have hl3 := b3.toNat_lt
                have hid : b1.toNat ≤ 255 := by omega
                have hge : (4 : Int) ≤ ((bt.length : Nat) : Int) := by omega
                have hgt3 : (3 : Int) < ((bt.length : Nat) : Int) := by omega
                have hp0 : (0 : Int) < ((bt.length : Nat) : Int) := by omega
                have hp1 : (1 : Int) < ((bt.length : Nat) : Int) := by omega
                have hp2 : (2 : Int) < ((bt.length : Nat) : Int) := by omega
                have hlo : bt.length ≤ all.length := by have := hv.2.2; simp only at this; omega
                rw [hk0] at hk1 hk2
                rw [hn] at hnz hw hnx
                have hq1 : (b0 < 1) = False := eq_false fun h => by have := UInt8.lt_iff_toNat_lt.mp h; simp at this; omega
                have hq2 : (5 < b0) = False := eq_false fun h => by have := UInt8.lt_iff_toNat_lt.mp h; simp at this; omega
                have hq3 : ¬ (900 : Int) < ((n : Nat) : Int) := by omega
                have hq4 : ¬ ((b0.toNat : Nat) : Int) = 5 := by omega
                have hq6 : (b0 = 5) = False := eq_false fun h => by subst h; simp at hk2
                have hlt : 4 + n ≤ bt.length := by omega
                have hq7 : ¬ ((bt.length : Nat) : Int) < ((n + 4 : Nat) : Int) := by omega
                have hq8 : ¬ ((bt.length - 4 : Nat) : Int) < ((n : Nat) : Int) := by omega
                have hc6 : ((n + 4 : Nat) : Int) ≤ ((bt.length : Nat) : Int) := by omega
                have hc7 : (0 : Int) ≤ ((n + 4 : Nat) : Int) := by omega
                have hc8 : (4 : Int) ≤ ((n + 4 : Nat) : Int) := by omega
                have hd4 : n + 4 - 4 = n := by omega
                have hmi : min n (bt.length - 4) = n := by omega
                have hcap2 : n ≤ 140737488355328 := by omega
                have htk : ((bt.drop 4).take n).length = n := by rw [List.length_take, List.length_drop]; omega
                have hfr : frOf bt = ⟨b0.toNat, b1.toNat, (bt.drop 4).take n⟩ := by rw [frOf, hk0, iOf, hb1, hn]
                have hs61 := seal_bytes (k := 61) (bs := (bt.drop 4).take n) htk.symm
                obtain ⟨hnn, hnn2, hw1, hw2, hcap⟩ : ior (ishl ((b2.toNat : Nat) : Int) (UInt64.toNat 8)) ((b3.toNat : Nat) : Int) = ((n : Nat) : Int) ∧ Go.RowKit.wrap64 (Go.RowKit.wrap64 (((b2.toNat : Nat) : Int) * 256) + ((b3.toNat : Nat) : Int)) = ((n : Nat) : Int) ∧ Go.RowKit.wrap64 (4 + ((n : Nat) : Int)) = ((n + 4 : Nat) : Int) ∧ Go.RowKit.wrap64 (((bt.length : Nat) : Int) - 4) = ((bt.length - 4 : Nat) : Int) ∧ (l.length + 1) * 40 ≤ 140737488355328 := ⟨n_shl hl2 hl3 hn0, n_mul hl2 hl3 hn0, wnat (by omega) (by omega), wnat (by omega) (by omega), by omega⟩
                have hbc : bt.length ≤ 140737488355328 := by clear hnn hnn2 hw1 hw2 hcap; omega
                
                refine seq_k fun N263 M263 hN263 hM263 => ?_
                refine seq_k fun N264 M264 hN264 hM264 => ?_
                refine region_k fun K265 hK265 => ?_
                simp only [go_sem, decide_false, decide_true, Bool.not_true, Bool.not_false, h9, hcap0, hcap1, Nat.zero_add, hal, hall, hb0, hb1, hb2, hb3, hg0, hg1, hg2, hg3, hge, hgt3, hp0, hp1, hp2, Int.toNat_zero, Int.toNat_one, Int.reduceToNat, Int.toNat_natCast, hnn, hnn2, hw1, hw2, hbc, hq1, hq2, hq3, hq4, hq6, hq7, hq8, hc6, hc7, hc8, hd4, hmi, hcap2, htk, hs61, hcap, List.length_take, List.length_drop]
                all_goals repeat' (first | apply And.intro | intro _)
                all_goals
                  refine hK265 _ ?_
                  refine hN264 _ ?_
                  refine cond_k rfl (fun hc => ?_) (fun hc => ?_)
                  · try simp only [go_sem, decide_false, decide_true, Bool.not_true, Bool.not_false, h9, hcap0, hcap1, Nat.zero_add, hal, hall, hb0, hb1, hb2, hb3, hg0, hg1, hg2, hg3, hge, hgt3, hp0, hp1, hp2, Int.toNat_zero, Int.toNat_one, Int.reduceToNat, Int.toNat_natCast, hnn, hnn2, hw1, hw2, hbc, hq1, hq2, hq3, hq4, hq6, hq7, hq8, hc6, hc7, hc8, hd4, hmi, hcap2, htk, hs61, hcap, List.length_take, List.length_drop] at hc
                    all_goals
                      refine skip_k ?_
                      refine hN263 _ ?_
                      refine block_k fun B266 bn266 bx266 br266 bi266 => ?_
                      refine seq_k fun N267 M267 hN267 hM267 => ?_
                      refine draw_k [23, 24, 25, 26, 27, 28, 29, 30, 31, 9] [0, 1, 3, 7, 0, 16, 48, 112, 255, 0, 1023] [] mixed (by kernel_rfl) (by simp only [go_sem]) fun K268 hK268 => ?_
                      simp only [go_sem, decide_false, decide_true, Bool.not_true, Bool.not_false, h9, hcap0, hcap1, Nat.zero_add, hal, hall, hb0, hb1, hb2, hb3, hg0, hg1, hg2, hg3, hge, hgt3, hp0, hp1, hp2, Int.toNat_zero, Int.toNat_one, Int.reduceToNat, Int.toNat_natCast, hnn, hnn2, hw1, hw2, hbc, hq1, hq2, hq3, hq4, hq6, hq7, hq8, hc6, hc7, hc8, hd4, hmi, hcap2, htk, hs61, hcap, List.length_take, List.length_drop]
                      all_goals repeat' (first | apply And.intro | intro _)
                      all_goals
                        refine hK268 _ _ ?_ ?_
                        · first | trivial | (simp only [go_sem]; done) | (simp only [go_sem]; simp; done) | (simp only [go_sem]; simp; simp only [go_sem])
                        refine hN267 _ ?_
                        refine seq_k fun N269 M269 hN269 hM269 => ?_
                        refine draw_k [32, 33, 34, 35, 36, 37, 38, 39, 40, 41, 10] [0, 1, 3, 7, 15, 0, 32, 96, 224, 511, 1023] [] mixed (by kernel_rfl) (by simp only [go_sem]) fun K270 hK270 => ?_
                        simp only [go_sem, decide_false, decide_true, Bool.not_true, Bool.not_false, h9, hcap0, hcap1, Nat.zero_add, hal, hall, hb0, hb1, hb2, hb3, hg0, hg1, hg2, hg3, hge, hgt3, hp0, hp1, hp2, Int.toNat_zero, Int.toNat_one, Int.reduceToNat, Int.toNat_natCast, hnn, hnn2, hw1, hw2, hbc, hq1, hq2, hq3, hq4, hq6, hq7, hq8, hc6, hc7, hc8, hd4, hmi, hcap2, htk, hs61, hcap, List.length_take, List.length_drop]
                        all_goals repeat' (first | apply And.intro | intro _)
                        all_goals
                          refine hK270 _ _ ?_ ?_
                          · first | trivial | (simp only [go_sem]; done) | (simp only [go_sem]; simp; done) | (simp only [go_sem]; simp; simp only [go_sem])
                          refine hN269 _ ?_
                          refine seq_k fun N271 M271 hN271 hM271 => ?_
                          refine seq_k fun N272 M272 hN272 hM272 => ?_
                          refine region_k fun K273 hK273 => ?_
                          simp only [go_sem, decide_false, decide_true, Bool.not_true, Bool.not_false, h9, hcap0, hcap1, Nat.zero_add, hal, hall, hb0, hb1, hb2, hb3, hg0, hg1, hg2, hg3, hge, hgt3, hp0, hp1, hp2, Int.toNat_zero, Int.toNat_one, Int.reduceToNat, Int.toNat_natCast, hnn, hnn2, hw1, hw2, hbc, hq1, hq2, hq3, hq4, hq6, hq7, hq8, hc6, hc7, hc8, hd4, hmi, hcap2, htk, hs61, hcap, List.length_take, List.length_drop]
                          all_goals repeat' (first | apply And.intro | intro _)
                          all_goals refine call_view (fun k => k) (fun _ _ => rfl) (by first | rfl | (simp only [go_sem, decide_false, decide_true, Bool.not_true, Bool.not_false, h9, hcap0, hcap1, Nat.zero_add, hal, hall, hb0, hb1, hb2, hb3, hg0, hg1, hg2, hg3, hge, hgt3, hp0, hp1, hp2, Int.toNat_zero, Int.toNat_one, Int.reduceToNat, Int.toNat_natCast, hnn, hnn2, hw1, hw2, hbc, hq1, hq2, hq3, hq4, hq6, hq7, hq8, hc6, hc7, hc8, hd4, hmi, hcap2, htk, hs61, hcap, List.length_take, List.length_drop]; rfl) | simp only [go_sem, decide_false, decide_true, Bool.not_true, Bool.not_false, h9, hcap0, hcap1, Nat.zero_add, hal, hall, hb0, hb1, hb2, hb3, hg0, hg1, hg2, hg3, hge, hgt3, hp0, hp1, hp2, Int.toNat_zero, Int.toNat_one, Int.reduceToNat, Int.toNat_natCast, hnn, hnn2, hw1, hw2, hbc, hq1, hq2, hq3, hq4, hq6, hq7, hq8, hc6, hc7, hc8, hd4, hmi, hcap2, htk, hs61, hcap, List.length_take, List.length_drop]) (by first | exact ((fc_low _ _ hid _ _ hk).plain fun _ _ h => h) | exact ((fc_big _ _ hid _ _ hk).plain fun _ _ h => h) | exact ((fc_mid _ _ hid _ _ hk1 (by omega)).plain fun _ _ h => h)) ?_
                          all_goals (rintro v m ⟨hR, hm⟩; subst hR; subst hm)
                          all_goals refine And.intro (by first | rfl | simp only [go_sem, decide_false, decide_true, Bool.not_true, Bool.not_false, h9, hcap0, hcap1, Nat.zero_add, hal, hall, hb0, hb1, hb2, hb3, hg0, hg1, hg2, hg3, hge, hgt3, hp0, hp1, hp2, Int.toNat_zero, Int.toNat_one, Int.reduceToNat, Int.toNat_natCast, hnn, hnn2, hw1, hw2, hbc, hq1, hq2, hq3, hq4, hq6, hq7, hq8, hc6, hc7, hc8, hd4, hmi, hcap2, htk, hs61, hcap, List.length_take, List.length_drop]) (And.intro (by first | rfl | simp only [go_sem, decide_false, decide_true, Bool.not_true, Bool.not_false, h9, hcap0, hcap1, Nat.zero_add, hal, hall, hb0, hb1, hb2, hb3, hg0, hg1, hg2, hg3, hge, hgt3, hp0, hp1, hp2, Int.toNat_zero, Int.toNat_one, Int.reduceToNat, Int.toNat_natCast, hnn, hnn2, hw1, hw2, hbc, hq1, hq2, hq3, hq4, hq6, hq7, hq8, hc6, hc7, hc8, hd4, hmi, hcap2, htk, hs61, hcap, List.length_take, List.length_drop]) ?_)
                          all_goals simp only [go_sem, decide_false, decide_true, Bool.not_true, Bool.not_false, h9, hcap0, hcap1, Nat.zero_add, hal, hall, hb0, hb1, hb2, hb3, hg0, hg1, hg2, hg3, hge, hgt3, hp0, hp1, hp2, Int.toNat_zero, Int.toNat_one, Int.reduceToNat, Int.toNat_natCast, hnn, hnn2, hw1, hw2, hbc, hq1, hq2, hq3, hq4, hq6, hq7, hq8, hc6, hc7, hc8, hd4, hmi, hcap2, htk, hs61, hcap, List.length_take, List.length_drop]
                          all_goals repeat' (first | apply And.intro | intro _)
                          all_goals
                            refine hK273 _ ?_
                            refine hN272 _ ?_
                            refine seq_k fun N274 M274 hN274 hM274 => ?_
                            refine region_k fun K275 hK275 => ?_
                            simp only [go_sem, decide_false, decide_true, Bool.not_true, Bool.not_false, h9, hcap0, hcap1, Nat.zero_add, hal, hall, hb0, hb1, hb2, hb3, hg0, hg1, hg2, hg3, hge, hgt3, hp0, hp1, hp2, Int.toNat_zero, Int.toNat_one, Int.reduceToNat, Int.toNat_natCast, hnn, hnn2, hw1, hw2, hbc, hq1, hq2, hq3, hq4, hq6, hq7, hq8, hc6, hc7, hc8, hd4, hmi, hcap2, htk, hs61, hcap, List.length_take, List.length_drop]
                            all_goals repeat' (first | apply And.intro | intro _)
                            all_goals
                              refine hK275 _ ?_
                              refine hN274 _ ?_
                              refine cond_k rfl (fun hc => ?_) (fun hc => ?_)
                              · exfalso; revert hc; simp [go_sem, decide_false, decide_true, Bool.not_true, Bool.not_false, h9, hcap0, hcap1, Nat.zero_add, hal, hall, hb0, hb1, hb2, hb3, hg0, hg1, hg2, hg3, hge, hgt3, hp0, hp1, hp2, Int.toNat_zero, Int.toNat_one, Int.reduceToNat, Int.toNat_natCast, hnn, hnn2, hw1, hw2, hbc, hq1, hq2, hq3, hq4, hq6, hq7, hq8, hc6, hc7, hc8, hd4, hmi, hcap2, htk, hs61, hcap, List.length_take, List.length_drop]
                              · try simp only [go_sem, decide_false, decide_true, Bool.not_true, Bool.not_false, h9, hcap0, hcap1, Nat.zero_add, hal, hall, hb0, hb1, hb2, hb3, hg0, hg1, hg2, hg3, hge, hgt3, hp0, hp1, hp2, Int.toNat_zero, Int.toNat_one, Int.reduceToNat, Int.toNat_natCast, hnn, hnn2, hw1, hw2, hbc, hq1, hq2, hq3, hq4, hq6, hq7, hq8, hc6, hc7, hc8, hd4, hmi, hcap2, htk, hs61, hcap, List.length_take, List.length_drop] at hc
                                all_goals
                                  refine skip_k ?_
                                  refine hN271 _ ?_
                                  refine seq_k fun N276 M276 hN276 hM276 => ?_
                                  refine seq_k fun N277 M277 hN277 hM277 => ?_
                                  refine region_k fun K278 hK278 => ?_
                                  simp only [go_sem, decide_false, decide_true, Bool.not_true, Bool.not_false, h9, hcap0, hcap1, Nat.zero_add, hal, hall, hb0, hb1, hb2, hb3, hg0, hg1, hg2, hg3, hge, hgt3, hp0, hp1, hp2, Int.toNat_zero, Int.toNat_one, Int.reduceToNat, Int.toNat_natCast, hnn, hnn2, hw1, hw2, hbc, hq1, hq2, hq3, hq4, hq6, hq7, hq8, hc6, hc7, hc8, hd4, hmi, hcap2, htk, hs61, hcap, List.length_take, List.length_drop]
                                  all_goals repeat' (first | apply And.intro | intro _)
                                  all_goals
                                    refine hK278 _ ?_
                                    refine hN277 _ ?_
                                    refine cond_k rfl (fun hc => ?_) (fun hc => ?_)
                                    · exfalso; revert hc; simp [go_sem, decide_false, decide_true, Bool.not_true, Bool.not_false, h9, hcap0, hcap1, Nat.zero_add, hal, hall, hb0, hb1, hb2, hb3, hg0, hg1, hg2, hg3, hge, hgt3, hp0, hp1, hp2, Int.toNat_zero, Int.toNat_one, Int.reduceToNat, Int.toNat_natCast, hnn, hnn2, hw1, hw2, hbc, hq1, hq2, hq3, hq4, hq6, hq7, hq8, hc6, hc7, hc8, hd4, hmi, hcap2, htk, hs61, hcap, List.length_take, List.length_drop]
                                    · try simp only [go_sem, decide_false, decide_true, Bool.not_true, Bool.not_false, h9, hcap0, hcap1, Nat.zero_add, hal, hall, hb0, hb1, hb2, hb3, hg0, hg1, hg2, hg3, hge, hgt3, hp0, hp1, hp2, Int.toNat_zero, Int.toNat_one, Int.reduceToNat, Int.toNat_natCast, hnn, hnn2, hw1, hw2, hbc, hq1, hq2, hq3, hq4, hq6, hq7, hq8, hc6, hc7, hc8, hd4, hmi, hcap2, htk, hs61, hcap, List.length_take, List.length_drop] at hc
                                      all_goals
                                        refine skip_k ?_
                                        refine hN276 _ ?_
                                        refine seq_k fun N279 M279 hN279 hM279 => ?_
                                        refine seq_k fun N280 M280 hN280 hM280 => ?_
                                        refine region_k fun K281 hK281 => ?_
                                        simp only [go_sem, decide_false, decide_true, Bool.not_true, Bool.not_false, h9, hcap0, hcap1, Nat.zero_add, hal, hall, hb0, hb1, hb2, hb3, hg0, hg1, hg2, hg3, hge, hgt3, hp0, hp1, hp2, Int.toNat_zero, Int.toNat_one, Int.reduceToNat, Int.toNat_natCast, hnn, hnn2, hw1, hw2, hbc, hq1, hq2, hq3, hq4, hq6, hq7, hq8, hc6, hc7, hc8, hd4, hmi, hcap2, htk, hs61, hcap, List.length_take, List.length_drop]
                                        all_goals repeat' (first | apply And.intro | intro _)
                                        all_goals
                                          refine hK281 _ ?_
                                          refine hN280 _ ?_
                                          refine cond_k rfl (fun hc => ?_) (fun hc => ?_)
                                          · exfalso; revert hc; simp [go_sem, decide_false, decide_true, Bool.not_true, Bool.not_false, h9, hcap0, hcap1, Nat.zero_add, hal, hall, hb0, hb1, hb2, hb3, hg0, hg1, hg2, hg3, hge, hgt3, hp0, hp1, hp2, Int.toNat_zero, Int.toNat_one, Int.reduceToNat, Int.toNat_natCast, hnn, hnn2, hw1, hw2, hbc, hq1, hq2, hq3, hq4, hq6, hq7, hq8, hc6, hc7, hc8, hd4, hmi, hcap2, htk, hs61, hcap, List.length_take, List.length_drop]
                                          · try simp only [go_sem, decide_false, decide_true, Bool.not_true, Bool.not_false, h9, hcap0, hcap1, Nat.zero_add, hal, hall, hb0, hb1, hb2, hb3, hg0, hg1, hg2, hg3, hge, hgt3, hp0, hp1, hp2, Int.toNat_zero, Int.toNat_one, Int.reduceToNat, Int.toNat_natCast, hnn, hnn2, hw1, hw2, hbc, hq1, hq2, hq3, hq4, hq6, hq7, hq8, hc6, hc7, hc8, hd4, hmi, hcap2, htk, hs61, hcap, List.length_take, List.length_drop] at hc
                                            all_goals
                                              refine skip_k ?_
                                              refine hN279 _ ?_
                                              refine seq_k fun N282 M282 hN282 hM282 => ?_
                                              refine seq_k fun N283 M283 hN283 hM283 => ?_
                                              refine region_k fun K284 hK284 => ?_
                                              simp only [go_sem, decide_false, decide_true, Bool.not_true, Bool.not_false, h9, hcap0, hcap1, Nat.zero_add, hal, hall, hb0, hb1, hb2, hb3, hg0, hg1, hg2, hg3, hge, hgt3, hp0, hp1, hp2, Int.toNat_zero, Int.toNat_one, Int.reduceToNat, Int.toNat_natCast, hnn, hnn2, hw1, hw2, hbc, hq1, hq2, hq3, hq4, hq6, hq7, hq8, hc6, hc7, hc8, hd4, hmi, hcap2, htk, hs61, hcap, List.length_take, List.length_drop]
                                              all_goals repeat' (first | apply And.intro | intro _)
                                              all_goals
                                                refine hK284 _ ?_
                                                refine hN283 _ ?_
                                                refine cond_k rfl (fun hc => ?_) (fun hc => ?_)
                                                · exfalso; revert hc; simp [go_sem, decide_false, decide_true, Bool.not_true, Bool.not_false, h9, hcap0, hcap1, Nat.zero_add, hal, hall, hb0, hb1, hb2, hb3, hg0, hg1, hg2, hg3, hge, hgt3, hp0, hp1, hp2, Int.toNat_zero, Int.toNat_one, Int.reduceToNat, Int.toNat_natCast, hnn, hnn2, hw1, hw2, hbc, hq1, hq2, hq3, hq4, hq6, hq7, hq8, hc6, hc7, hc8, hd4, hmi, hcap2, htk, hs61, hcap, List.length_take, List.length_drop]
                                                · try simp only [go_sem, decide_false, decide_true, Bool.not_true, Bool.not_false, h9, hcap0, hcap1, Nat.zero_add, hal, hall, hb0, hb1, hb2, hb3, hg0, hg1, hg2, hg3, hge, hgt3, hp0, hp1, hp2, Int.toNat_zero, Int.toNat_one, Int.reduceToNat, Int.toNat_natCast, hnn, hnn2, hw1, hw2, hbc, hq1, hq2, hq3, hq4, hq6, hq7, hq8, hc6, hc7, hc8, hd4, hmi, hcap2, htk, hs61, hcap, List.length_take, List.length_drop] at hc
                                                  all_goals
                                                    refine skip_k ?_
                                                    refine hN282 _ ?_
                                                    refine seq_k fun N285 M285 hN285 hM285 => ?_
                                                    refine region_k fun K286 hK286 => ?_
                                                    simp only [go_sem, decide_false, decide_true, Bool.not_true, Bool.not_false, h9, hcap0, hcap1, Nat.zero_add, hal, hall, hb0, hb1, hb2, hb3, hg0, hg1, hg2, hg3, hge, hgt3, hp0, hp1, hp2, Int.toNat_zero, Int.toNat_one, Int.reduceToNat, Int.toNat_natCast, hnn, hnn2, hw1, hw2, hbc, hq1, hq2, hq3, hq4, hq6, hq7, hq8, hc6, hc7, hc8, hd4, hmi, hcap2, htk, hs61, hcap, List.length_take, List.length_drop]
                                                    all_goals repeat' (first | apply And.intro | intro _)
                                                    all_goals
                                                      refine hK286 _ ?_
                                                      refine hN285 _ ?_
                                                      refine seq_k fun N287 M287 hN287 hM287 => ?_
                                                      refine ht_seal 61 (((bt.drop 4).take n).map .u8) (b := true) (by simp only [pls_bytes, look]; simp) (by decide) ?_
                                                      simp only [St.laid, sealE, sealM, sealV, sealW, List.map_cons, List.map_nil, sealL_pl, sealL_fn0, hs61, sealL_sne (j := 75) (k := 61) (by decide), sealL_pne (j := 9) (k := 61) (by decide), frsC_seal, map_sealB, Nat.reduceLT, Nat.reduceEqDiff, if_true, if_false, reduceIte]
                                                      refine region_k fun K288 hK288 => ?_
                                                      simp only [go_sem, decide_false, decide_true, Bool.not_true, Bool.not_false, h9, hcap0, hcap1, Nat.zero_add, hal, hall, hb0, hb1, hb2, hb3, hg0, hg1, hg2, hg3, hge, hgt3, hp0, hp1, hp2, Int.toNat_zero, Int.toNat_one, Int.reduceToNat, Int.toNat_natCast, hnn, hnn2, hw1, hw2, hbc, hq1, hq2, hq3, hq4, hq6, hq7, hq8, hc6, hc7, hc8, hd4, hmi, hcap2, htk, hs61, hcap, List.length_take, List.length_drop]
                                                      all_goals repeat' (first | apply And.intro | intro _)
                                                      all_goals
                                                        refine hK288 _ ?_
                                                        refine hN287 _ ?_
                                                        refine region_k fun K289 hK289 => ?_
                                                        simp only [go_sem, decide_false, decide_true, Bool.not_true, Bool.not_false, h9, hcap0, hcap1, Nat.zero_add, hal, hall, hb0, hb1, hb2, hb3, hg0, hg1, hg2, hg3, hge, hgt3, hp0, hp1, hp2, Int.toNat_zero, Int.toNat_one, Int.reduceToNat, Int.toNat_natCast, hnn, hnn2, hw1, hw2, hbc, hq1, hq2, hq3, hq4, hq6, hq7, hq8, hc6, hc7, hc8, hd4, hmi, hcap2, htk, hs61, hcap, List.length_take, List.length_drop]
                                                        all_goals repeat' (first | apply And.intro | intro _)
                                                        all_goals
                                                          refine hK289 _ ?_
                                                          refine bn266 _ ?_
                                                          refine hN12 ⟨(c - 1, l ++ [frOf bt], bt.drop (4 + n)), hnx⟩ _ ?_ ?_ ?_
                                                          · (have hcl0 := hv.2.1; simp only at hcl0; show c - 1 < c; clear hnn hnn2 hw1 hw2 hcap; omega)
                                                          · (simp only [go_sem, fV_snoc, fV_one, Nat.add_comm 4 n, leX, List.cons_append, List.nil_append]; try simp [fV_snoc, fV_one])
                                                          · (simp only [fM_snoc, frsC_snoc, hfr, go_sem, leX, List.cons_append, List.nil_append]; try simp [fM_one, frsC_one, leX, look, pls, sealL_pl])
                  · exfalso; revert hc; simp [go_sem, decide_false, decide_true, Bool.not_true, Bool.not_false, h9, hcap0, hcap1, Nat.zero_add, hal, hall, hb0, hb1, hb2, hb3, hg0, hg1, hg2, hg3, hge, hgt3, hp0, hp1, hp2, Int.toNat_zero, Int.toNat_one, Int.reduceToNat, Int.toNat_natCast, hnn, hnn2, hw1, hw2, hbc, hq1, hq2, hq3, hq4, hq6, hq7, hq8, hc6, hc7, hc8, hd4, hmi, hcap2, htk, hs61, hcap, List.length_take, List.length_drop]
              · simp only [fV_of _ hl0, fM_of _ hl0, List.cons_append, List.nil_append]
                have hlb : 4 * l.length + bt.length ≤ all.length := hv.2.2
                have hnx := feed_next hv hs (hf_ok (by omega) (by omega) (by omega) (fun _ => hnz)) (by omega)
                obtain ⟨b0, hb0⟩ : ∃ b, bt.getD 0 0 = b := ⟨_, rfl⟩
                obtain ⟨b1, hb1⟩ : ∃ b, bt.getD 1 0 = b := ⟨_, rfl⟩
                obtain ⟨b2, hb2⟩ : ∃ b, bt.getD 2 0 = b := ⟨_, rfl⟩
                obtain ⟨b3, hb3⟩ : ∃ b, bt.getD 3 0 = b := ⟨_, rfl⟩
                have hg0 := rowG (bs := bt) (i := 0) (by omega) hb0
                have hg1 := rowG (bs := bt) (i := 1) (by omega) hb1
                have hg2 := rowG (bs := bt) (i := 2) (by omega) hb2
                have hg3 := rowG (bs := bt) (i := 3) (by omega) hb3
                obtain ⟨n, hn⟩ : ∃ x, nOf bt = x := ⟨_, rfl⟩
                have hk0 : kOf bt = b0.toNat := by rw [kOf, hb0]
                have hn0 : 256 * b2.toNat + b3.toNat = n := by rw [← hn, nOf, hb2, hb3]
                have hnl : n < 65536 := hn ▸ nOf_lt bt
                have hl0 := b0.toNat_lt
                have hl1 := b1.toNat_lt
                have hl2 := b2.toNat_lt
                have hl3 := b3.toNat_lt
                have hid : b1.toNat ≤ 255 := by omega
                have hge : (4 : Int) ≤ ((bt.length : Nat) : Int) := by omega
                have hgt3 : (3 : Int) < ((bt.length : Nat) : Int) := by omega
                have hp0 : (0 : Int) < ((bt.length : Nat) : Int) := by omega
                have hp1 : (1 : Int) < ((bt.length : Nat) : Int) := by omega
                have hp2 : (2 : Int) < ((bt.length : Nat) : Int) := by omega
                have hlo : bt.length ≤ all.length := by have := hv.2.2; simp only at this; omega
                rw [hk0] at hk
                rw [hn] at hnz hnx
                have hk1 : 1 ≤ b0.toNat := by omega
                have hk2 : b0.toNat ≤ 5 := by omega
                have hq1 : (b0 < 1) = False := eq_false fun h => by have := UInt8.lt_iff_toNat_lt.mp h; simp at this; omega
                have hq2 : (5 < b0) = False := eq_false fun h => by have := UInt8.lt_iff_toNat_lt.mp h; simp at this; omega
                have hq3 : ¬ (900 : Int) < ((n : Nat) : Int) := by omega
                have hq4 : (((b0.toNat : Nat) : Int) = 5) = True := eq_true (by omega)
                have hq5 : ¬ (0 : Int) < ((n : Nat) : Int) := by omega
                have hq6 : (b0 = 5) = True := eq_true (UInt8.toNat_inj.mp hk)
                have hlt : 4 + n ≤ bt.length := by omega
                have hq7 : ¬ ((bt.length : Nat) : Int) < ((n + 4 : Nat) : Int) := by omega
                have hq8 : ¬ ((bt.length - 4 : Nat) : Int) < ((n : Nat) : Int) := by omega
                have hc6 : ((n + 4 : Nat) : Int) ≤ ((bt.length : Nat) : Int) := by omega
                have hc7 : (0 : Int) ≤ ((n + 4 : Nat) : Int) := by omega
                have hc8 : (4 : Int) ≤ ((n + 4 : Nat) : Int) := by omega
                have hd4 : n + 4 - 4 = n := by omega
                have hmi : min n (bt.length - 4) = n := by omega
                have hcap2 : n ≤ 140737488355328 := by omega
                have htk : ((bt.drop 4).take n).length = n := by rw [List.length_take, List.length_drop]; omega
                have hfr : frOf bt = ⟨b0.toNat, b1.toNat, (bt.drop 4).take n⟩ := by rw [frOf, hk0, iOf, hb1, hn]
                have hs61 := seal_bytes (k := 61) (bs := (bt.drop 4).take n) htk.symm
                obtain ⟨hnn, hnn2, hw1, hw2, hcap⟩ : ior (ishl ((b2.toNat : Nat) : Int) (UInt64.toNat 8)) ((b3.toNat : Nat) : Int) = ((n : Nat) : Int) ∧ Go.RowKit.wrap64 (Go.RowKit.wrap64 (((b2.toNat : Nat) : Int) * 256) + ((b3.toNat : Nat) : Int)) = ((n : Nat) : Int) ∧ Go.RowKit.wrap64 (4 + ((n : Nat) : Int)) = ((n + 4 : Nat) : Int) ∧ Go.RowKit.wrap64 (((bt.length : Nat) : Int) - 4) = ((bt.length - 4 : Nat) : Int) ∧ (l.length + 1) * 40 ≤ 140737488355328 := ⟨n_shl hl2 hl3 hn0, n_mul hl2 hl3 hn0, wnat (by omega) (by omega), wnat (by omega) (by omega), by omega⟩
                have hbc : bt.length ≤ 140737488355328 := by clear hnn hnn2 hw1 hw2 hcap; omega
                
                refine seq_k fun N290 M290 hN290 hM290 => ?_
                refine seq_k fun N291 M291 hN291 hM291 => ?_
                refine region_k fun K292 hK292 => ?_
                simp only [go_sem, decide_false, decide_true, Bool.not_true, Bool.not_false, h9, hcap0, hcap1, Nat.zero_add, hal, hall, hb0, hb1, hb2, hb3, hg0, hg1, hg2, hg3, hge, hgt3, hp0, hp1, hp2, Int.toNat_zero, Int.toNat_one, Int.reduceToNat, Int.toNat_natCast, hnn, hnn2, hw1, hw2, hbc, hq1, hq2, hq3, hq4, hq6, hq7, hq8, hc6, hc7, hc8, hd4, hmi, hcap2, htk, hs61, hcap, List.length_take, List.length_drop, hq5]
                all_goals repeat' (first | apply And.intro | intro _)
                all_goals
                  refine hK292 _ ?_
                  refine hN291 _ ?_
                  refine cond_k rfl (fun hc => ?_) (fun hc => ?_)
                  · try simp only [go_sem, decide_false, decide_true, Bool.not_true, Bool.not_false, h9, hcap0, hcap1, Nat.zero_add, hal, hall, hb0, hb1, hb2, hb3, hg0, hg1, hg2, hg3, hge, hgt3, hp0, hp1, hp2, Int.toNat_zero, Int.toNat_one, Int.reduceToNat, Int.toNat_natCast, hnn, hnn2, hw1, hw2, hbc, hq1, hq2, hq3, hq4, hq6, hq7, hq8, hc6, hc7, hc8, hd4, hmi, hcap2, htk, hs61, hcap, List.length_take, List.length_drop, hq5] at hc
                    all_goals
                      refine skip_k ?_
                      refine hN290 _ ?_
                      refine block_k fun B293 bn293 bx293 br293 bi293 => ?_
                      refine seq_k fun N294 M294 hN294 hM294 => ?_
                      refine draw_k [23, 24, 25, 26, 27, 28, 29, 30, 31, 9] [0, 1, 3, 7, 0, 16, 48, 112, 255, 0, 1023] [] mixed (by kernel_rfl) (by simp only [go_sem]) fun K295 hK295 => ?_
                      simp only [go_sem, decide_false, decide_true, Bool.not_true, Bool.not_false, h9, hcap0, hcap1, Nat.zero_add, hal, hall, hb0, hb1, hb2, hb3, hg0, hg1, hg2, hg3, hge, hgt3, hp0, hp1, hp2, Int.toNat_zero, Int.toNat_one, Int.reduceToNat, Int.toNat_natCast, hnn, hnn2, hw1, hw2, hbc, hq1, hq2, hq3, hq4, hq6, hq7, hq8, hc6, hc7, hc8, hd4, hmi, hcap2, htk, hs61, hcap, List.length_take, List.length_drop, hq5]
                      all_goals repeat' (first | apply And.intro | intro _)
                      all_goals
                        refine hK295 _ _ ?_ ?_
                        · first | trivial | (simp only [go_sem]; done) | (simp only [go_sem]; simp; done) | (simp only [go_sem]; simp; simp only [go_sem])
                        refine hN294 _ ?_
                        refine seq_k fun N296 M296 hN296 hM296 => ?_
                        refine draw_k [32, 33, 34, 35, 36, 37, 38, 39, 40, 41, 10] [0, 1, 3, 7, 15, 0, 32, 96, 224, 511, 1023] [] mixed (by kernel_rfl) (by simp only [go_sem]) fun K297 hK297 => ?_
                        simp only [go_sem, decide_false, decide_true, Bool.not_true, Bool.not_false, h9, hcap0, hcap1, Nat.zero_add, hal, hall, hb0, hb1, hb2, hb3, hg0, hg1, hg2, hg3, hge, hgt3, hp0, hp1, hp2, Int.toNat_zero, Int.toNat_one, Int.reduceToNat, Int.toNat_natCast, hnn, hnn2, hw1, hw2, hbc, hq1, hq2, hq3, hq4, hq6, hq7, hq8, hc6, hc7, hc8, hd4, hmi, hcap2, htk, hs61, hcap, List.length_take, List.length_drop, hq5]
                        all_goals repeat' (first | apply And.intro | intro _)
                        all_goals
                          refine hK297 _ _ ?_ ?_
                          · first | trivial | (simp only [go_sem]; done) | (simp only [go_sem]; simp; done) | (simp only [go_sem]; simp; simp only [go_sem])
                          refine hN296 _ ?_
                          refine seq_k fun N298 M298 hN298 hM298 => ?_
                          refine seq_k fun N299 M299 hN299 hM299 => ?_
                          refine region_k fun K300 hK300 => ?_
                          simp only [go_sem, decide_false, decide_true, Bool.not_true, Bool.not_false, h9, hcap0, hcap1, Nat.zero_add, hal, hall, hb0, hb1, hb2, hb3, hg0, hg1, hg2, hg3, hge, hgt3, hp0, hp1, hp2, Int.toNat_zero, Int.toNat_one, Int.reduceToNat, Int.toNat_natCast, hnn, hnn2, hw1, hw2, hbc, hq1, hq2, hq3, hq4, hq6, hq7, hq8, hc6, hc7, hc8, hd4, hmi, hcap2, htk, hs61, hcap, List.length_take, List.length_drop, hq5]
                          all_goals repeat' (first | apply And.intro | intro _)
                          all_goals refine call_view (fun k => k) (fun _ _ => rfl) (by first | rfl | (simp only [go_sem, decide_false, decide_true, Bool.not_true, Bool.not_false, h9, hcap0, hcap1, Nat.zero_add, hal, hall, hb0, hb1, hb2, hb3, hg0, hg1, hg2, hg3, hge, hgt3, hp0, hp1, hp2, Int.toNat_zero, Int.toNat_one, Int.reduceToNat, Int.toNat_natCast, hnn, hnn2, hw1, hw2, hbc, hq1, hq2, hq3, hq4, hq6, hq7, hq8, hc6, hc7, hc8, hd4, hmi, hcap2, htk, hs61, hcap, List.length_take, List.length_drop, hq5]; rfl) | simp only [go_sem, decide_false, decide_true, Bool.not_true, Bool.not_false, h9, hcap0, hcap1, Nat.zero_add, hal, hall, hb0, hb1, hb2, hb3, hg0, hg1, hg2, hg3, hge, hgt3, hp0, hp1, hp2, Int.toNat_zero, Int.toNat_one, Int.reduceToNat, Int.toNat_natCast, hnn, hnn2, hw1, hw2, hbc, hq1, hq2, hq3, hq4, hq6, hq7, hq8, hc6, hc7, hc8, hd4, hmi, hcap2, htk, hs61, hcap, List.length_take, List.length_drop, hq5]) (by first | exact ((fc_low _ _ hid _ _ hk).plain fun _ _ h => h) | exact ((fc_big _ _ hid _ _ hk).plain fun _ _ h => h) | exact ((fc_mid _ _ hid _ _ hk1 (by omega)).plain fun _ _ h => h)) ?_
                          all_goals (rintro v m ⟨hR, hm⟩; subst hR; subst hm)
                          all_goals refine And.intro (by first | rfl | simp only [go_sem, decide_false, decide_true, Bool.not_true, Bool.not_false, h9, hcap0, hcap1, Nat.zero_add, hal, hall, hb0, hb1, hb2, hb3, hg0, hg1, hg2, hg3, hge, hgt3, hp0, hp1, hp2, Int.toNat_zero, Int.toNat_one, Int.reduceToNat, Int.toNat_natCast, hnn, hnn2, hw1, hw2, hbc, hq1, hq2, hq3, hq4, hq6, hq7, hq8, hc6, hc7, hc8, hd4, hmi, hcap2, htk, hs61, hcap, List.length_take, List.length_drop, hq5]) (And.intro (by first | rfl | simp only [go_sem, decide_false, decide_true, Bool.not_true, Bool.not_false, h9, hcap0, hcap1, Nat.zero_add, hal, hall, hb0, hb1, hb2, hb3, hg0, hg1, hg2, hg3, hge, hgt3, hp0, hp1, hp2, Int.toNat_zero, Int.toNat_one, Int.reduceToNat, Int.toNat_natCast, hnn, hnn2, hw1, hw2, hbc, hq1, hq2, hq3, hq4, hq6, hq7, hq8, hc6, hc7, hc8, hd4, hmi, hcap2, htk, hs61, hcap, List.length_take, List.length_drop, hq5]) ?_)
                          all_goals simp only [go_sem, decide_false, decide_true, Bool.not_true, Bool.not_false, h9, hcap0, hcap1, Nat.zero_add, hal, hall, hb0, hb1, hb2, hb3, hg0, hg1, hg2, hg3, hge, hgt3, hp0, hp1, hp2, Int.toNat_zero, Int.toNat_one, Int.reduceToNat, Int.toNat_natCast, hnn, hnn2, hw1, hw2, hbc, hq1, hq2, hq3, hq4, hq6, hq7, hq8, hc6, hc7, hc8, hd4, hmi, hcap2, htk, hs61, hcap, List.length_take, List.length_drop, hq5]
                          all_goals repeat' (first | apply And.intro | intro _)
                          all_goals
                            refine hK300 _ ?_
                            refine hN299 _ ?_
                            refine seq_k fun N301 M301 hN301 hM301 => ?_
                            refine region_k fun K302 hK302 => ?_
                            simp only [go_sem, decide_false, decide_true, Bool.not_true, Bool.not_false, h9, hcap0, hcap1, Nat.zero_add, hal, hall, hb0, hb1, hb2, hb3, hg0, hg1, hg2, hg3, hge, hgt3, hp0, hp1, hp2, Int.toNat_zero, Int.toNat_one, Int.reduceToNat, Int.toNat_natCast, hnn, hnn2, hw1, hw2, hbc, hq1, hq2, hq3, hq4, hq6, hq7, hq8, hc6, hc7, hc8, hd4, hmi, hcap2, htk, hs61, hcap, List.length_take, List.length_drop, hq5]
                            all_goals repeat' (first | apply And.intro | intro _)
                            all_goals
                              refine hK302 _ ?_
                              refine hN301 _ ?_
                              refine cond_k rfl (fun hc => ?_) (fun hc => ?_)
                              · exfalso; revert hc; simp [go_sem, decide_false, decide_true, Bool.not_true, Bool.not_false, h9, hcap0, hcap1, Nat.zero_add, hal, hall, hb0, hb1, hb2, hb3, hg0, hg1, hg2, hg3, hge, hgt3, hp0, hp1, hp2, Int.toNat_zero, Int.toNat_one, Int.reduceToNat, Int.toNat_natCast, hnn, hnn2, hw1, hw2, hbc, hq1, hq2, hq3, hq4, hq6, hq7, hq8, hc6, hc7, hc8, hd4, hmi, hcap2, htk, hs61, hcap, List.length_take, List.length_drop, hq5]
                              · try simp only [go_sem, decide_false, decide_true, Bool.not_true, Bool.not_false, h9, hcap0, hcap1, Nat.zero_add, hal, hall, hb0, hb1, hb2, hb3, hg0, hg1, hg2, hg3, hge, hgt3, hp0, hp1, hp2, Int.toNat_zero, Int.toNat_one, Int.reduceToNat, Int.toNat_natCast, hnn, hnn2, hw1, hw2, hbc, hq1, hq2, hq3, hq4, hq6, hq7, hq8, hc6, hc7, hc8, hd4, hmi, hcap2, htk, hs61, hcap, List.length_take, List.length_drop, hq5] at hc
                                all_goals
                                  refine skip_k ?_
                                  refine hN298 _ ?_
                                  refine seq_k fun N303 M303 hN303 hM303 => ?_
                                  refine seq_k fun N304 M304 hN304 hM304 => ?_
                                  refine region_k fun K305 hK305 => ?_
                                  simp only [go_sem, decide_false, decide_true, Bool.not_true, Bool.not_false, h9, hcap0, hcap1, Nat.zero_add, hal, hall, hb0, hb1, hb2, hb3, hg0, hg1, hg2, hg3, hge, hgt3, hp0, hp1, hp2, Int.toNat_zero, Int.toNat_one, Int.reduceToNat, Int.toNat_natCast, hnn, hnn2, hw1, hw2, hbc, hq1, hq2, hq3, hq4, hq6, hq7, hq8, hc6, hc7, hc8, hd4, hmi, hcap2, htk, hs61, hcap, List.length_take, List.length_drop, hq5]
                                  all_goals repeat' (first | apply And.intro | intro _)
                                  all_goals
                                    refine hK305 _ ?_
                                    refine hN304 _ ?_
                                    refine cond_k rfl (fun hc => ?_) (fun hc => ?_)
                                    · exfalso; revert hc; simp [go_sem, decide_false, decide_true, Bool.not_true, Bool.not_false, h9, hcap0, hcap1, Nat.zero_add, hal, hall, hb0, hb1, hb2, hb3, hg0, hg1, hg2, hg3, hge, hgt3, hp0, hp1, hp2, Int.toNat_zero, Int.toNat_one, Int.reduceToNat, Int.toNat_natCast, hnn, hnn2, hw1, hw2, hbc, hq1, hq2, hq3, hq4, hq6, hq7, hq8, hc6, hc7, hc8, hd4, hmi, hcap2, htk, hs61, hcap, List.length_take, List.length_drop, hq5]
                                    · try simp only [go_sem, decide_false, decide_true, Bool.not_true, Bool.not_false, h9, hcap0, hcap1, Nat.zero_add, hal, hall, hb0, hb1, hb2, hb3, hg0, hg1, hg2, hg3, hge, hgt3, hp0, hp1, hp2, Int.toNat_zero, Int.toNat_one, Int.reduceToNat, Int.toNat_natCast, hnn, hnn2, hw1, hw2, hbc, hq1, hq2, hq3, hq4, hq6, hq7, hq8, hc6, hc7, hc8, hd4, hmi, hcap2, htk, hs61, hcap, List.length_take, List.length_drop, hq5] at hc
                                      all_goals
                                        refine skip_k ?_
                                        refine hN303 _ ?_
                                        refine seq_k fun N306 M306 hN306 hM306 => ?_
                                        refine seq_k fun N307 M307 hN307 hM307 => ?_
                                        refine region_k fun K308 hK308 => ?_
                                        simp only [go_sem, decide_false, decide_true, Bool.not_true, Bool.not_false, h9, hcap0, hcap1, Nat.zero_add, hal, hall, hb0, hb1, hb2, hb3, hg0, hg1, hg2, hg3, hge, hgt3, hp0, hp1, hp2, Int.toNat_zero, Int.toNat_one, Int.reduceToNat, Int.toNat_natCast, hnn, hnn2, hw1, hw2, hbc, hq1, hq2, hq3, hq4, hq6, hq7, hq8, hc6, hc7, hc8, hd4, hmi, hcap2, htk, hs61, hcap, List.length_take, List.length_drop, hq5]
                                        all_goals repeat' (first | apply And.intro | intro _)
                                        all_goals
                                          refine hK308 _ ?_
                                          refine hN307 _ ?_
                                          refine cond_k rfl (fun hc => ?_) (fun hc => ?_)
                                          · exfalso; revert hc; simp [go_sem, decide_false, decide_true, Bool.not_true, Bool.not_false, h9, hcap0, hcap1, Nat.zero_add, hal, hall, hb0, hb1, hb2, hb3, hg0, hg1, hg2, hg3, hge, hgt3, hp0, hp1, hp2, Int.toNat_zero, Int.toNat_one, Int.reduceToNat, Int.toNat_natCast, hnn, hnn2, hw1, hw2, hbc, hq1, hq2, hq3, hq4, hq6, hq7, hq8, hc6, hc7, hc8, hd4, hmi, hcap2, htk, hs61, hcap, List.length_take, List.length_drop, hq5]
                                          · try simp only [go_sem, decide_false, decide_true, Bool.not_true, Bool.not_false, h9, hcap0, hcap1, Nat.zero_add, hal, hall, hb0, hb1, hb2, hb3, hg0, hg1, hg2, hg3, hge, hgt3, hp0, hp1, hp2, Int.toNat_zero, Int.toNat_one, Int.reduceToNat, Int.toNat_natCast, hnn, hnn2, hw1, hw2, hbc, hq1, hq2, hq3, hq4, hq6, hq7, hq8, hc6, hc7, hc8, hd4, hmi, hcap2, htk, hs61, hcap, List.length_take, List.length_drop, hq5] at hc
                                            all_goals
                                              refine skip_k ?_
                                              refine hN306 _ ?_
                                              refine seq_k fun N309 M309 hN309 hM309 => ?_
                                              refine seq_k fun N310 M310 hN310 hM310 => ?_
                                              refine region_k fun K311 hK311 => ?_
                                              simp only [go_sem, decide_false, decide_true, Bool.not_true, Bool.not_false, h9, hcap0, hcap1, Nat.zero_add, hal, hall, hb0, hb1, hb2, hb3, hg0, hg1, hg2, hg3, hge, hgt3, hp0, hp1, hp2, Int.toNat_zero, Int.toNat_one, Int.reduceToNat, Int.toNat_natCast, hnn, hnn2, hw1, hw2, hbc, hq1, hq2, hq3, hq4, hq6, hq7, hq8, hc6, hc7, hc8, hd4, hmi, hcap2, htk, hs61, hcap, List.length_take, List.length_drop, hq5]
                                              all_goals repeat' (first | apply And.intro | intro _)
                                              all_goals
                                                refine hK311 _ ?_
                                                refine hN310 _ ?_
                                                refine cond_k rfl (fun hc => ?_) (fun hc => ?_)
                                                · exfalso; revert hc; simp [go_sem, decide_false, decide_true, Bool.not_true, Bool.not_false, h9, hcap0, hcap1, Nat.zero_add, hal, hall, hb0, hb1, hb2, hb3, hg0, hg1, hg2, hg3, hge, hgt3, hp0, hp1, hp2, Int.toNat_zero, Int.toNat_one, Int.reduceToNat, Int.toNat_natCast, hnn, hnn2, hw1, hw2, hbc, hq1, hq2, hq3, hq4, hq6, hq7, hq8, hc6, hc7, hc8, hd4, hmi, hcap2, htk, hs61, hcap, List.length_take, List.length_drop, hq5]
                                                · try simp only [go_sem, decide_false, decide_true, Bool.not_true, Bool.not_false, h9, hcap0, hcap1, Nat.zero_add, hal, hall, hb0, hb1, hb2, hb3, hg0, hg1, hg2, hg3, hge, hgt3, hp0, hp1, hp2, Int.toNat_zero, Int.toNat_one, Int.reduceToNat, Int.toNat_natCast, hnn, hnn2, hw1, hw2, hbc, hq1, hq2, hq3, hq4, hq6, hq7, hq8, hc6, hc7, hc8, hd4, hmi, hcap2, htk, hs61, hcap, List.length_take, List.length_drop, hq5] at hc
                                                  all_goals
                                                    refine skip_k ?_
                                                    refine hN309 _ ?_
                                                    refine seq_k fun N312 M312 hN312 hM312 => ?_
                                                    refine region_k fun K313 hK313 => ?_
                                                    simp only [go_sem, decide_false, decide_true, Bool.not_true, Bool.not_false, h9, hcap0, hcap1, Nat.zero_add, hal, hall, hb0, hb1, hb2, hb3, hg0, hg1, hg2, hg3, hge, hgt3, hp0, hp1, hp2, Int.toNat_zero, Int.toNat_one, Int.reduceToNat, Int.toNat_natCast, hnn, hnn2, hw1, hw2, hbc, hq1, hq2, hq3, hq4, hq6, hq7, hq8, hc6, hc7, hc8, hd4, hmi, hcap2, htk, hs61, hcap, List.length_take, List.length_drop, hq5]
                                                    all_goals repeat' (first | apply And.intro | intro _)
                                                    all_goals
                                                      refine hK313 _ ?_
                                                      refine hN312 _ ?_
                                                      refine seq_k fun N314 M314 hN314 hM314 => ?_
                                                      refine ht_seal 61 (((bt.drop 4).take n).map .u8) (b := true) (by simp only [pls_bytes, look]; simp) (by decide) ?_
                                                      simp only [St.laid, sealE, sealM, sealV, sealW, List.map_cons, List.map_nil, sealL_pl, sealL_fn0, hs61, sealL_sne (j := 75) (k := 61) (by decide), sealL_pne (j := 9) (k := 61) (by decide), frsC_seal, map_sealB, Nat.reduceLT, Nat.reduceEqDiff, if_true, if_false, reduceIte]
                                                      refine region_k fun K315 hK315 => ?_
                                                      simp only [go_sem, decide_false, decide_true, Bool.not_true, Bool.not_false, h9, hcap0, hcap1, Nat.zero_add, hal, hall, hb0, hb1, hb2, hb3, hg0, hg1, hg2, hg3, hge, hgt3, hp0, hp1, hp2, Int.toNat_zero, Int.toNat_one, Int.reduceToNat, Int.toNat_natCast, hnn, hnn2, hw1, hw2, hbc, hq1, hq2, hq3, hq4, hq6, hq7, hq8, hc6, hc7, hc8, hd4, hmi, hcap2, htk, hs61, hcap, List.length_take, List.length_drop, hq5]
                                                      all_goals repeat' (first | apply And.intro | intro _)
                                                      all_goals
                                                        refine hK315 _ ?_
                                                        refine hN314 _ ?_
                                                        refine region_k fun K316 hK316 => ?_
                                                        simp only [go_sem, decide_false, decide_true, Bool.not_true, Bool.not_false, h9, hcap0, hcap1, Nat.zero_add, hal, hall, hb0, hb1, hb2, hb3, hg0, hg1, hg2, hg3, hge, hgt3, hp0, hp1, hp2, Int.toNat_zero, Int.toNat_one, Int.reduceToNat, Int.toNat_natCast, hnn, hnn2, hw1, hw2, hbc, hq1, hq2, hq3, hq4, hq6, hq7, hq8, hc6, hc7, hc8, hd4, hmi, hcap2, htk, hs61, hcap, List.length_take, List.length_drop, hq5]
                                                        all_goals repeat' (first | apply And.intro | intro _)
                                                        all_goals
                                                          refine hK316 _ ?_
                                                          refine bn293 _ ?_
                                                          refine hN12 ⟨(c - 1, l ++ [frOf bt], bt.drop (4 + n)), hnx⟩ _ ?_ ?_ ?_
                                                          · (have hcl0 := hv.2.1; simp only at hcl0; show c - 1 < c; clear hnn hnn2 hw1 hw2 hcap; omega)
                                                          · (simp only [go_sem, fV_snoc, fV_one, Nat.add_comm 4 n, leX, List.cons_append, List.nil_append]; try simp [fV_snoc, fV_one])
                                                          · (simp only [fM_snoc, frsC_snoc, hfr, go_sem, leX, List.cons_append, List.nil_append]; try simp [fM_one, frsC_one, leX, look, pls, sealL_pl])
                  · exfalso; revert hc; simp [go_sem, decide_false, decide_true, Bool.not_true, Bool.not_false, h9, hcap0, hcap1, Nat.zero_add, hal, hall, hb0, hb1, hb2, hb3, hg0, hg1, hg2, hg3, hge, hgt3, hp0, hp1, hp2, Int.toNat_zero, Int.toNat_one, Int.reduceToNat, Int.toNat_natCast, hnn, hnn2, hw1, hw2, hbc, hq1, hq2, hq3, hq4, hq6, hq7, hq8, hc6, hc7, hc8, hd4, hmi, hcap2, htk, hs61, hcap, List.length_take, List.length_drop, hq5]
end Go.Sy
