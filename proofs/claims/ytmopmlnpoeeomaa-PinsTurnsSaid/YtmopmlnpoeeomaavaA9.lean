/- Walks: the pin of a name, found; the document's answer; their law. -/
import Derived.Test.YtmopmlnpoeeomaavaA8
set_option linter.unusedVariables false
set_option linter.unusedSimpArgs false
namespace Go.Sy
open Go.Proofs
attribute [local irreducible] atCall HT runOps runD onC onE onO onG goV goA goS onSt onGuard
theorem findP_bad {l : List PinD} {s : List UInt8} (h : ¬ pinsFault l = 0) : findP l s = (pinsFault l, zeroPin) := if_neg h
theorem findP_some {l : List PinD} {s : List UInt8} {p : PinD} (h : pinsFault l = 0) (hf : l.find? (fun p => decide (p.name = s)) = some p) : findP l s = (0, p) := by unfold findP; rw [if_pos h, hf]
theorem findP_none {l : List PinD} {s : List UInt8} (h : pinsFault l = 0) (hf : l.find? (fun p => decide (p.name = s)) = none) : findP l s = (5, zeroPin) := by unfold findP; rw [if_pos h, hf]
def pinV (r : Int × PinD) : V := .tup [.agg (.pl (.str r.2.name) :: (bytesC r.2.key ++ [.pl (.b r.2.gone)])), .one (.pl (.i r.1))]
set_option maxHeartbeats 400000 in
theorem pins_find_bad (l : List PinD) (hl : ∀ p ∈ l, p.ok) (ex : Bool) (s : List UInt8) (hf : ¬ pinsFault l = 0) :
    Ct Try.prog 24 [.w (.one (.pl (.R ex 34 (pinRows l)))), .w (.one (.pl (.str s)))] (fun v m => v = pinV (findP l s)) := by
  refine Ct.k Try.func24 rfl Try.ntmps24 (congrArg Array.toList Try.results24) (by simp) fun w0 ro => ?_
  refine seq_k fun N1 M1 hN1 hM1 => ?_
  refine region_k fun K2 hK2 => ?_
  simp only [go_sem, hf, decide_false, decide_true, Bool.not_true, Bool.not_false]
  all_goals repeat' (first | apply And.intro | intro _)
  all_goals
    refine hK2 _ ?_
    refine hN1 _ ?_
    refine seq_k fun N3 M3 hN3 hM3 => ?_
    refine seq_k fun N4 M4 hN4 hM4 => ?_
    refine region_k fun K5 hK5 => ?_
    simp only [go_sem, hf, decide_false, decide_true, Bool.not_true, Bool.not_false]
    all_goals repeat' (first | apply And.intro | intro _)
    all_goals refine call_view (fun k => k) (fun _ _ => rfl) (by first | rfl | (simp only [go_sem, hf, decide_false, decide_true, Bool.not_true, Bool.not_false]; rfl) | simp only [go_sem, hf, decide_false, decide_true, Bool.not_true, Bool.not_false]) ((pins_check l hl ex).plain fun _ _ h => h) ?_
    all_goals (rintro v m ⟨hR, hm⟩; subst hR; subst hm)
    all_goals refine And.intro (by first | rfl | simp only [go_sem, hf, decide_false, decide_true, Bool.not_true, Bool.not_false]) (And.intro (by first | rfl | simp only [go_sem, hf, decide_false, decide_true, Bool.not_true, Bool.not_false]) ?_)
    all_goals simp only [go_sem, hf, decide_false, decide_true, Bool.not_true, Bool.not_false]
    all_goals repeat' (first | apply And.intro | intro _)
    all_goals
      refine hK5 _ ?_
      refine hN4 _ ?_
      refine seq_k fun N6 M6 hN6 hM6 => ?_
      refine region_k fun K7 hK7 => ?_
      simp only [go_sem, hf, decide_false, decide_true, Bool.not_true, Bool.not_false]
      all_goals repeat' (first | apply And.intro | intro _)
      all_goals
        refine hK7 _ ?_
        refine hN6 _ ?_
        refine cond_k rfl (fun hc => ?_) (fun hc => ?_)
        · try simp only [go_sem, hf, decide_false, decide_true, Bool.not_true, Bool.not_false] at hc
          all_goals
            refine seq_k fun N8 M8 hN8 hM8 => ?_
            refine region_k fun K9 hK9 => ?_
            simp only [go_sem, hf, decide_false, decide_true, Bool.not_true, Bool.not_false]
            all_goals repeat' (first | apply And.intro | intro _)
            all_goals
              refine hK9 _ ?_
              refine hN8 _ ?_
              refine ret_k ?_
              refine hM3 _ _ ?_
              simp only [go_sem, hf, decide_false, decide_true, Bool.not_true, Bool.not_false]
              all_goals (rw [findP_bad hf]; rfl)
        · exfalso; revert hc; simp [go_sem, hf, decide_false, decide_true, Bool.not_true, Bool.not_false]
set_option maxHeartbeats 400000 in
theorem pin_of_bad (l : List PinD) (hl : ∀ p ∈ l, p.ok) (ex : Bool) (s : List UInt8) (hf : ¬ pinsFault l = 0) :
    Ct Try.prog 26 [.w (.one (.pl (.R ex 34 (pinRows l)))), .w (.one (.pl (.str s)))] (fun v m => v = pinV (findP l s)) := by
  refine Ct.k Try.func26 rfl Try.ntmps26 (congrArg Array.toList Try.results26) (by simp) fun w0 ro => ?_
  refine seq_k fun N1 M1 hN1 hM1 => ?_
  refine region_k fun K2 hK2 => ?_
  simp only [go_sem, hf, decide_false, decide_true, Bool.not_true, Bool.not_false]
  all_goals repeat' (first | apply And.intro | intro _)
  all_goals
    refine hK2 _ ?_
    refine hN1 _ ?_
    refine seq_k fun N3 M3 hN3 hM3 => ?_
    refine seq_k fun N4 M4 hN4 hM4 => ?_
    refine region_k fun K5 hK5 => ?_
    simp only [go_sem, hf, decide_false, decide_true, Bool.not_true, Bool.not_false]
    all_goals repeat' (first | apply And.intro | intro _)
    all_goals refine call_view (fun k => k) (fun _ _ => rfl) (by first | rfl | (simp only [go_sem, hf, decide_false, decide_true, Bool.not_true, Bool.not_false]; rfl) | simp only [go_sem, hf, decide_false, decide_true, Bool.not_true, Bool.not_false]) ((pins_fault l hl ex).plain fun _ _ h => h) ?_
    all_goals (rintro v m ⟨hR, hm⟩; subst hR; subst hm)
    all_goals refine And.intro (by first | rfl | simp only [go_sem, hf, decide_false, decide_true, Bool.not_true, Bool.not_false]) (And.intro (by first | rfl | simp only [go_sem, hf, decide_false, decide_true, Bool.not_true, Bool.not_false]) ?_)
    all_goals simp only [go_sem, hf, decide_false, decide_true, Bool.not_true, Bool.not_false]
    all_goals repeat' (first | apply And.intro | intro _)
    all_goals
      refine hK5 _ ?_
      refine hN4 _ ?_
      refine seq_k fun N6 M6 hN6 hM6 => ?_
      refine region_k fun K7 hK7 => ?_
      simp only [go_sem, hf, decide_false, decide_true, Bool.not_true, Bool.not_false]
      all_goals repeat' (first | apply And.intro | intro _)
      all_goals
        refine hK7 _ ?_
        refine hN6 _ ?_
        refine cond_k rfl (fun hc => ?_) (fun hc => ?_)
        · try simp only [go_sem, hf, decide_false, decide_true, Bool.not_true, Bool.not_false] at hc
          all_goals
            refine seq_k fun N8 M8 hN8 hM8 => ?_
            refine region_k fun K9 hK9 => ?_
            simp only [go_sem, hf, decide_false, decide_true, Bool.not_true, Bool.not_false]
            all_goals repeat' (first | apply And.intro | intro _)
            all_goals
              refine hK9 _ ?_
              refine hN8 _ ?_
              refine ret_k ?_
              refine hM3 _ _ ?_
              simp only [go_sem, hf, decide_false, decide_true, Bool.not_true, Bool.not_false]
              all_goals (rw [findP_bad hf]; rfl)
        · exfalso; revert hc; simp [go_sem, hf, decide_false, decide_true, Bool.not_true, Bool.not_false]
set_option maxHeartbeats 400000 in
theorem pins_find_no (l : List PinD) (hl : ∀ p ∈ l, p.ok) (ex : Bool) (s : List UInt8) (hf : pinsFault l = 0) (hx : hasP l s = false) :
    Ct Try.prog 24 [.w (.one (.pl (.R ex 34 (pinRows l)))), .w (.one (.pl (.str s)))] (fun v m => v = pinV (findP l s)) := by
  refine Ct.k Try.func24 rfl Try.ntmps24 (congrArg Array.toList Try.results24) (by simp) fun w0 ro => ?_
  refine seq_k fun N1 M1 hN1 hM1 => ?_
  refine region_k fun K2 hK2 => ?_
  simp only [go_sem, hf, hx, decide_false, decide_true, Bool.not_true, Bool.not_false]
  all_goals repeat' (first | apply And.intro | intro _)
  all_goals
    refine hK2 _ ?_
    refine hN1 _ ?_
    refine seq_k fun N3 M3 hN3 hM3 => ?_
    refine seq_k fun N4 M4 hN4 hM4 => ?_
    refine region_k fun K5 hK5 => ?_
    simp only [go_sem, hf, hx, decide_false, decide_true, Bool.not_true, Bool.not_false]
    all_goals repeat' (first | apply And.intro | intro _)
    all_goals refine call_view (fun k => k) (fun _ _ => rfl) (by first | rfl | (simp only [go_sem, hf, hx, decide_false, decide_true, Bool.not_true, Bool.not_false]; rfl) | simp only [go_sem, hf, hx, decide_false, decide_true, Bool.not_true, Bool.not_false]) ((pins_check l hl ex).plain fun _ _ h => h) ?_
    all_goals (rintro v m ⟨hR, hm⟩; subst hR; subst hm)
    all_goals refine And.intro (by first | rfl | simp only [go_sem, hf, hx, decide_false, decide_true, Bool.not_true, Bool.not_false]) (And.intro (by first | rfl | simp only [go_sem, hf, hx, decide_false, decide_true, Bool.not_true, Bool.not_false]) ?_)
    all_goals simp only [go_sem, hf, hx, decide_false, decide_true, Bool.not_true, Bool.not_false]
    all_goals repeat' (first | apply And.intro | intro _)
    all_goals
      refine hK5 _ ?_
      refine hN4 _ ?_
      refine seq_k fun N6 M6 hN6 hM6 => ?_
      refine region_k fun K7 hK7 => ?_
      simp only [go_sem, hf, hx, decide_false, decide_true, Bool.not_true, Bool.not_false]
      all_goals repeat' (first | apply And.intro | intro _)
      all_goals
        refine hK7 _ ?_
        refine hN6 _ ?_
        refine cond_k rfl (fun hc => ?_) (fun hc => ?_)
        · exfalso; revert hc; simp [go_sem, hf, hx, decide_false, decide_true, Bool.not_true, Bool.not_false]
        · try simp only [go_sem, hf, hx, decide_false, decide_true, Bool.not_true, Bool.not_false] at hc
          all_goals
            refine skip_k ?_
            refine hN3 _ ?_
            refine seq_k fun N8 M8 hN8 hM8 => ?_
            refine region_k fun K9 hK9 => ?_
            simp only [go_sem, hf, hx, decide_false, decide_true, Bool.not_true, Bool.not_false]
            all_goals repeat' (first | apply And.intro | intro _)
            all_goals refine call_view (fun k => k) (fun _ _ => rfl) (by first | rfl | (simp only [go_sem, hf, hx, decide_false, decide_true, Bool.not_true, Bool.not_false]; rfl) | simp only [go_sem, hf, hx, decide_false, decide_true, Bool.not_true, Bool.not_false]) ((find_ l hl ex s (srt_of hf)).plain fun _ _ h => h) ?_
            all_goals (rintro v m ⟨hR, hm⟩; subst hR; subst hm)
            all_goals refine And.intro (by first | rfl | simp only [go_sem, hf, hx, decide_false, decide_true, Bool.not_true, Bool.not_false]) (And.intro (by first | rfl | simp only [go_sem, hf, hx, decide_false, decide_true, Bool.not_true, Bool.not_false]) ?_)
            all_goals simp only [go_sem, hf, hx, decide_false, decide_true, Bool.not_true, Bool.not_false]
            all_goals repeat' (first | apply And.intro | intro _)
            all_goals
              refine hK9 _ ?_
              refine hN8 _ ?_
              refine seq_k fun N10 M10 hN10 hM10 => ?_
              refine seq_k fun N11 M11 hN11 hM11 => ?_
              refine region_k fun K12 hK12 => ?_
              simp only [go_sem, hf, hx, decide_false, decide_true, Bool.not_true, Bool.not_false]
              all_goals repeat' (first | apply And.intro | intro _)
              all_goals
                refine hK12 _ ?_
                refine hN11 _ ?_
                refine cond_k rfl (fun hc => ?_) (fun hc => ?_)
                · try simp only [go_sem, hf, hx, decide_false, decide_true, Bool.not_true, Bool.not_false] at hc
                  all_goals
                    refine seq_k fun N13 M13 hN13 hM13 => ?_
                    refine region_k fun K14 hK14 => ?_
                    simp only [go_sem, hf, hx, decide_false, decide_true, Bool.not_true, Bool.not_false]
                    all_goals repeat' (first | apply And.intro | intro _)
                    all_goals
                      refine hK14 _ ?_
                      refine hN13 _ ?_
                      refine ret_k ?_
                      refine hM10 _ _ ?_
                      simp only [go_sem, hf, hx, decide_false, decide_true, Bool.not_true, Bool.not_false]
                      all_goals (rw [findP_none hf (find_hasnt (srt_of hf) hx)]; rfl)
                · exfalso; revert hc; simp [go_sem, hf, hx, decide_false, decide_true, Bool.not_true, Bool.not_false]
set_option maxHeartbeats 400000 in
theorem pins_find_yes (l : List PinD) (hl : ∀ p ∈ l, p.ok) (ex : Bool) (s : List UInt8) (hf : pinsFault l = 0) (hx : hasP l s = true) :
    Ct Try.prog 24 [.w (.one (.pl (.R ex 34 (pinRows l)))), .w (.one (.pl (.str s)))] (fun v m => v = pinV (findP l s)) := by
  obtain ⟨p, hp, hn, hlt, hfd⟩ := find_has (srt_of hf) hx
  have hg0 := pinRows_get hp
  have hk := (hl p (List.mem_of_getElem? hp)).1
  have hpl := pinC_length hk
  have hc1 : ((idxP l s : Nat) : Int) < ((l.length : Nat) : Int) := by omega
  have hc2 : (0 : Int) ≤ ((idxP l s : Nat) : Int) := by omega
  refine Ct.k Try.func24 rfl Try.ntmps24 (congrArg Array.toList Try.results24) (by simp) fun w0 ro => ?_
  refine seq_k fun N1 M1 hN1 hM1 => ?_
  refine region_k fun K2 hK2 => ?_
  simp only [go_sem, List.length_map, hf, hx, hg0, hk, hpl, hc1, hc2, Int.toNat_natCast, decide_false, decide_true, Bool.not_true, Bool.not_false]
  all_goals repeat' (first | apply And.intro | intro _)
  all_goals
    refine hK2 _ ?_
    refine hN1 _ ?_
    refine seq_k fun N3 M3 hN3 hM3 => ?_
    refine seq_k fun N4 M4 hN4 hM4 => ?_
    refine region_k fun K5 hK5 => ?_
    simp only [go_sem, List.length_map, hf, hx, hg0, hk, hpl, hc1, hc2, Int.toNat_natCast, decide_false, decide_true, Bool.not_true, Bool.not_false]
    all_goals repeat' (first | apply And.intro | intro _)
    all_goals refine call_view (fun k => k) (fun _ _ => rfl) (by first | rfl | (simp only [go_sem, List.length_map, hf, hx, hg0, hk, hpl, hc1, hc2, Int.toNat_natCast, decide_false, decide_true, Bool.not_true, Bool.not_false]; rfl) | simp only [go_sem, List.length_map, hf, hx, hg0, hk, hpl, hc1, hc2, Int.toNat_natCast, decide_false, decide_true, Bool.not_true, Bool.not_false]) ((pins_check l hl ex).plain fun _ _ h => h) ?_
    all_goals (rintro v m ⟨hR, hm⟩; subst hR; subst hm)
    all_goals refine And.intro (by first | rfl | simp only [go_sem, List.length_map, hf, hx, hg0, hk, hpl, hc1, hc2, Int.toNat_natCast, decide_false, decide_true, Bool.not_true, Bool.not_false]) (And.intro (by first | rfl | simp only [go_sem, List.length_map, hf, hx, hg0, hk, hpl, hc1, hc2, Int.toNat_natCast, decide_false, decide_true, Bool.not_true, Bool.not_false]) ?_)
    all_goals simp only [go_sem, List.length_map, hf, hx, hg0, hk, hpl, hc1, hc2, Int.toNat_natCast, decide_false, decide_true, Bool.not_true, Bool.not_false]
    all_goals repeat' (first | apply And.intro | intro _)
    all_goals
      refine hK5 _ ?_
      refine hN4 _ ?_
      refine seq_k fun N6 M6 hN6 hM6 => ?_
      refine region_k fun K7 hK7 => ?_
      simp only [go_sem, List.length_map, hf, hx, hg0, hk, hpl, hc1, hc2, Int.toNat_natCast, decide_false, decide_true, Bool.not_true, Bool.not_false]
      all_goals repeat' (first | apply And.intro | intro _)
      all_goals
        refine hK7 _ ?_
        refine hN6 _ ?_
        refine cond_k rfl (fun hc => ?_) (fun hc => ?_)
        · exfalso; revert hc; simp [go_sem, List.length_map, hf, hx, hg0, hk, hpl, hc1, hc2, Int.toNat_natCast, decide_false, decide_true, Bool.not_true, Bool.not_false]
        · try simp only [go_sem, List.length_map, hf, hx, hg0, hk, hpl, hc1, hc2, Int.toNat_natCast, decide_false, decide_true, Bool.not_true, Bool.not_false] at hc
          all_goals
            refine skip_k ?_
            refine hN3 _ ?_
            refine seq_k fun N8 M8 hN8 hM8 => ?_
            refine region_k fun K9 hK9 => ?_
            simp only [go_sem, List.length_map, hf, hx, hg0, hk, hpl, hc1, hc2, Int.toNat_natCast, decide_false, decide_true, Bool.not_true, Bool.not_false]
            all_goals repeat' (first | apply And.intro | intro _)
            all_goals refine call_view (fun k => k) (fun _ _ => rfl) (by first | rfl | (simp only [go_sem, List.length_map, hf, hx, hg0, hk, hpl, hc1, hc2, Int.toNat_natCast, decide_false, decide_true, Bool.not_true, Bool.not_false]; rfl) | simp only [go_sem, List.length_map, hf, hx, hg0, hk, hpl, hc1, hc2, Int.toNat_natCast, decide_false, decide_true, Bool.not_true, Bool.not_false]) ((find_ l hl ex s (srt_of hf)).plain fun _ _ h => h) ?_
            all_goals (rintro v m ⟨hR, hm⟩; subst hR; subst hm)
            all_goals refine And.intro (by first | rfl | simp only [go_sem, List.length_map, hf, hx, hg0, hk, hpl, hc1, hc2, Int.toNat_natCast, decide_false, decide_true, Bool.not_true, Bool.not_false]) (And.intro (by first | rfl | simp only [go_sem, List.length_map, hf, hx, hg0, hk, hpl, hc1, hc2, Int.toNat_natCast, decide_false, decide_true, Bool.not_true, Bool.not_false]) ?_)
            all_goals simp only [go_sem, List.length_map, hf, hx, hg0, hk, hpl, hc1, hc2, Int.toNat_natCast, decide_false, decide_true, Bool.not_true, Bool.not_false]
            all_goals repeat' (first | apply And.intro | intro _)
            all_goals
              refine hK9 _ ?_
              refine hN8 _ ?_
              refine seq_k fun N10 M10 hN10 hM10 => ?_
              refine seq_k fun N11 M11 hN11 hM11 => ?_
              refine region_k fun K12 hK12 => ?_
              simp only [go_sem, List.length_map, hf, hx, hg0, hk, hpl, hc1, hc2, Int.toNat_natCast, decide_false, decide_true, Bool.not_true, Bool.not_false]
              all_goals repeat' (first | apply And.intro | intro _)
              all_goals
                refine hK12 _ ?_
                refine hN11 _ ?_
                refine cond_k rfl (fun hc => ?_) (fun hc => ?_)
                · exfalso; revert hc; simp [go_sem, List.length_map, hf, hx, hg0, hk, hpl, hc1, hc2, Int.toNat_natCast, decide_false, decide_true, Bool.not_true, Bool.not_false]
                · try simp only [go_sem, List.length_map, hf, hx, hg0, hk, hpl, hc1, hc2, Int.toNat_natCast, decide_false, decide_true, Bool.not_true, Bool.not_false] at hc
                  all_goals
                    refine skip_k ?_
                    refine hN10 _ ?_
                    refine seq_k fun N13 M13 hN13 hM13 => ?_
                    refine region_k fun K14 hK14 => ?_
                    simp only [go_sem, List.length_map, hf, hx, hg0, hk, hpl, hc1, hc2, Int.toNat_natCast, decide_false, decide_true, Bool.not_true, Bool.not_false]
                    all_goals repeat' (first | apply And.intro | intro _)
                    all_goals
                      refine hK14 _ ?_
                      refine hN13 _ ?_
                      refine ret_k ?_
                      simp only [go_sem, List.length_map, hf, hx, hg0, hk, hpl, hc1, hc2, Int.toNat_natCast, decide_false, decide_true, Bool.not_true, Bool.not_false]
                      all_goals (rw [findP_some hf hfd]; rfl)
set_option maxHeartbeats 800000 in
theorem pin_of_ok (l : List PinD) (hl : ∀ p ∈ l, p.ok) (ex : Bool) (s : List UInt8) (hf : pinsFault l = 0) :
    Ct Try.prog 26 [.w (.one (.pl (.R ex 34 (pinRows l)))), .w (.one (.pl (.str s)))] (fun v m => v = pinV (findP l s)) := by
  refine Ct.k Try.func26 rfl Try.ntmps26 (congrArg Array.toList Try.results26) (by simp) fun w0 ro => ?_
  refine seq_k fun N1 M1 hN1 hM1 => ?_
  refine region_k fun K2 hK2 => ?_
  simp only [go_sem, hf, decide_false, decide_true, Bool.not_true, Bool.not_false]
  all_goals repeat' (first | apply And.intro | intro _)
  all_goals
    refine hK2 _ ?_
    refine hN1 _ ?_
    refine seq_k fun N3 M3 hN3 hM3 => ?_
    refine seq_k fun N4 M4 hN4 hM4 => ?_
    refine region_k fun K5 hK5 => ?_
    simp only [go_sem, hf, decide_false, decide_true, Bool.not_true, Bool.not_false]
    all_goals repeat' (first | apply And.intro | intro _)
    all_goals refine call_view (fun k => k) (fun _ _ => rfl) (by first | rfl | (simp only [go_sem, hf, decide_false, decide_true, Bool.not_true, Bool.not_false]; rfl) | simp only [go_sem, hf, decide_false, decide_true, Bool.not_true, Bool.not_false]) ((pins_fault l hl ex).plain fun _ _ h => h) ?_
    all_goals (rintro v m ⟨hR, hm⟩; subst hR; subst hm)
    all_goals refine And.intro (by first | rfl | simp only [go_sem, hf, decide_false, decide_true, Bool.not_true, Bool.not_false]) (And.intro (by first | rfl | simp only [go_sem, hf, decide_false, decide_true, Bool.not_true, Bool.not_false]) ?_)
    all_goals simp only [go_sem, hf, decide_false, decide_true, Bool.not_true, Bool.not_false]
    all_goals repeat' (first | apply And.intro | intro _)
    all_goals
      refine hK5 _ ?_
      refine hN4 _ ?_
      refine seq_k fun N6 M6 hN6 hM6 => ?_
      refine region_k fun K7 hK7 => ?_
      simp only [go_sem, hf, decide_false, decide_true, Bool.not_true, Bool.not_false]
      all_goals repeat' (first | apply And.intro | intro _)
      all_goals
        refine hK7 _ ?_
        refine hN6 _ ?_
        refine cond_k rfl (fun hc => ?_) (fun hc => ?_)
        · exfalso; revert hc; simp [go_sem, hf, decide_false, decide_true, Bool.not_true, Bool.not_false]
        · try simp only [go_sem, hf, decide_false, decide_true, Bool.not_true, Bool.not_false] at hc
          all_goals
            refine skip_k ?_
            refine hN3 _ ?_
            refine seq_k fun N8 M8 hN8 hM8 => ?_
            refine seq_k fun N9 M9 hN9 hM9 => ?_
            refine region_k fun K10 hK10 => ?_
            simp only [go_sem, hf, decide_false, decide_true, Bool.not_true, Bool.not_false]
            all_goals repeat' (first | apply And.intro | intro _)
            all_goals
              refine hK10 _ ?_
              refine hN9 _ ?_
              refine block_k fun B11 bn11 bx11 br11 bi11 => ?_
              refine ht_dropE [0, 6, 9, 10, 11, 12, 13, 14] ?_
              simp only [dropE_mk, fgt_nil, fgt_cons, List.contains_cons, List.contains_nil, Nat.reduceBEq, beq_self_eq_true, Bool.or_false, Bool.or_true, Bool.true_or, Bool.false_or, Bool.false_eq_true, reduceIte]
              refine loop_k (fun i => [(17, .w (.one (.pl (.i (i.1 : Nat)))))]) (fun _ => []) (fun i => l.length - i.1) (⟨0, Nat.zero_le _, fun j hj => absurd hj (Nat.not_lt_zero j)⟩ : {i : Nat // i ≤ l.length ∧ ∀ k, k < i → nameAt l k ≠ s}) ?_ ?_ ?_
              · (simp only [go_sem, leX, List.cons_append, List.nil_append]; try simp)
              · (simp only [go_sem, leX, List.cons_append, List.nil_append]; try simp)
              intro ⟨i, hi, hg⟩ N12 M12 hN12 hM12
              simp only [List.cons_append, List.nil_append]
              have hd : (∃ p, l[i]? = some p ∧ i < l.length ∧ p.name = s) ∨ (∃ p, l[i]? = some p ∧ i < l.length ∧ ¬ p.name = s) ∨ l.length ≤ i := by
                rcases Nat.lt_or_ge i l.length with h | h
                · obtain ⟨p, hp⟩ := get_lt h
                  by_cases hx : p.name = s
                  · exact .inl ⟨p, hp, h, hx⟩
                  · exact .inr (.inl ⟨p, hp, h, hx⟩)
                · exact .inr (.inr h)
              rcases hd with ⟨p, hp, hlt, hx⟩ | ⟨p, hp, hlt, hx⟩ | hge
              · have hg0 := pinRows_get hp
                have hk := (hl p (List.mem_of_getElem? hp)).1
                have hpl := pinC_length hk
                have hc1 : ((i : Nat) : Int) < ((l.length : Nat) : Int) := by omega
                have hc2 : (0 : Int) ≤ ((i : Nat) : Int) := by omega
                have h8 := (pinsFault_zero hf).1
                have hs1 : Go.RowKit.wrap64 (((i : Nat) : Int) + 1) = ((i + 1 : Nat) : Int) := wnat (by omega) (by omega)
                have hfd := find_some hp hx hg
                refine seq_k fun N13 M13 hN13 hM13 => ?_
                refine region_k fun K14 hK14 => ?_
                simp only [go_sem, hf, decide_false, decide_true, Bool.not_true, Bool.not_false, List.length_map, hg0, hk, hpl, hc1, hc2, hs1, hx, Int.toNat_natCast, decide_false, decide_true]
                all_goals repeat' (first | apply And.intro | intro _)
                all_goals
                  refine hK14 _ ?_
                  refine hN13 _ ?_
                  refine seq_k fun N15 M15 hN15 hM15 => ?_
                  refine cond_k rfl (fun hc => ?_) (fun hc => ?_)
                  · try simp only [go_sem, hf, decide_false, decide_true, Bool.not_true, Bool.not_false, List.length_map, hg0, hk, hpl, hc1, hc2, hs1, hx, Int.toNat_natCast, decide_false, decide_true] at hc
                    all_goals
                      refine skip_k ?_
                      refine hN15 _ ?_
                      refine seq_k fun N16 M16 hN16 hM16 => ?_
                      refine block_k fun B17 bn17 bx17 br17 bi17 => ?_
                      refine seq_k fun N18 M18 hN18 hM18 => ?_
                      refine region_k fun K19 hK19 => ?_
                      simp only [go_sem, hf, decide_false, decide_true, Bool.not_true, Bool.not_false, List.length_map, hg0, hk, hpl, hc1, hc2, hs1, hx, Int.toNat_natCast, decide_false, decide_true]
                      all_goals repeat' (first | apply And.intro | intro _)
                      all_goals
                        refine hK19 _ ?_
                        refine hN18 _ ?_
                        refine seq_k fun N20 M20 hN20 hM20 => ?_
                        refine region_k fun K21 hK21 => ?_
                        simp only [go_sem, hf, decide_false, decide_true, Bool.not_true, Bool.not_false, List.length_map, hg0, hk, hpl, hc1, hc2, hs1, hx, Int.toNat_natCast, decide_false, decide_true]
                        all_goals repeat' (first | apply And.intro | intro _)
                        all_goals
                          refine hK21 _ ?_
                          refine hN20 _ ?_
                          refine cond_k rfl (fun hc => ?_) (fun hc => ?_)
                          · try simp only [go_sem, hf, decide_false, decide_true, Bool.not_true, Bool.not_false, List.length_map, hg0, hk, hpl, hc1, hc2, hs1, hx, Int.toNat_natCast, decide_false, decide_true] at hc
                            all_goals
                              refine seq_k fun N22 M22 hN22 hM22 => ?_
                              refine region_k fun K23 hK23 => ?_
                              simp only [go_sem, hf, decide_false, decide_true, Bool.not_true, Bool.not_false, List.length_map, hg0, hk, hpl, hc1, hc2, hs1, hx, Int.toNat_natCast, decide_false, decide_true]
                              all_goals repeat' (first | apply And.intro | intro _)
                              all_goals
                                refine hK23 _ ?_
                                refine hN22 _ ?_
                                refine ret_k ?_
                                refine br17 _ ?_
                                refine hM16 _ _ ?_
                                refine hM12 _ _ ?_
                                refine br11 _ ?_
                                refine hM8 _ _ ?_
                                simp only [go_sem, hf, decide_false, decide_true, Bool.not_true, Bool.not_false, List.length_map, hg0, hk, hpl, hc1, hc2, hs1, hx, Int.toNat_natCast, decide_false, decide_true]
                                all_goals (rw [findP_some hf hfd]; simp only [pinV, hx])
                          · exfalso; revert hc; simp [go_sem, hf, decide_false, decide_true, Bool.not_true, Bool.not_false, List.length_map, hg0, hk, hpl, hc1, hc2, hs1, hx, Int.toNat_natCast, decide_false, decide_true]
                  · exfalso; revert hc; simp [go_sem, hf, decide_false, decide_true, Bool.not_true, Bool.not_false, List.length_map, hg0, hk, hpl, hc1, hc2, hs1, hx, Int.toNat_natCast, decide_false, decide_true]
              · have hg0 := pinRows_get hp
                have hk := (hl p (List.mem_of_getElem? hp)).1
                have hpl := pinC_length hk
                have hc1 : ((i : Nat) : Int) < ((l.length : Nat) : Int) := by omega
                have hc2 : (0 : Int) ≤ ((i : Nat) : Int) := by omega
                have h8 := (pinsFault_zero hf).1
                have hs1 : Go.RowKit.wrap64 (((i : Nat) : Int) + 1) = ((i + 1 : Nat) : Int) := wnat (by omega) (by omega)
                
                refine seq_k fun N24 M24 hN24 hM24 => ?_
                refine region_k fun K25 hK25 => ?_
                simp only [go_sem, hf, decide_false, decide_true, Bool.not_true, Bool.not_false, List.length_map, hg0, hk, hpl, hc1, hc2, hs1, hx, Int.toNat_natCast, decide_false, decide_true]
                all_goals repeat' (first | apply And.intro | intro _)
                all_goals
                  refine hK25 _ ?_
                  refine hN24 _ ?_
                  refine seq_k fun N26 M26 hN26 hM26 => ?_
                  refine cond_k rfl (fun hc => ?_) (fun hc => ?_)
                  · try simp only [go_sem, hf, decide_false, decide_true, Bool.not_true, Bool.not_false, List.length_map, hg0, hk, hpl, hc1, hc2, hs1, hx, Int.toNat_natCast, decide_false, decide_true] at hc
                    all_goals
                      refine skip_k ?_
                      refine hN26 _ ?_
                      refine seq_k fun N27 M27 hN27 hM27 => ?_
                      refine block_k fun B28 bn28 bx28 br28 bi28 => ?_
                      refine seq_k fun N29 M29 hN29 hM29 => ?_
                      refine region_k fun K30 hK30 => ?_
                      simp only [go_sem, hf, decide_false, decide_true, Bool.not_true, Bool.not_false, List.length_map, hg0, hk, hpl, hc1, hc2, hs1, hx, Int.toNat_natCast, decide_false, decide_true]
                      all_goals repeat' (first | apply And.intro | intro _)
                      all_goals
                        refine hK30 _ ?_
                        refine hN29 _ ?_
                        refine seq_k fun N31 M31 hN31 hM31 => ?_
                        refine region_k fun K32 hK32 => ?_
                        simp only [go_sem, hf, decide_false, decide_true, Bool.not_true, Bool.not_false, List.length_map, hg0, hk, hpl, hc1, hc2, hs1, hx, Int.toNat_natCast, decide_false, decide_true]
                        all_goals repeat' (first | apply And.intro | intro _)
                        all_goals
                          refine hK32 _ ?_
                          refine hN31 _ ?_
                          refine cond_k rfl (fun hc => ?_) (fun hc => ?_)
                          · exfalso; revert hc; simp [go_sem, hf, decide_false, decide_true, Bool.not_true, Bool.not_false, List.length_map, hg0, hk, hpl, hc1, hc2, hs1, hx, Int.toNat_natCast, decide_false, decide_true]
                          · try simp only [go_sem, hf, decide_false, decide_true, Bool.not_true, Bool.not_false, List.length_map, hg0, hk, hpl, hc1, hc2, hs1, hx, Int.toNat_natCast, decide_false, decide_true] at hc
                            all_goals
                              refine skip_k ?_
                              refine bn28 _ ?_
                              refine hN27 _ ?_
                              refine region_k fun K33 hK33 => ?_
                              simp only [go_sem, hf, decide_false, decide_true, Bool.not_true, Bool.not_false, List.length_map, hg0, hk, hpl, hc1, hc2, hs1, hx, Int.toNat_natCast, decide_false, decide_true]
                              all_goals repeat' (first | apply And.intro | intro _)
                              all_goals
                                refine hK33 _ ?_
                                refine hN12 ⟨i + 1, hlt, fun k hk2 => by rcases Nat.lt_succ_iff_lt_or_eq.mp hk2 with h | rfl; exact hg k h; rw [nameAt_eq hp]; exact hx⟩ _ ?_ ?_ ?_
                                · (show l.length - (i + 1) < l.length - i; omega)
                                · (simp only [go_sem, leX, List.cons_append, List.nil_append]; try simp)
                                · (simp only [go_sem, leX, List.cons_append, List.nil_append]; try simp)
                  · exfalso; revert hc; simp [go_sem, hf, decide_false, decide_true, Bool.not_true, Bool.not_false, List.length_map, hg0, hk, hpl, hc1, hc2, hs1, hx, Int.toNat_natCast, decide_false, decide_true]
              · have hc9 : ¬ ((i : Nat) : Int) < ((l.length : Nat) : Int) := by omega
                have hfd := find_none (l := l) (s := s) fun k hk => hg k (by omega)
                refine seq_k fun N34 M34 hN34 hM34 => ?_
                refine region_k fun K35 hK35 => ?_
                simp only [go_sem, hf, decide_false, decide_true, Bool.not_true, Bool.not_false, hc9]
                all_goals repeat' (first | apply And.intro | intro _)
                all_goals
                  refine hK35 _ ?_
                  refine hN34 _ ?_
                  refine seq_k fun N36 M36 hN36 hM36 => ?_
                  refine cond_k rfl (fun hc => ?_) (fun hc => ?_)
                  · exfalso; revert hc; simp [go_sem, hf, decide_false, decide_true, Bool.not_true, Bool.not_false, hc9]
                  · try simp only [go_sem, hf, decide_false, decide_true, Bool.not_true, Bool.not_false, hc9] at hc
                    all_goals
                      refine exit_k ?_
                      refine hM36 _ _ ?_
                      refine hM12 _ _ ?_
                      refine bx11 _ ?_
                      refine hN8 _ ?_
                      refine seq_k fun N37 M37 hN37 hM37 => ?_
                      refine region_k fun K38 hK38 => ?_
                      simp only [go_sem, hf, decide_false, decide_true, Bool.not_true, Bool.not_false, hc9]
                      all_goals repeat' (first | apply And.intro | intro _)
                      all_goals
                        refine hK38 _ ?_
                        refine hN37 _ ?_
                        refine ret_k ?_
                        simp only [go_sem, hf, decide_false, decide_true, Bool.not_true, Bool.not_false, hc9]
                        all_goals (rw [findP_none hf hfd]; rfl)
theorem pins_find (l : List PinD) (hl : ∀ p ∈ l, p.ok) (ex : Bool) (s : List UInt8) : Ct Try.prog 24 [.w (.one (.pl (.R ex 34 (pinRows l)))), .w (.one (.pl (.str s)))] (fun v m => v = pinV (findP l s)) := by
  by_cases hf : pinsFault l = 0
  · cases hx : hasP l s with
    | true => exact pins_find_yes l hl ex s hf hx
    | false => exact pins_find_no l hl ex s hf hx
  · exact pins_find_bad l hl ex s hf
theorem pin_of (l : List PinD) (hl : ∀ p ∈ l, p.ok) (ex : Bool) (s : List UInt8) : Ct Try.prog 26 [.w (.one (.pl (.R ex 34 (pinRows l)))), .w (.one (.pl (.str s)))] (fun v m => v = pinV (findP l s)) := by
  by_cases hf : pinsFault l = 0
  · exact pin_of_ok l hl ex s hf
  · exact pin_of_bad l hl ex s hf
theorem kinds_pin2 {p : PinD} (h : p.key.length = 32) : (.pl (.str p.name) :: (bytesC p.key ++ [.pl (.b p.gone)]) : List L).map kindL = ((.s :: (List.replicate 32 (.int .u8) ++ [.b]) : List Kd)).map some := by
  simp only [List.map_cons, List.map_append, kinds_bytes h, List.map_replicate, List.map_nil]
  rfl
theorem pin_self {p : PinD} (h : p.key.length = 32) : aggEq Try.prog 47 (.pl (.str p.name) :: (bytesC p.key ++ [.pl (.b p.gone)])) (.pl (.str p.name) :: (bytesC p.key ++ [.pl (.b p.gone)])) = some true := by
  rw [ae47 (kinds_pin2 h) (kinds_pin2 h), eqC_cons, eqC_seg rfl, eqC_cons, eqC_nil, eqL_str, eqL_b]; simp
set_option maxHeartbeats 400000 in
theorem pins_finds (l : List PinD) (hl : ∀ p ∈ l, p.ok) (ex : Bool) (s : List UInt8) :
    Ct Try.prog 7 [.w (.one (.pl (.R ex 34 (pinRows l)))), .w (.one (.pl (.str s)))] (fun v m => v = .w (.one (.pl (.b true)))) := by
  have hk := (find_ok hl s).1
  have hsf := pin_self hk
  refine Ct.k Try.func7 rfl Try.ntmps7 (congrArg Array.toList Try.results7) (by simp) fun w0 ro => ?_
  refine seq_k fun N1 M1 hN1 hM1 => ?_
  refine region_k fun K2 hK2 => ?_
  simp only [go_sem, pinV, hk, hsf, decide_true]
  all_goals repeat' (first | apply And.intro | intro _)
  all_goals
    refine hK2 _ ?_
    refine hN1 _ ?_
    refine seq_k fun N3 M3 hN3 hM3 => ?_
    refine region_k fun K4 hK4 => ?_
    simp only [go_sem, pinV, hk, hsf, decide_true]
    all_goals repeat' (first | apply And.intro | intro _)
    all_goals refine call_view (fun k => k) (fun _ _ => rfl) (by first | rfl | (simp only [go_sem, pinV, hk, hsf, decide_true]; rfl) | simp only [go_sem, pinV, hk, hsf, decide_true]) ((pins_check l hl ex).plain fun _ _ h => h) ?_
    all_goals (rintro v m ⟨hR, hm⟩; subst hR; subst hm)
    all_goals refine And.intro (by first | rfl | simp only [go_sem, pinV, hk, hsf, decide_true]) (And.intro (by first | rfl | simp only [go_sem, pinV, hk, hsf, decide_true]) ?_)
    all_goals simp only [go_sem, pinV, hk, hsf, decide_true]
    all_goals repeat' (first | apply And.intro | intro _)
    all_goals
      refine hK4 _ ?_
      refine hN3 _ ?_
      refine seq_k fun N5 M5 hN5 hM5 => ?_
      refine region_k fun K6 hK6 => ?_
      simp only [go_sem, pinV, hk, hsf, decide_true]
      all_goals repeat' (first | apply And.intro | intro _)
      all_goals refine call_view (fun k => k) (fun _ _ => rfl) (by first | rfl | (simp only [go_sem, pinV, hk, hsf, decide_true]; rfl) | simp only [go_sem, pinV, hk, hsf, decide_true]) ((pins_find l hl ex s).plain fun _ _ h => h) ?_
      all_goals (rintro v m ⟨hR, hm⟩; subst hR; subst hm)
      all_goals refine And.intro (by first | rfl | simp only [go_sem, pinV, hk, hsf, decide_true]) (And.intro (by first | rfl | simp only [go_sem, pinV, hk, hsf, decide_true]) ?_)
      all_goals simp only [go_sem, pinV, hk, hsf, decide_true]
      all_goals repeat' (first | apply And.intro | intro _)
      all_goals
        refine hK6 _ ?_
        refine hN5 _ ?_
        refine seq_k fun N7 M7 hN7 hM7 => ?_
        refine region_k fun K8 hK8 => ?_
        simp only [go_sem, pinV, hk, hsf, decide_true]
        all_goals repeat' (first | apply And.intro | intro _)
        all_goals refine call_view (fun k => k) (fun _ _ => rfl) (by first | rfl | (simp only [go_sem, pinV, hk, hsf, decide_true]; rfl) | simp only [go_sem, pinV, hk, hsf, decide_true]) ((pins_fault l hl ex).plain fun _ _ h => h) ?_
        all_goals (rintro v m ⟨hR, hm⟩; subst hR; subst hm)
        all_goals refine And.intro (by first | rfl | simp only [go_sem, pinV, hk, hsf, decide_true]) (And.intro (by first | rfl | simp only [go_sem, pinV, hk, hsf, decide_true]) ?_)
        all_goals simp only [go_sem, pinV, hk, hsf, decide_true]
        all_goals repeat' (first | apply And.intro | intro _)
        all_goals
          refine hK8 _ ?_
          refine hN7 _ ?_
          refine seq_k fun N9 M9 hN9 hM9 => ?_
          refine region_k fun K10 hK10 => ?_
          simp only [go_sem, pinV, hk, hsf, decide_true]
          all_goals repeat' (first | apply And.intro | intro _)
          all_goals refine call_view (fun k => k) (fun _ _ => rfl) (by first | rfl | (simp only [go_sem, pinV, hk, hsf, decide_true]; rfl) | simp only [go_sem, pinV, hk, hsf, decide_true]) ((pin_of l hl ex s).plain fun _ _ h => h) ?_
          all_goals (rintro v m ⟨hR, hm⟩; subst hR; subst hm)
          all_goals refine And.intro (by first | rfl | simp only [go_sem, pinV, hk, hsf, decide_true]) (And.intro (by first | rfl | simp only [go_sem, pinV, hk, hsf, decide_true]) ?_)
          all_goals simp only [go_sem, pinV, hk, hsf, decide_true]
          all_goals repeat' (first | apply And.intro | intro _)
          all_goals
            refine hK10 _ ?_
            refine hN9 _ ?_
            refine seq_k fun N11 M11 hN11 hM11 => ?_
            refine region_k fun K12 hK12 => ?_
            simp only [go_sem, pinV, hk, hsf, decide_true]
            all_goals repeat' (first | apply And.intro | intro _)
            all_goals
              refine hK12 _ ?_
              refine hN11 _ ?_
              refine ret_k ?_
              simp only [go_sem, pinV, hk, hsf, decide_true]
              all_goals (first | rfl | simp)
end Go.Sy
