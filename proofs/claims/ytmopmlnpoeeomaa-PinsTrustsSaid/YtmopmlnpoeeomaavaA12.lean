/- Walks: a pin that is trusted; the document's answer; their law. -/
import Derived.Test.YtmopmlnpoeeomaavaA11
import Derived.Test.YtmopmlnpoeeomaavaA13
set_option linter.unusedVariables false
set_option linter.unusedSimpArgs false
namespace Go.Sy
open Go.Proofs
attribute [local irreducible] atCall HT runOps runD onC onE onO onG goV goA goS onSt onGuard
theorem leavesIn_seg (vw : Bool) (S : St) (hd : Hand) (r : List L) : ∀ l : List UInt8, leavesIn vw S hd (bytesC l ++ r) = (leavesIn vw S hd r).map (bytesC l ++ ·)
  | [] => by simp [bytesC]
  | x :: l => by
    have ih := leavesIn_seg vw S hd r l
    simp only [bytesC] at ih
    simp only [bytesC, List.map_cons, List.cons_append, leavesIn, leafIn, ih]
    cases leavesIn vw S hd r <;> rfl
theorem leavesIn_bytes (vw : Bool) (S : St) (hd : Hand) (l : List UInt8) : leavesIn vw S hd (bytesC l) = some (bytesC l) := by
  have := leavesIn_seg vw S hd [] l
  simpa [leavesIn] using this
theorem leafOut_bytes (vw : Bool) (m : List (Nat × Ob)) (l : List UInt8) : (bytesC l).all (leafOut vw m) = true := by
  simp only [bytesC, List.all_eq_true, List.mem_map]
  rintro x ⟨y, _, rfl⟩
  simp [leafOut, strictL]
attribute [go_sem] leavesIn_seg leavesIn_bytes leafOut_bytes
def trustP (l : List PinD) (s k : List UInt8) : Int × List PinD := if pinsFault l = 0 then (if nameOk s = true then (match l.find? (fun p => decide (p.name = s)) with
  | some p => if p.gone = true ∨ p.key ≠ k then (13, []) else (0, l)
  | none => if l.length = 8 then (8, []) else (0, pinnedF l ⟨s, k, false⟩)) else (3, [])) else (pinsFault l, [])
section
variable {l : List PinD} {s k : List UInt8} {p : PinD}
theorem trust_bad (h : ¬ pinsFault l = 0) : trustP l s k = (pinsFault l, []) := if_neg h
theorem trust_name (h : pinsFault l = 0) (hn : nameOk s = false) : trustP l s k = (3, []) := by unfold trustP; rw [if_pos h, hn, if_neg (by simp)]
theorem trust_pin (h : pinsFault l = 0) (hn : nameOk s = true) (hf : l.find? (fun p => decide (p.name = s)) = some p) (hg : p.gone = true ∨ p.key ≠ k) : trustP l s k = (13, []) := by
  unfold trustP; rw [if_pos h, if_pos hn, hf]; exact if_pos hg
theorem trust_same (h : pinsFault l = 0) (hn : nameOk s = true) (hf : l.find? (fun p => decide (p.name = s)) = some p) (hg : p.gone = false) (hk : p.key = k) : trustP l s k = (0, l) := by
  unfold trustP; rw [if_pos h, if_pos hn, hf]; exact if_neg (by simp [hg, hk])
theorem trust_full (h : pinsFault l = 0) (hn : nameOk s = true) (hf : l.find? (fun p => decide (p.name = s)) = none) (h8 : l.length = 8) : trustP l s k = (8, []) := by
  unfold trustP; rw [if_pos h, if_pos hn, hf]; exact if_pos h8
theorem trust_in (h : pinsFault l = 0) (hn : nameOk s = true) (hf : l.find? (fun p => decide (p.name = s)) = none) (h8 : ¬ l.length = 8) : trustP l s k = (0, pinnedF l ⟨s, k, false⟩) := by
  unfold trustP; rw [if_pos h, if_pos hn, hf]; exact if_neg h8
theorem pinned_ins {q : PinD} (h : hasP l q.name = false) : pinnedF l q = l.take (idxP l q.name) ++ (q :: l.drop (idxP l q.name)) := by
  unfold pinnedF; rw [h]; rfl
theorem has_ok (h : pinsFault l = 0) (hx : hasP l s = true) : nameOk s = true := by
  obtain ⟨p, hp, hn, hlt, hfd⟩ := find_has (srt_of h) hx
  have := good_name hp ((pinsFault_zero h).2 _ hlt)
  rwa [hn] at this
theorem fault_vals (l : List PinD) (h : ¬ pinsFault l = 0) : ¬ pinsFault l = 5 := by
  unfold pinsFault
  split
  · decide
  · split
    · decide
    · decide
theorem key_eq {a b : List UInt8} (h : a.length = 32) (h2 : b.length = 32) : aggEq Try.prog 23 (bytesC a) (bytesC b) = some (decide (a = b)) := by
  rw [ae23 (kinds_bytes h) (kinds_bytes h2), eqC_bytes (by omega)]
theorem trust_sound (hl : ∀ p ∈ l, p.ok) (hk : k.length = 32) (hsl : s.length ≤ 9223372036854775807) : (∀ p ∈ (trustP l s k).2, p.ok) ∧ (trustP l s k).2.length ≤ 9223372036854775807 := by
  by_cases h : pinsFault l = 0
  · have h8 := (pinsFault_zero h).1
    unfold trustP
    rw [if_pos h]
    split
    · split
      · split
        · exact ⟨fun p hp => (by cases hp), by simp⟩
        · exact ⟨hl, by simp only; omega⟩
      · split
        · exact ⟨fun p hp => (by cases hp), by simp⟩
        · refine ⟨pinnedF_ok hl ⟨hk, hsl⟩, ?_⟩
          simp only [pinnedF, List.length_append, List.length_cons, List.length_take, List.length_drop]; omega
    · exact ⟨fun p hp => (by cases hp), by simp⟩
  · rw [trust_bad h]; exact ⟨fun p hp => (by cases hp), by simp⟩
end
set_option maxHeartbeats 800000 in
theorem trust_bad_ (l : List PinD) (hl : ∀ p ∈ l, p.ok) (ex : Bool) (s : List UInt8) (hsl : s.length ≤ 9223372036854775807) (k : List UInt8) (hkk : k.length = 32) (hf : ¬ pinsFault l = 0) :
    Ct Try.prog 30 [.w (.one (.pl (.R ex 34 (pinRows l)))), .w (.one (.pl (.str s))), .w (.agg (bytesC k))] (Told (pinsV (trustP l s k).2 (trustP l s k).1)) := by
  refine Ct.k Try.func30 rfl Try.ntmps30 (congrArg Array.toList Try.results30) (by simp) fun w0 ro => ?_
  refine seq_k fun N1 M1 hN1 hM1 => ?_
  refine region_k fun K2 hK2 => ?_
  simp only [go_sem, hkk, decide_false, decide_true, Bool.not_true, Bool.not_false, List.length_map, hf]
  all_goals repeat' (first | apply And.intro | intro _)
  all_goals
    refine hK2 _ ?_
    refine hN1 _ ?_
    refine seq_k fun N3 M3 hN3 hM3 => ?_
    refine seq_k fun N4 M4 hN4 hM4 => ?_
    refine region_k fun K5 hK5 => ?_
    simp only [go_sem, hkk, decide_false, decide_true, Bool.not_true, Bool.not_false, List.length_map, hf]
    all_goals repeat' (first | apply And.intro | intro _)
    all_goals refine call_view (fun k => k) (fun _ _ => rfl) (by first | rfl | (simp only [go_sem, hkk, decide_false, decide_true, Bool.not_true, Bool.not_false, List.length_map, hf]; rfl) | simp only [go_sem, hkk, decide_false, decide_true, Bool.not_true, Bool.not_false, List.length_map, hf]) ((pins_check l hl ex).plain fun _ _ h => h) ?_
    all_goals (rintro v m ⟨hR, hm⟩; subst hR; subst hm)
    all_goals refine And.intro (by first | rfl | simp only [go_sem, hkk, decide_false, decide_true, Bool.not_true, Bool.not_false, List.length_map, hf]) (And.intro (by first | rfl | simp only [go_sem, hkk, decide_false, decide_true, Bool.not_true, Bool.not_false, List.length_map, hf]) ?_)
    all_goals simp only [go_sem, hkk, decide_false, decide_true, Bool.not_true, Bool.not_false, List.length_map, hf]
    all_goals repeat' (first | apply And.intro | intro _)
    all_goals
      refine hK5 _ ?_
      refine hN4 _ ?_
      refine seq_k fun N6 M6 hN6 hM6 => ?_
      refine region_k fun K7 hK7 => ?_
      simp only [go_sem, hkk, decide_false, decide_true, Bool.not_true, Bool.not_false, List.length_map, hf]
      all_goals repeat' (first | apply And.intro | intro _)
      all_goals
        refine hK7 _ ?_
        refine hN6 _ ?_
        refine cond_k rfl (fun hc => ?_) (fun hc => ?_)
        · try simp only [go_sem, hkk, decide_false, decide_true, Bool.not_true, Bool.not_false, List.length_map, hf] at hc
          all_goals
            refine seq_k fun N8 M8 hN8 hM8 => ?_
            refine region_k fun K9 hK9 => ?_
            simp only [go_sem, hkk, decide_false, decide_true, Bool.not_true, Bool.not_false, List.length_map, hf]
            all_goals repeat' (first | apply And.intro | intro _)
            all_goals
              refine hK9 _ ?_
              refine hN8 _ ?_
              refine ret_k ?_
              refine hM3 _ _ ?_
              simp only [go_sem, hkk, decide_false, decide_true, Bool.not_true, Bool.not_false, List.length_map, hf]
              all_goals (rw [trust_bad hf]; exact pins_nil)
        · exfalso; revert hc; simp [go_sem, hkk, decide_false, decide_true, Bool.not_true, Bool.not_false, List.length_map, hf]
set_option maxHeartbeats 800000 in
theorem trust_name_ (l : List PinD) (hl : ∀ p ∈ l, p.ok) (ex : Bool) (s : List UInt8) (hsl : s.length ≤ 9223372036854775807) (k : List UInt8) (hkk : k.length = 32) (hf : pinsFault l = 0) (hno : nameOk s = false) :
    Ct Try.prog 30 [.w (.one (.pl (.R ex 34 (pinRows l)))), .w (.one (.pl (.str s))), .w (.agg (bytesC k))] (Told (pinsV (trustP l s k).2 (trustP l s k).1)) := by
  refine Ct.k Try.func30 rfl Try.ntmps30 (congrArg Array.toList Try.results30) (by simp) fun w0 ro => ?_
  refine seq_k fun N1 M1 hN1 hM1 => ?_
  refine region_k fun K2 hK2 => ?_
  simp only [go_sem, hkk, decide_false, decide_true, Bool.not_true, Bool.not_false, List.length_map, hf, hno]
  all_goals repeat' (first | apply And.intro | intro _)
  all_goals
    refine hK2 _ ?_
    refine hN1 _ ?_
    refine seq_k fun N3 M3 hN3 hM3 => ?_
    refine seq_k fun N4 M4 hN4 hM4 => ?_
    refine region_k fun K5 hK5 => ?_
    simp only [go_sem, hkk, decide_false, decide_true, Bool.not_true, Bool.not_false, List.length_map, hf, hno]
    all_goals repeat' (first | apply And.intro | intro _)
    all_goals refine call_view (fun k => k) (fun _ _ => rfl) (by first | rfl | (simp only [go_sem, hkk, decide_false, decide_true, Bool.not_true, Bool.not_false, List.length_map, hf, hno]; rfl) | simp only [go_sem, hkk, decide_false, decide_true, Bool.not_true, Bool.not_false, List.length_map, hf, hno]) ((pins_check l hl ex).plain fun _ _ h => h) ?_
    all_goals (rintro v m ⟨hR, hm⟩; subst hR; subst hm)
    all_goals refine And.intro (by first | rfl | simp only [go_sem, hkk, decide_false, decide_true, Bool.not_true, Bool.not_false, List.length_map, hf, hno]) (And.intro (by first | rfl | simp only [go_sem, hkk, decide_false, decide_true, Bool.not_true, Bool.not_false, List.length_map, hf, hno]) ?_)
    all_goals simp only [go_sem, hkk, decide_false, decide_true, Bool.not_true, Bool.not_false, List.length_map, hf, hno]
    all_goals repeat' (first | apply And.intro | intro _)
    all_goals
      refine hK5 _ ?_
      refine hN4 _ ?_
      refine seq_k fun N6 M6 hN6 hM6 => ?_
      refine region_k fun K7 hK7 => ?_
      simp only [go_sem, hkk, decide_false, decide_true, Bool.not_true, Bool.not_false, List.length_map, hf, hno]
      all_goals repeat' (first | apply And.intro | intro _)
      all_goals
        refine hK7 _ ?_
        refine hN6 _ ?_
        refine cond_k rfl (fun hc => ?_) (fun hc => ?_)
        · exfalso; revert hc; simp [go_sem, hkk, decide_false, decide_true, Bool.not_true, Bool.not_false, List.length_map, hf, hno]
        · try simp only [go_sem, hkk, decide_false, decide_true, Bool.not_true, Bool.not_false, List.length_map, hf, hno] at hc
          all_goals
            refine skip_k ?_
            refine hN3 _ ?_
            refine seq_k fun N8 M8 hN8 hM8 => ?_
            refine seq_k fun N9 M9 hN9 hM9 => ?_
            refine region_k fun K10 hK10 => ?_
            simp only [go_sem, hkk, decide_false, decide_true, Bool.not_true, Bool.not_false, List.length_map, hf, hno]
            all_goals repeat' (first | apply And.intro | intro _)
            all_goals refine call_view (fun k => k) (fun _ _ => rfl) (by first | rfl | (simp only [go_sem, hkk, decide_false, decide_true, Bool.not_true, Bool.not_false, List.length_map, hf, hno]; rfl) | simp only [go_sem, hkk, decide_false, decide_true, Bool.not_true, Bool.not_false, List.length_map, hf, hno]) ((name_ s).plain fun _ _ h => h) ?_
            all_goals (rintro v m ⟨hR, hm⟩; subst hR; subst hm)
            all_goals refine And.intro (by first | rfl | simp only [go_sem, hkk, decide_false, decide_true, Bool.not_true, Bool.not_false, List.length_map, hf, hno]) (And.intro (by first | rfl | simp only [go_sem, hkk, decide_false, decide_true, Bool.not_true, Bool.not_false, List.length_map, hf, hno]) ?_)
            all_goals simp only [go_sem, hkk, decide_false, decide_true, Bool.not_true, Bool.not_false, List.length_map, hf, hno]
            all_goals repeat' (first | apply And.intro | intro _)
            all_goals
              refine hK10 _ ?_
              refine hN9 _ ?_
              refine cond_k rfl (fun hc => ?_) (fun hc => ?_)
              · try simp only [go_sem, hkk, decide_false, decide_true, Bool.not_true, Bool.not_false, List.length_map, hf, hno] at hc
                all_goals
                  refine seq_k fun N11 M11 hN11 hM11 => ?_
                  refine region_k fun K12 hK12 => ?_
                  simp only [go_sem, hkk, decide_false, decide_true, Bool.not_true, Bool.not_false, List.length_map, hf, hno]
                  all_goals repeat' (first | apply And.intro | intro _)
                  all_goals
                    refine hK12 _ ?_
                    refine hN11 _ ?_
                    refine ret_k ?_
                    refine hM8 _ _ ?_
                    simp only [go_sem, hkk, decide_false, decide_true, Bool.not_true, Bool.not_false, List.length_map, hf, hno]
                    all_goals (rw [trust_name hf hno]; exact pins_nil)
              · exfalso; revert hc; simp [go_sem, hkk, decide_false, decide_true, Bool.not_true, Bool.not_false, List.length_map, hf, hno]
set_option maxHeartbeats 800000 in
theorem trust_gone_ (l : List PinD) (hl : ∀ p ∈ l, p.ok) (ex : Bool) (s : List UInt8) (hsl : s.length ≤ 9223372036854775807) (k : List UInt8) (hkk : k.length = 32) (hf : pinsFault l = 0) (hx : hasP l s = true) (hpg : ∀ p, l[idxP l s]? = some p → p.gone = true) :
    Ct Try.prog 30 [.w (.one (.pl (.R ex 34 (pinRows l)))), .w (.one (.pl (.str s))), .w (.agg (bytesC k))] (Told (pinsV (trustP l s k).2 (trustP l s k).1)) := by
  obtain ⟨p, hp, hn, hlt, hfd⟩ := find_has (srt_of hf) hx
  have hno := has_ok hf hx
  have h8 := (pinsFault_zero hf).1
  have hg0 := pinRows_get hp
  have hk := (hl p (List.mem_of_getElem? hp)).1
  have hpl := pinC_length hk
  have hke := key_eq hk hkk
  have hc1 : ((idxP l s : Nat) : Int) < ((l.length : Nat) : Int) := by omega
  have hc2 : (0 : Int) ≤ ((idxP l s : Nat) : Int) := by omega
  have hg := hpg p hp
  refine Ct.k Try.func30 rfl Try.ntmps30 (congrArg Array.toList Try.results30) (by simp) fun w0 ro => ?_
  refine seq_k fun N1 M1 hN1 hM1 => ?_
  refine region_k fun K2 hK2 => ?_
  simp only [go_sem, hkk, decide_false, decide_true, Bool.not_true, Bool.not_false, List.length_map, hf, hno, hx, hg0, hk, hpl, hke, hc1, hc2, Int.toNat_natCast, hg]
  all_goals repeat' (first | apply And.intro | intro _)
  all_goals
    refine hK2 _ ?_
    refine hN1 _ ?_
    refine seq_k fun N3 M3 hN3 hM3 => ?_
    refine seq_k fun N4 M4 hN4 hM4 => ?_
    refine region_k fun K5 hK5 => ?_
    simp only [go_sem, hkk, decide_false, decide_true, Bool.not_true, Bool.not_false, List.length_map, hf, hno, hx, hg0, hk, hpl, hke, hc1, hc2, Int.toNat_natCast, hg]
    all_goals repeat' (first | apply And.intro | intro _)
    all_goals refine call_view (fun k => k) (fun _ _ => rfl) (by first | rfl | (simp only [go_sem, hkk, decide_false, decide_true, Bool.not_true, Bool.not_false, List.length_map, hf, hno, hx, hg0, hk, hpl, hke, hc1, hc2, Int.toNat_natCast, hg]; rfl) | simp only [go_sem, hkk, decide_false, decide_true, Bool.not_true, Bool.not_false, List.length_map, hf, hno, hx, hg0, hk, hpl, hke, hc1, hc2, Int.toNat_natCast, hg]) ((pins_check l hl ex).plain fun _ _ h => h) ?_
    all_goals (rintro v m ⟨hR, hm⟩; subst hR; subst hm)
    all_goals refine And.intro (by first | rfl | simp only [go_sem, hkk, decide_false, decide_true, Bool.not_true, Bool.not_false, List.length_map, hf, hno, hx, hg0, hk, hpl, hke, hc1, hc2, Int.toNat_natCast, hg]) (And.intro (by first | rfl | simp only [go_sem, hkk, decide_false, decide_true, Bool.not_true, Bool.not_false, List.length_map, hf, hno, hx, hg0, hk, hpl, hke, hc1, hc2, Int.toNat_natCast, hg]) ?_)
    all_goals simp only [go_sem, hkk, decide_false, decide_true, Bool.not_true, Bool.not_false, List.length_map, hf, hno, hx, hg0, hk, hpl, hke, hc1, hc2, Int.toNat_natCast, hg]
    all_goals repeat' (first | apply And.intro | intro _)
    all_goals
      refine hK5 _ ?_
      refine hN4 _ ?_
      refine seq_k fun N6 M6 hN6 hM6 => ?_
      refine region_k fun K7 hK7 => ?_
      simp only [go_sem, hkk, decide_false, decide_true, Bool.not_true, Bool.not_false, List.length_map, hf, hno, hx, hg0, hk, hpl, hke, hc1, hc2, Int.toNat_natCast, hg]
      all_goals repeat' (first | apply And.intro | intro _)
      all_goals
        refine hK7 _ ?_
        refine hN6 _ ?_
        refine cond_k rfl (fun hc => ?_) (fun hc => ?_)
        · exfalso; revert hc; simp [go_sem, hkk, decide_false, decide_true, Bool.not_true, Bool.not_false, List.length_map, hf, hno, hx, hg0, hk, hpl, hke, hc1, hc2, Int.toNat_natCast, hg]
        · try simp only [go_sem, hkk, decide_false, decide_true, Bool.not_true, Bool.not_false, List.length_map, hf, hno, hx, hg0, hk, hpl, hke, hc1, hc2, Int.toNat_natCast, hg] at hc
          all_goals
            refine skip_k ?_
            refine hN3 _ ?_
            refine seq_k fun N8 M8 hN8 hM8 => ?_
            refine seq_k fun N9 M9 hN9 hM9 => ?_
            refine region_k fun K10 hK10 => ?_
            simp only [go_sem, hkk, decide_false, decide_true, Bool.not_true, Bool.not_false, List.length_map, hf, hno, hx, hg0, hk, hpl, hke, hc1, hc2, Int.toNat_natCast, hg]
            all_goals repeat' (first | apply And.intro | intro _)
            all_goals refine call_view (fun k => k) (fun _ _ => rfl) (by first | rfl | (simp only [go_sem, hkk, decide_false, decide_true, Bool.not_true, Bool.not_false, List.length_map, hf, hno, hx, hg0, hk, hpl, hke, hc1, hc2, Int.toNat_natCast, hg]; rfl) | simp only [go_sem, hkk, decide_false, decide_true, Bool.not_true, Bool.not_false, List.length_map, hf, hno, hx, hg0, hk, hpl, hke, hc1, hc2, Int.toNat_natCast, hg]) ((name_ s).plain fun _ _ h => h) ?_
            all_goals (rintro v m ⟨hR, hm⟩; subst hR; subst hm)
            all_goals refine And.intro (by first | rfl | simp only [go_sem, hkk, decide_false, decide_true, Bool.not_true, Bool.not_false, List.length_map, hf, hno, hx, hg0, hk, hpl, hke, hc1, hc2, Int.toNat_natCast, hg]) (And.intro (by first | rfl | simp only [go_sem, hkk, decide_false, decide_true, Bool.not_true, Bool.not_false, List.length_map, hf, hno, hx, hg0, hk, hpl, hke, hc1, hc2, Int.toNat_natCast, hg]) ?_)
            all_goals simp only [go_sem, hkk, decide_false, decide_true, Bool.not_true, Bool.not_false, List.length_map, hf, hno, hx, hg0, hk, hpl, hke, hc1, hc2, Int.toNat_natCast, hg]
            all_goals repeat' (first | apply And.intro | intro _)
            all_goals
              refine hK10 _ ?_
              refine hN9 _ ?_
              refine cond_k rfl (fun hc => ?_) (fun hc => ?_)
              · exfalso; revert hc; simp [go_sem, hkk, decide_false, decide_true, Bool.not_true, Bool.not_false, List.length_map, hf, hno, hx, hg0, hk, hpl, hke, hc1, hc2, Int.toNat_natCast, hg]
              · try simp only [go_sem, hkk, decide_false, decide_true, Bool.not_true, Bool.not_false, List.length_map, hf, hno, hx, hg0, hk, hpl, hke, hc1, hc2, Int.toNat_natCast, hg] at hc
                all_goals
                  refine skip_k ?_
                  refine hN8 _ ?_
                  refine seq_k fun N11 M11 hN11 hM11 => ?_
                  refine region_k fun K12 hK12 => ?_
                  simp only [go_sem, hkk, decide_false, decide_true, Bool.not_true, Bool.not_false, List.length_map, hf, hno, hx, hg0, hk, hpl, hke, hc1, hc2, Int.toNat_natCast, hg]
                  all_goals repeat' (first | apply And.intro | intro _)
                  all_goals refine call_view (fun k => k) (fun _ _ => rfl) (by first | rfl | (simp only [go_sem, hkk, decide_false, decide_true, Bool.not_true, Bool.not_false, List.length_map, hf, hno, hx, hg0, hk, hpl, hke, hc1, hc2, Int.toNat_natCast, hg]; rfl) | simp only [go_sem, hkk, decide_false, decide_true, Bool.not_true, Bool.not_false, List.length_map, hf, hno, hx, hg0, hk, hpl, hke, hc1, hc2, Int.toNat_natCast, hg]) ((find_ l hl ex s (srt_of hf)).plain fun _ _ h => h) ?_
                  all_goals (rintro v m ⟨hR, hm⟩; subst hR; subst hm)
                  all_goals refine And.intro (by first | rfl | simp only [go_sem, hkk, decide_false, decide_true, Bool.not_true, Bool.not_false, List.length_map, hf, hno, hx, hg0, hk, hpl, hke, hc1, hc2, Int.toNat_natCast, hg]) (And.intro (by first | rfl | simp only [go_sem, hkk, decide_false, decide_true, Bool.not_true, Bool.not_false, List.length_map, hf, hno, hx, hg0, hk, hpl, hke, hc1, hc2, Int.toNat_natCast, hg]) ?_)
                  all_goals simp only [go_sem, hkk, decide_false, decide_true, Bool.not_true, Bool.not_false, List.length_map, hf, hno, hx, hg0, hk, hpl, hke, hc1, hc2, Int.toNat_natCast, hg]
                  all_goals repeat' (first | apply And.intro | intro _)
                  all_goals
                    refine hK12 _ ?_
                    refine hN11 _ ?_
                    refine seq_k fun N13 M13 hN13 hM13 => ?_
                    refine block_k fun B14 bn14 bx14 br14 bi14 => ?_
                    refine seq_k fun N15 M15 hN15 hM15 => ?_
                    refine draw_k [27, 28, 29, 30, 31, 32, 33, 34, 35, 36, 37, 38, 39, 40, 41, 42, 43, 26] [0, 1, 3, 3, 15, 31, 63, 127, 255, 255, 1023, 2047, 4095, 255, 16383, 32767, 65535, 131071] [] mixed (by kernel_rfl) (by simp only [go_sem]) fun K16 hK16 => ?_
                    simp only [go_sem, hkk, decide_false, decide_true, Bool.not_true, Bool.not_false, List.length_map, hf, hno, hx, hg0, hk, hpl, hke, hc1, hc2, Int.toNat_natCast, hg]
                    all_goals repeat' (first | apply And.intro | intro _)
                    all_goals
                      refine hK16 _ _ ?_ ?_
                      · first | trivial | (simp only [go_sem]; done) | (simp only [go_sem]; simp; done) | (simp only [go_sem]; simp; simp only [go_sem])
                      refine hN15 _ ?_
                      refine cond_k rfl (fun hc => ?_) (fun hc => ?_)
                      · try simp only [go_sem, hkk, decide_false, decide_true, Bool.not_true, Bool.not_false, List.length_map, hf, hno, hx, hg0, hk, hpl, hke, hc1, hc2, Int.toNat_natCast, hg] at hc
                        all_goals
                          refine seq_k fun N17 M17 hN17 hM17 => ?_
                          refine region_k fun K18 hK18 => ?_
                          simp only [go_sem, hkk, decide_false, decide_true, Bool.not_true, Bool.not_false, List.length_map, hf, hno, hx, hg0, hk, hpl, hke, hc1, hc2, Int.toNat_natCast, hg]
                          all_goals repeat' (first | apply And.intro | intro _)
                          all_goals
                            refine hK18 _ ?_
                            refine hN17 _ ?_
                            refine ret_k ?_
                            refine br14 _ ?_
                            refine hM13 _ _ ?_
                            simp only [go_sem, hkk, decide_false, decide_true, Bool.not_true, Bool.not_false, List.length_map, hf, hno, hx, hg0, hk, hpl, hke, hc1, hc2, Int.toNat_natCast, hg]
                            all_goals (rw [trust_pin hf hno hfd (.inl hg)]; exact pins_nil)
                      · exfalso; revert hc; simp [go_sem, hkk, decide_false, decide_true, Bool.not_true, Bool.not_false, List.length_map, hf, hno, hx, hg0, hk, hpl, hke, hc1, hc2, Int.toNat_natCast, hg]
set_option maxHeartbeats 800000 in
theorem trust_key_ (l : List PinD) (hl : ∀ p ∈ l, p.ok) (ex : Bool) (s : List UInt8) (hsl : s.length ≤ 9223372036854775807) (k : List UInt8) (hkk : k.length = 32) (hf : pinsFault l = 0) (hx : hasP l s = true) (hpg : ∀ p, l[idxP l s]? = some p → p.gone = false) (hpk : ∀ p, l[idxP l s]? = some p → (p.key = k) = False) :
    Ct Try.prog 30 [.w (.one (.pl (.R ex 34 (pinRows l)))), .w (.one (.pl (.str s))), .w (.agg (bytesC k))] (Told (pinsV (trustP l s k).2 (trustP l s k).1)) := by
  obtain ⟨p, hp, hn, hlt, hfd⟩ := find_has (srt_of hf) hx
  have hno := has_ok hf hx
  have h8 := (pinsFault_zero hf).1
  have hg0 := pinRows_get hp
  have hk := (hl p (List.mem_of_getElem? hp)).1
  have hpl := pinC_length hk
  have hke := key_eq hk hkk
  have hc1 : ((idxP l s : Nat) : Int) < ((l.length : Nat) : Int) := by omega
  have hc2 : (0 : Int) ≤ ((idxP l s : Nat) : Int) := by omega
  have hg := hpg p hp
  have hkp := hpk p hp
  refine Ct.k Try.func30 rfl Try.ntmps30 (congrArg Array.toList Try.results30) (by simp) fun w0 ro => ?_
  refine seq_k fun N1 M1 hN1 hM1 => ?_
  refine region_k fun K2 hK2 => ?_
  simp only [go_sem, hkk, decide_false, decide_true, Bool.not_true, Bool.not_false, List.length_map, hf, hno, hx, hg0, hk, hpl, hke, hc1, hc2, Int.toNat_natCast, hg, hkp]
  all_goals repeat' (first | apply And.intro | intro _)
  all_goals
    refine hK2 _ ?_
    refine hN1 _ ?_
    refine seq_k fun N3 M3 hN3 hM3 => ?_
    refine seq_k fun N4 M4 hN4 hM4 => ?_
    refine region_k fun K5 hK5 => ?_
    simp only [go_sem, hkk, decide_false, decide_true, Bool.not_true, Bool.not_false, List.length_map, hf, hno, hx, hg0, hk, hpl, hke, hc1, hc2, Int.toNat_natCast, hg, hkp]
    all_goals repeat' (first | apply And.intro | intro _)
    all_goals refine call_view (fun k => k) (fun _ _ => rfl) (by first | rfl | (simp only [go_sem, hkk, decide_false, decide_true, Bool.not_true, Bool.not_false, List.length_map, hf, hno, hx, hg0, hk, hpl, hke, hc1, hc2, Int.toNat_natCast, hg, hkp]; rfl) | simp only [go_sem, hkk, decide_false, decide_true, Bool.not_true, Bool.not_false, List.length_map, hf, hno, hx, hg0, hk, hpl, hke, hc1, hc2, Int.toNat_natCast, hg, hkp]) ((pins_check l hl ex).plain fun _ _ h => h) ?_
    all_goals (rintro v m ⟨hR, hm⟩; subst hR; subst hm)
    all_goals refine And.intro (by first | rfl | simp only [go_sem, hkk, decide_false, decide_true, Bool.not_true, Bool.not_false, List.length_map, hf, hno, hx, hg0, hk, hpl, hke, hc1, hc2, Int.toNat_natCast, hg, hkp]) (And.intro (by first | rfl | simp only [go_sem, hkk, decide_false, decide_true, Bool.not_true, Bool.not_false, List.length_map, hf, hno, hx, hg0, hk, hpl, hke, hc1, hc2, Int.toNat_natCast, hg, hkp]) ?_)
    all_goals simp only [go_sem, hkk, decide_false, decide_true, Bool.not_true, Bool.not_false, List.length_map, hf, hno, hx, hg0, hk, hpl, hke, hc1, hc2, Int.toNat_natCast, hg, hkp]
    all_goals repeat' (first | apply And.intro | intro _)
    all_goals
      refine hK5 _ ?_
      refine hN4 _ ?_
      refine seq_k fun N6 M6 hN6 hM6 => ?_
      refine region_k fun K7 hK7 => ?_
      simp only [go_sem, hkk, decide_false, decide_true, Bool.not_true, Bool.not_false, List.length_map, hf, hno, hx, hg0, hk, hpl, hke, hc1, hc2, Int.toNat_natCast, hg, hkp]
      all_goals repeat' (first | apply And.intro | intro _)
      all_goals
        refine hK7 _ ?_
        refine hN6 _ ?_
        refine cond_k rfl (fun hc => ?_) (fun hc => ?_)
        · exfalso; revert hc; simp [go_sem, hkk, decide_false, decide_true, Bool.not_true, Bool.not_false, List.length_map, hf, hno, hx, hg0, hk, hpl, hke, hc1, hc2, Int.toNat_natCast, hg, hkp]
        · try simp only [go_sem, hkk, decide_false, decide_true, Bool.not_true, Bool.not_false, List.length_map, hf, hno, hx, hg0, hk, hpl, hke, hc1, hc2, Int.toNat_natCast, hg, hkp] at hc
          all_goals
            refine skip_k ?_
            refine hN3 _ ?_
            refine seq_k fun N8 M8 hN8 hM8 => ?_
            refine seq_k fun N9 M9 hN9 hM9 => ?_
            refine region_k fun K10 hK10 => ?_
            simp only [go_sem, hkk, decide_false, decide_true, Bool.not_true, Bool.not_false, List.length_map, hf, hno, hx, hg0, hk, hpl, hke, hc1, hc2, Int.toNat_natCast, hg, hkp]
            all_goals repeat' (first | apply And.intro | intro _)
            all_goals refine call_view (fun k => k) (fun _ _ => rfl) (by first | rfl | (simp only [go_sem, hkk, decide_false, decide_true, Bool.not_true, Bool.not_false, List.length_map, hf, hno, hx, hg0, hk, hpl, hke, hc1, hc2, Int.toNat_natCast, hg, hkp]; rfl) | simp only [go_sem, hkk, decide_false, decide_true, Bool.not_true, Bool.not_false, List.length_map, hf, hno, hx, hg0, hk, hpl, hke, hc1, hc2, Int.toNat_natCast, hg, hkp]) ((name_ s).plain fun _ _ h => h) ?_
            all_goals (rintro v m ⟨hR, hm⟩; subst hR; subst hm)
            all_goals refine And.intro (by first | rfl | simp only [go_sem, hkk, decide_false, decide_true, Bool.not_true, Bool.not_false, List.length_map, hf, hno, hx, hg0, hk, hpl, hke, hc1, hc2, Int.toNat_natCast, hg, hkp]) (And.intro (by first | rfl | simp only [go_sem, hkk, decide_false, decide_true, Bool.not_true, Bool.not_false, List.length_map, hf, hno, hx, hg0, hk, hpl, hke, hc1, hc2, Int.toNat_natCast, hg, hkp]) ?_)
            all_goals simp only [go_sem, hkk, decide_false, decide_true, Bool.not_true, Bool.not_false, List.length_map, hf, hno, hx, hg0, hk, hpl, hke, hc1, hc2, Int.toNat_natCast, hg, hkp]
            all_goals repeat' (first | apply And.intro | intro _)
            all_goals
              refine hK10 _ ?_
              refine hN9 _ ?_
              refine cond_k rfl (fun hc => ?_) (fun hc => ?_)
              · exfalso; revert hc; simp [go_sem, hkk, decide_false, decide_true, Bool.not_true, Bool.not_false, List.length_map, hf, hno, hx, hg0, hk, hpl, hke, hc1, hc2, Int.toNat_natCast, hg, hkp]
              · try simp only [go_sem, hkk, decide_false, decide_true, Bool.not_true, Bool.not_false, List.length_map, hf, hno, hx, hg0, hk, hpl, hke, hc1, hc2, Int.toNat_natCast, hg, hkp] at hc
                all_goals
                  refine skip_k ?_
                  refine hN8 _ ?_
                  refine seq_k fun N11 M11 hN11 hM11 => ?_
                  refine region_k fun K12 hK12 => ?_
                  simp only [go_sem, hkk, decide_false, decide_true, Bool.not_true, Bool.not_false, List.length_map, hf, hno, hx, hg0, hk, hpl, hke, hc1, hc2, Int.toNat_natCast, hg, hkp]
                  all_goals repeat' (first | apply And.intro | intro _)
                  all_goals refine call_view (fun k => k) (fun _ _ => rfl) (by first | rfl | (simp only [go_sem, hkk, decide_false, decide_true, Bool.not_true, Bool.not_false, List.length_map, hf, hno, hx, hg0, hk, hpl, hke, hc1, hc2, Int.toNat_natCast, hg, hkp]; rfl) | simp only [go_sem, hkk, decide_false, decide_true, Bool.not_true, Bool.not_false, List.length_map, hf, hno, hx, hg0, hk, hpl, hke, hc1, hc2, Int.toNat_natCast, hg, hkp]) ((find_ l hl ex s (srt_of hf)).plain fun _ _ h => h) ?_
                  all_goals (rintro v m ⟨hR, hm⟩; subst hR; subst hm)
                  all_goals refine And.intro (by first | rfl | simp only [go_sem, hkk, decide_false, decide_true, Bool.not_true, Bool.not_false, List.length_map, hf, hno, hx, hg0, hk, hpl, hke, hc1, hc2, Int.toNat_natCast, hg, hkp]) (And.intro (by first | rfl | simp only [go_sem, hkk, decide_false, decide_true, Bool.not_true, Bool.not_false, List.length_map, hf, hno, hx, hg0, hk, hpl, hke, hc1, hc2, Int.toNat_natCast, hg, hkp]) ?_)
                  all_goals simp only [go_sem, hkk, decide_false, decide_true, Bool.not_true, Bool.not_false, List.length_map, hf, hno, hx, hg0, hk, hpl, hke, hc1, hc2, Int.toNat_natCast, hg, hkp]
                  all_goals repeat' (first | apply And.intro | intro _)
                  all_goals
                    refine hK12 _ ?_
                    refine hN11 _ ?_
                    refine seq_k fun N13 M13 hN13 hM13 => ?_
                    refine block_k fun B14 bn14 bx14 br14 bi14 => ?_
                    refine seq_k fun N15 M15 hN15 hM15 => ?_
                    refine draw_k [27, 28, 29, 30, 31, 32, 33, 34, 35, 36, 37, 38, 39, 40, 41, 42, 43, 26] [0, 1, 3, 3, 15, 31, 63, 127, 255, 255, 1023, 2047, 4095, 255, 16383, 32767, 65535, 131071] [] mixed (by kernel_rfl) (by simp only [go_sem]) fun K16 hK16 => ?_
                    simp only [go_sem, hkk, decide_false, decide_true, Bool.not_true, Bool.not_false, List.length_map, hf, hno, hx, hg0, hk, hpl, hke, hc1, hc2, Int.toNat_natCast, hg, hkp]
                    all_goals repeat' (first | apply And.intro | intro _)
                    all_goals
                      refine hK16 _ _ ?_ ?_
                      · first | trivial | (simp only [go_sem]; done) | (simp only [go_sem]; simp; done) | (simp only [go_sem]; simp; simp only [go_sem])
                      refine hN15 _ ?_
                      refine cond_k rfl (fun hc => ?_) (fun hc => ?_)
                      · try simp only [go_sem, hkk, decide_false, decide_true, Bool.not_true, Bool.not_false, List.length_map, hf, hno, hx, hg0, hk, hpl, hke, hc1, hc2, Int.toNat_natCast, hg, hkp] at hc
                        all_goals
                          refine seq_k fun N17 M17 hN17 hM17 => ?_
                          refine region_k fun K18 hK18 => ?_
                          simp only [go_sem, hkk, decide_false, decide_true, Bool.not_true, Bool.not_false, List.length_map, hf, hno, hx, hg0, hk, hpl, hke, hc1, hc2, Int.toNat_natCast, hg, hkp]
                          all_goals repeat' (first | apply And.intro | intro _)
                          all_goals
                            refine hK18 _ ?_
                            refine hN17 _ ?_
                            refine ret_k ?_
                            refine br14 _ ?_
                            refine hM13 _ _ ?_
                            simp only [go_sem, hkk, decide_false, decide_true, Bool.not_true, Bool.not_false, List.length_map, hf, hno, hx, hg0, hk, hpl, hke, hc1, hc2, Int.toNat_natCast, hg, hkp]
                            all_goals (rw [trust_pin hf hno hfd (.inr (of_eq_false hkp))]; exact pins_nil)
                      · exfalso; revert hc; simp [go_sem, hkk, decide_false, decide_true, Bool.not_true, Bool.not_false, List.length_map, hf, hno, hx, hg0, hk, hpl, hke, hc1, hc2, Int.toNat_natCast, hg, hkp]
set_option maxHeartbeats 800000 in
theorem trust_same_ (l : List PinD) (hl : ∀ p ∈ l, p.ok) (ex : Bool) (s : List UInt8) (hsl : s.length ≤ 9223372036854775807) (k : List UInt8) (hkk : k.length = 32) (hf : pinsFault l = 0) (hx : hasP l s = true) (hpg : ∀ p, l[idxP l s]? = some p → p.gone = false) (hpk : ∀ p, l[idxP l s]? = some p → (p.key = k) = True) :
    Ct Try.prog 30 [.w (.one (.pl (.R ex 34 (pinRows l)))), .w (.one (.pl (.str s))), .w (.agg (bytesC k))] (Told (pinsV (trustP l s k).2 (trustP l s k).1)) := by
  obtain ⟨p, hp, hn, hlt, hfd⟩ := find_has (srt_of hf) hx
  have hno := has_ok hf hx
  have h8 := (pinsFault_zero hf).1
  have hg0 := pinRows_get hp
  have hk := (hl p (List.mem_of_getElem? hp)).1
  have hpl := pinC_length hk
  have hke := key_eq hk hkk
  have hc1 : ((idxP l s : Nat) : Int) < ((l.length : Nat) : Int) := by omega
  have hc2 : (0 : Int) ≤ ((idxP l s : Nat) : Int) := by omega
  have hg := hpg p hp
  have hkp := hpk p hp
  have hcap : l.length * 56 ≤ 140737488355328 := cap_le (by omega)
  have hcl := pinsC_length hl
  refine Ct.k Try.func30 rfl Try.ntmps30 (congrArg Array.toList Try.results30) (by simp) fun w0 ro => ?_
  refine seq_k fun N1 M1 hN1 hM1 => ?_
  refine region_k fun K2 hK2 => ?_
  simp only [go_sem, hkk, decide_false, decide_true, Bool.not_true, Bool.not_false, List.length_map, hf, hno, hx, hg0, hk, hpl, hke, hc1, hc2, Int.toNat_natCast, hg, hkp, hcap, Nat.zero_add, hcl]
  all_goals repeat' (first | apply And.intro | intro _)
  all_goals
    refine hK2 _ ?_
    refine hN1 _ ?_
    refine seq_k fun N3 M3 hN3 hM3 => ?_
    refine seq_k fun N4 M4 hN4 hM4 => ?_
    refine region_k fun K5 hK5 => ?_
    simp only [go_sem, hkk, decide_false, decide_true, Bool.not_true, Bool.not_false, List.length_map, hf, hno, hx, hg0, hk, hpl, hke, hc1, hc2, Int.toNat_natCast, hg, hkp, hcap, Nat.zero_add, hcl]
    all_goals repeat' (first | apply And.intro | intro _)
    all_goals refine call_view (fun k => k) (fun _ _ => rfl) (by first | rfl | (simp only [go_sem, hkk, decide_false, decide_true, Bool.not_true, Bool.not_false, List.length_map, hf, hno, hx, hg0, hk, hpl, hke, hc1, hc2, Int.toNat_natCast, hg, hkp, hcap, Nat.zero_add, hcl]; rfl) | simp only [go_sem, hkk, decide_false, decide_true, Bool.not_true, Bool.not_false, List.length_map, hf, hno, hx, hg0, hk, hpl, hke, hc1, hc2, Int.toNat_natCast, hg, hkp, hcap, Nat.zero_add, hcl]) ((pins_check l hl ex).plain fun _ _ h => h) ?_
    all_goals (rintro v m ⟨hR, hm⟩; subst hR; subst hm)
    all_goals refine And.intro (by first | rfl | simp only [go_sem, hkk, decide_false, decide_true, Bool.not_true, Bool.not_false, List.length_map, hf, hno, hx, hg0, hk, hpl, hke, hc1, hc2, Int.toNat_natCast, hg, hkp, hcap, Nat.zero_add, hcl]) (And.intro (by first | rfl | simp only [go_sem, hkk, decide_false, decide_true, Bool.not_true, Bool.not_false, List.length_map, hf, hno, hx, hg0, hk, hpl, hke, hc1, hc2, Int.toNat_natCast, hg, hkp, hcap, Nat.zero_add, hcl]) ?_)
    all_goals simp only [go_sem, hkk, decide_false, decide_true, Bool.not_true, Bool.not_false, List.length_map, hf, hno, hx, hg0, hk, hpl, hke, hc1, hc2, Int.toNat_natCast, hg, hkp, hcap, Nat.zero_add, hcl]
    all_goals repeat' (first | apply And.intro | intro _)
    all_goals
      refine hK5 _ ?_
      refine hN4 _ ?_
      refine seq_k fun N6 M6 hN6 hM6 => ?_
      refine region_k fun K7 hK7 => ?_
      simp only [go_sem, hkk, decide_false, decide_true, Bool.not_true, Bool.not_false, List.length_map, hf, hno, hx, hg0, hk, hpl, hke, hc1, hc2, Int.toNat_natCast, hg, hkp, hcap, Nat.zero_add, hcl]
      all_goals repeat' (first | apply And.intro | intro _)
      all_goals
        refine hK7 _ ?_
        refine hN6 _ ?_
        refine cond_k rfl (fun hc => ?_) (fun hc => ?_)
        · exfalso; revert hc; simp [go_sem, hkk, decide_false, decide_true, Bool.not_true, Bool.not_false, List.length_map, hf, hno, hx, hg0, hk, hpl, hke, hc1, hc2, Int.toNat_natCast, hg, hkp, hcap, Nat.zero_add, hcl]
        · try simp only [go_sem, hkk, decide_false, decide_true, Bool.not_true, Bool.not_false, List.length_map, hf, hno, hx, hg0, hk, hpl, hke, hc1, hc2, Int.toNat_natCast, hg, hkp, hcap, Nat.zero_add, hcl] at hc
          all_goals
            refine skip_k ?_
            refine hN3 _ ?_
            refine seq_k fun N8 M8 hN8 hM8 => ?_
            refine seq_k fun N9 M9 hN9 hM9 => ?_
            refine region_k fun K10 hK10 => ?_
            simp only [go_sem, hkk, decide_false, decide_true, Bool.not_true, Bool.not_false, List.length_map, hf, hno, hx, hg0, hk, hpl, hke, hc1, hc2, Int.toNat_natCast, hg, hkp, hcap, Nat.zero_add, hcl]
            all_goals repeat' (first | apply And.intro | intro _)
            all_goals refine call_view (fun k => k) (fun _ _ => rfl) (by first | rfl | (simp only [go_sem, hkk, decide_false, decide_true, Bool.not_true, Bool.not_false, List.length_map, hf, hno, hx, hg0, hk, hpl, hke, hc1, hc2, Int.toNat_natCast, hg, hkp, hcap, Nat.zero_add, hcl]; rfl) | simp only [go_sem, hkk, decide_false, decide_true, Bool.not_true, Bool.not_false, List.length_map, hf, hno, hx, hg0, hk, hpl, hke, hc1, hc2, Int.toNat_natCast, hg, hkp, hcap, Nat.zero_add, hcl]) ((name_ s).plain fun _ _ h => h) ?_
            all_goals (rintro v m ⟨hR, hm⟩; subst hR; subst hm)
            all_goals refine And.intro (by first | rfl | simp only [go_sem, hkk, decide_false, decide_true, Bool.not_true, Bool.not_false, List.length_map, hf, hno, hx, hg0, hk, hpl, hke, hc1, hc2, Int.toNat_natCast, hg, hkp, hcap, Nat.zero_add, hcl]) (And.intro (by first | rfl | simp only [go_sem, hkk, decide_false, decide_true, Bool.not_true, Bool.not_false, List.length_map, hf, hno, hx, hg0, hk, hpl, hke, hc1, hc2, Int.toNat_natCast, hg, hkp, hcap, Nat.zero_add, hcl]) ?_)
            all_goals simp only [go_sem, hkk, decide_false, decide_true, Bool.not_true, Bool.not_false, List.length_map, hf, hno, hx, hg0, hk, hpl, hke, hc1, hc2, Int.toNat_natCast, hg, hkp, hcap, Nat.zero_add, hcl]
            all_goals repeat' (first | apply And.intro | intro _)
            all_goals
              refine hK10 _ ?_
              refine hN9 _ ?_
              refine cond_k rfl (fun hc => ?_) (fun hc => ?_)
              · exfalso; revert hc; simp [go_sem, hkk, decide_false, decide_true, Bool.not_true, Bool.not_false, List.length_map, hf, hno, hx, hg0, hk, hpl, hke, hc1, hc2, Int.toNat_natCast, hg, hkp, hcap, Nat.zero_add, hcl]
              · try simp only [go_sem, hkk, decide_false, decide_true, Bool.not_true, Bool.not_false, List.length_map, hf, hno, hx, hg0, hk, hpl, hke, hc1, hc2, Int.toNat_natCast, hg, hkp, hcap, Nat.zero_add, hcl] at hc
                all_goals
                  refine skip_k ?_
                  refine hN8 _ ?_
                  refine seq_k fun N11 M11 hN11 hM11 => ?_
                  refine region_k fun K12 hK12 => ?_
                  simp only [go_sem, hkk, decide_false, decide_true, Bool.not_true, Bool.not_false, List.length_map, hf, hno, hx, hg0, hk, hpl, hke, hc1, hc2, Int.toNat_natCast, hg, hkp, hcap, Nat.zero_add, hcl]
                  all_goals repeat' (first | apply And.intro | intro _)
                  all_goals refine call_view (fun k => k) (fun _ _ => rfl) (by first | rfl | (simp only [go_sem, hkk, decide_false, decide_true, Bool.not_true, Bool.not_false, List.length_map, hf, hno, hx, hg0, hk, hpl, hke, hc1, hc2, Int.toNat_natCast, hg, hkp, hcap, Nat.zero_add, hcl]; rfl) | simp only [go_sem, hkk, decide_false, decide_true, Bool.not_true, Bool.not_false, List.length_map, hf, hno, hx, hg0, hk, hpl, hke, hc1, hc2, Int.toNat_natCast, hg, hkp, hcap, Nat.zero_add, hcl]) ((find_ l hl ex s (srt_of hf)).plain fun _ _ h => h) ?_
                  all_goals (rintro v m ⟨hR, hm⟩; subst hR; subst hm)
                  all_goals refine And.intro (by first | rfl | simp only [go_sem, hkk, decide_false, decide_true, Bool.not_true, Bool.not_false, List.length_map, hf, hno, hx, hg0, hk, hpl, hke, hc1, hc2, Int.toNat_natCast, hg, hkp, hcap, Nat.zero_add, hcl]) (And.intro (by first | rfl | simp only [go_sem, hkk, decide_false, decide_true, Bool.not_true, Bool.not_false, List.length_map, hf, hno, hx, hg0, hk, hpl, hke, hc1, hc2, Int.toNat_natCast, hg, hkp, hcap, Nat.zero_add, hcl]) ?_)
                  all_goals simp only [go_sem, hkk, decide_false, decide_true, Bool.not_true, Bool.not_false, List.length_map, hf, hno, hx, hg0, hk, hpl, hke, hc1, hc2, Int.toNat_natCast, hg, hkp, hcap, Nat.zero_add, hcl]
                  all_goals repeat' (first | apply And.intro | intro _)
                  all_goals
                    refine hK12 _ ?_
                    refine hN11 _ ?_
                    refine seq_k fun N13 M13 hN13 hM13 => ?_
                    refine block_k fun B14 bn14 bx14 br14 bi14 => ?_
                    refine seq_k fun N15 M15 hN15 hM15 => ?_
                    refine draw_k [27, 28, 29, 30, 31, 32, 33, 34, 35, 36, 37, 38, 39, 40, 41, 42, 43, 26] [0, 1, 3, 3, 15, 31, 63, 127, 255, 255, 1023, 2047, 4095, 255, 16383, 32767, 65535, 131071] [] mixed (by kernel_rfl) (by simp only [go_sem]) fun K16 hK16 => ?_
                    simp only [go_sem, hkk, decide_false, decide_true, Bool.not_true, Bool.not_false, List.length_map, hf, hno, hx, hg0, hk, hpl, hke, hc1, hc2, Int.toNat_natCast, hg, hkp, hcap, Nat.zero_add, hcl]
                    all_goals repeat' (first | apply And.intro | intro _)
                    all_goals
                      refine hK16 _ _ ?_ ?_
                      · first | trivial | (simp only [go_sem]; done) | (simp only [go_sem]; simp; done) | (simp only [go_sem]; simp; simp only [go_sem])
                      refine hN15 _ ?_
                      refine cond_k rfl (fun hc => ?_) (fun hc => ?_)
                      · exfalso; revert hc; simp [go_sem, hkk, decide_false, decide_true, Bool.not_true, Bool.not_false, List.length_map, hf, hno, hx, hg0, hk, hpl, hke, hc1, hc2, Int.toNat_natCast, hg, hkp, hcap, Nat.zero_add, hcl]
                      · try simp only [go_sem, hkk, decide_false, decide_true, Bool.not_true, Bool.not_false, List.length_map, hf, hno, hx, hg0, hk, hpl, hke, hc1, hc2, Int.toNat_natCast, hg, hkp, hcap, Nat.zero_add, hcl] at hc
                        all_goals
                          refine seq_k fun N17 M17 hN17 hM17 => ?_
                          refine region_k fun K18 hK18 => ?_
                          simp only [go_sem, hkk, decide_false, decide_true, Bool.not_true, Bool.not_false, List.length_map, hf, hno, hx, hg0, hk, hpl, hke, hc1, hc2, Int.toNat_natCast, hg, hkp, hcap, Nat.zero_add, hcl]
                          all_goals repeat' (first | apply And.intro | intro _)
                          all_goals
                            refine hK18 _ ?_
                            refine hN17 _ ?_
                            refine cond_k rfl (fun hc => ?_) (fun hc => ?_)
                            · try simp only [go_sem, hkk, decide_false, decide_true, Bool.not_true, Bool.not_false, List.length_map, hf, hno, hx, hg0, hk, hpl, hke, hc1, hc2, Int.toNat_natCast, hg, hkp, hcap, Nat.zero_add, hcl] at hc
                              all_goals
                                refine seq_k fun N19 M19 hN19 hM19 => ?_
                                refine region_k fun K20 hK20 => ?_
                                simp only [go_sem, hkk, decide_false, decide_true, Bool.not_true, Bool.not_false, List.length_map, hf, hno, hx, hg0, hk, hpl, hke, hc1, hc2, Int.toNat_natCast, hg, hkp, hcap, Nat.zero_add, hcl]
                                all_goals repeat' (first | apply And.intro | intro _)
                                all_goals
                                  refine hK20 _ ?_
                                  refine hN19 _ ?_
                                  refine ret_k ?_
                                  refine br14 _ ?_
                                  refine hM13 _ _ ?_
                                  simp only [go_sem, hkk, decide_false, decide_true, Bool.not_true, Bool.not_false, List.length_map, hf, hno, hx, hg0, hk, hpl, hke, hc1, hc2, Int.toNat_natCast, hg, hkp, hcap, Nat.zero_add, hcl]
                                  all_goals (rw [trust_same hf hno hfd hg (of_eq_true hkp)]; exact pins_obj (b := true) (by simp [look, pinsC_nil]) hl (by simp))
                            · exfalso; revert hc; simp [go_sem, hkk, decide_false, decide_true, Bool.not_true, Bool.not_false, List.length_map, hf, hno, hx, hg0, hk, hpl, hke, hc1, hc2, Int.toNat_natCast, hg, hkp, hcap, Nat.zero_add, hcl]
set_option maxHeartbeats 800000 in
theorem trust_full_ (l : List PinD) (hl : ∀ p ∈ l, p.ok) (ex : Bool) (s : List UInt8) (hsl : s.length ≤ 9223372036854775807) (k : List UInt8) (hkk : k.length = 32) (hf : pinsFault l = 0) (hno : nameOk s = true) (hx : hasP l s = false) (h8 : l.length = 8) :
    Ct Try.prog 30 [.w (.one (.pl (.R ex 34 (pinRows l)))), .w (.one (.pl (.str s))), .w (.agg (bytesC k))] (Told (pinsV (trustP l s k).2 (trustP l s k).1)) := by
  refine Ct.k Try.func30 rfl Try.ntmps30 (congrArg Array.toList Try.results30) (by simp) fun w0 ro => ?_
  refine seq_k fun N1 M1 hN1 hM1 => ?_
  refine region_k fun K2 hK2 => ?_
  simp only [go_sem, hkk, decide_false, decide_true, Bool.not_true, Bool.not_false, List.length_map, hf, hno, hx, h8]
  all_goals repeat' (first | apply And.intro | intro _)
  all_goals
    refine hK2 _ ?_
    refine hN1 _ ?_
    refine seq_k fun N3 M3 hN3 hM3 => ?_
    refine seq_k fun N4 M4 hN4 hM4 => ?_
    refine region_k fun K5 hK5 => ?_
    simp only [go_sem, hkk, decide_false, decide_true, Bool.not_true, Bool.not_false, List.length_map, hf, hno, hx, h8]
    all_goals repeat' (first | apply And.intro | intro _)
    all_goals refine call_view (fun k => k) (fun _ _ => rfl) (by first | rfl | (simp only [go_sem, hkk, decide_false, decide_true, Bool.not_true, Bool.not_false, List.length_map, hf, hno, hx, h8]; rfl) | simp only [go_sem, hkk, decide_false, decide_true, Bool.not_true, Bool.not_false, List.length_map, hf, hno, hx, h8]) ((pins_check l hl ex).plain fun _ _ h => h) ?_
    all_goals (rintro v m ⟨hR, hm⟩; subst hR; subst hm)
    all_goals refine And.intro (by first | rfl | simp only [go_sem, hkk, decide_false, decide_true, Bool.not_true, Bool.not_false, List.length_map, hf, hno, hx, h8]) (And.intro (by first | rfl | simp only [go_sem, hkk, decide_false, decide_true, Bool.not_true, Bool.not_false, List.length_map, hf, hno, hx, h8]) ?_)
    all_goals simp only [go_sem, hkk, decide_false, decide_true, Bool.not_true, Bool.not_false, List.length_map, hf, hno, hx, h8]
    all_goals repeat' (first | apply And.intro | intro _)
    all_goals
      refine hK5 _ ?_
      refine hN4 _ ?_
      refine seq_k fun N6 M6 hN6 hM6 => ?_
      refine region_k fun K7 hK7 => ?_
      simp only [go_sem, hkk, decide_false, decide_true, Bool.not_true, Bool.not_false, List.length_map, hf, hno, hx, h8]
      all_goals repeat' (first | apply And.intro | intro _)
      all_goals
        refine hK7 _ ?_
        refine hN6 _ ?_
        refine cond_k rfl (fun hc => ?_) (fun hc => ?_)
        · exfalso; revert hc; simp [go_sem, hkk, decide_false, decide_true, Bool.not_true, Bool.not_false, List.length_map, hf, hno, hx, h8]
        · try simp only [go_sem, hkk, decide_false, decide_true, Bool.not_true, Bool.not_false, List.length_map, hf, hno, hx, h8] at hc
          all_goals
            refine skip_k ?_
            refine hN3 _ ?_
            refine seq_k fun N8 M8 hN8 hM8 => ?_
            refine seq_k fun N9 M9 hN9 hM9 => ?_
            refine region_k fun K10 hK10 => ?_
            simp only [go_sem, hkk, decide_false, decide_true, Bool.not_true, Bool.not_false, List.length_map, hf, hno, hx, h8]
            all_goals repeat' (first | apply And.intro | intro _)
            all_goals refine call_view (fun k => k) (fun _ _ => rfl) (by first | rfl | (simp only [go_sem, hkk, decide_false, decide_true, Bool.not_true, Bool.not_false, List.length_map, hf, hno, hx, h8]; rfl) | simp only [go_sem, hkk, decide_false, decide_true, Bool.not_true, Bool.not_false, List.length_map, hf, hno, hx, h8]) ((name_ s).plain fun _ _ h => h) ?_
            all_goals (rintro v m ⟨hR, hm⟩; subst hR; subst hm)
            all_goals refine And.intro (by first | rfl | simp only [go_sem, hkk, decide_false, decide_true, Bool.not_true, Bool.not_false, List.length_map, hf, hno, hx, h8]) (And.intro (by first | rfl | simp only [go_sem, hkk, decide_false, decide_true, Bool.not_true, Bool.not_false, List.length_map, hf, hno, hx, h8]) ?_)
            all_goals simp only [go_sem, hkk, decide_false, decide_true, Bool.not_true, Bool.not_false, List.length_map, hf, hno, hx, h8]
            all_goals repeat' (first | apply And.intro | intro _)
            all_goals
              refine hK10 _ ?_
              refine hN9 _ ?_
              refine cond_k rfl (fun hc => ?_) (fun hc => ?_)
              · exfalso; revert hc; simp [go_sem, hkk, decide_false, decide_true, Bool.not_true, Bool.not_false, List.length_map, hf, hno, hx, h8]
              · try simp only [go_sem, hkk, decide_false, decide_true, Bool.not_true, Bool.not_false, List.length_map, hf, hno, hx, h8] at hc
                all_goals
                  refine skip_k ?_
                  refine hN8 _ ?_
                  refine seq_k fun N11 M11 hN11 hM11 => ?_
                  refine region_k fun K12 hK12 => ?_
                  simp only [go_sem, hkk, decide_false, decide_true, Bool.not_true, Bool.not_false, List.length_map, hf, hno, hx, h8]
                  all_goals repeat' (first | apply And.intro | intro _)
                  all_goals refine call_view (fun k => k) (fun _ _ => rfl) (by first | rfl | (simp only [go_sem, hkk, decide_false, decide_true, Bool.not_true, Bool.not_false, List.length_map, hf, hno, hx, h8]; rfl) | simp only [go_sem, hkk, decide_false, decide_true, Bool.not_true, Bool.not_false, List.length_map, hf, hno, hx, h8]) ((find_ l hl ex s (srt_of hf)).plain fun _ _ h => h) ?_
                  all_goals (rintro v m ⟨hR, hm⟩; subst hR; subst hm)
                  all_goals refine And.intro (by first | rfl | simp only [go_sem, hkk, decide_false, decide_true, Bool.not_true, Bool.not_false, List.length_map, hf, hno, hx, h8]) (And.intro (by first | rfl | simp only [go_sem, hkk, decide_false, decide_true, Bool.not_true, Bool.not_false, List.length_map, hf, hno, hx, h8]) ?_)
                  all_goals simp only [go_sem, hkk, decide_false, decide_true, Bool.not_true, Bool.not_false, List.length_map, hf, hno, hx, h8]
                  all_goals repeat' (first | apply And.intro | intro _)
                  all_goals
                    refine hK12 _ ?_
                    refine hN11 _ ?_
                    refine seq_k fun N13 M13 hN13 hM13 => ?_
                    refine block_k fun B14 bn14 bx14 br14 bi14 => ?_
                    refine seq_k fun N15 M15 hN15 hM15 => ?_
                    refine draw_k [27, 28, 29, 30, 31, 32, 33, 34, 35, 36, 37, 38, 39, 40, 41, 42, 43, 26] [0, 1, 3, 3, 15, 31, 63, 127, 255, 255, 1023, 2047, 4095, 255, 16383, 32767, 65535, 131071] [] mixed (by kernel_rfl) (by simp only [go_sem]) fun K16 hK16 => ?_
                    simp only [go_sem, hkk, decide_false, decide_true, Bool.not_true, Bool.not_false, List.length_map, hf, hno, hx, h8]
                    all_goals repeat' (first | apply And.intro | intro _)
                    all_goals
                      refine hK16 _ _ ?_ ?_
                      · first | trivial | (simp only [go_sem]; done) | (simp only [go_sem]; simp; done) | (simp only [go_sem]; simp; simp only [go_sem])
                      refine hN15 _ ?_
                      refine cond_k rfl (fun hc => ?_) (fun hc => ?_)
                      · exfalso; revert hc; simp [go_sem, hkk, decide_false, decide_true, Bool.not_true, Bool.not_false, List.length_map, hf, hno, hx, h8]
                      · try simp only [go_sem, hkk, decide_false, decide_true, Bool.not_true, Bool.not_false, List.length_map, hf, hno, hx, h8] at hc
                        all_goals
                          refine seq_k fun N17 M17 hN17 hM17 => ?_
                          refine region_k fun K18 hK18 => ?_
                          simp only [go_sem, hkk, decide_false, decide_true, Bool.not_true, Bool.not_false, List.length_map, hf, hno, hx, h8]
                          all_goals repeat' (first | apply And.intro | intro _)
                          all_goals
                            refine hK18 _ ?_
                            refine hN17 _ ?_
                            refine cond_k rfl (fun hc => ?_) (fun hc => ?_)
                            · exfalso; revert hc; simp [go_sem, hkk, decide_false, decide_true, Bool.not_true, Bool.not_false, List.length_map, hf, hno, hx, h8]
                            · try simp only [go_sem, hkk, decide_false, decide_true, Bool.not_true, Bool.not_false, List.length_map, hf, hno, hx, h8] at hc
                              all_goals
                                refine seq_k fun N19 M19 hN19 hM19 => ?_
                                refine region_k fun K20 hK20 => ?_
                                simp only [go_sem, hkk, decide_false, decide_true, Bool.not_true, Bool.not_false, List.length_map, hf, hno, hx, h8]
                                all_goals repeat' (first | apply And.intro | intro _)
                                all_goals
                                  refine hK20 _ ?_
                                  refine hN19 _ ?_
                                  refine cond_k rfl (fun hc => ?_) (fun hc => ?_)
                                  · try simp only [go_sem, hkk, decide_false, decide_true, Bool.not_true, Bool.not_false, List.length_map, hf, hno, hx, h8] at hc
                                    all_goals
                                      refine seq_k fun N21 M21 hN21 hM21 => ?_
                                      refine region_k fun K22 hK22 => ?_
                                      simp only [go_sem, hkk, decide_false, decide_true, Bool.not_true, Bool.not_false, List.length_map, hf, hno, hx, h8]
                                      all_goals repeat' (first | apply And.intro | intro _)
                                      all_goals
                                        refine hK22 _ ?_
                                        refine hN21 _ ?_
                                        refine ret_k ?_
                                        refine br14 _ ?_
                                        refine hM13 _ _ ?_
                                        simp only [go_sem, hkk, decide_false, decide_true, Bool.not_true, Bool.not_false, List.length_map, hf, hno, hx, h8]
                                        all_goals (rw [trust_full hf hno (find_hasnt (srt_of hf) hx) h8]; exact pins_nil)
                                  · exfalso; revert hc; simp [go_sem, hkk, decide_false, decide_true, Bool.not_true, Bool.not_false, List.length_map, hf, hno, hx, h8]
set_option maxHeartbeats 800000 in
theorem trust_in_ (l : List PinD) (hl : ∀ p ∈ l, p.ok) (ex : Bool) (s : List UInt8) (hsl : s.length ≤ 9223372036854775807) (k : List UInt8) (hkk : k.length = 32) (hf : pinsFault l = 0) (hno : nameOk s = true) (hx : hasP l s = false) (h8 : ¬ l.length = 8) :
    Ct Try.prog 30 [.w (.one (.pl (.R ex 34 (pinRows l)))), .w (.one (.pl (.str s))), .w (.agg (bytesC k))] (Told (pinsV (trustP l s k).2 (trustP l s k).1)) := by
  have hm8 := (pinsFault_zero hf).1
  have hle := idxP_le l s
  have h81 : (((l.length : Nat) : Int) = 8) = False := by simp; omega
  have hti : (l.take (idxP l s)).length = idxP l s := by rw [List.length_take]; omega
  have hdi : (l.drop (idxP l s)).length = l.length - idxP l s := List.length_drop
  have hot : ∀ p ∈ l.take (idxP l s), p.ok := fun p hp => hl p (List.mem_of_mem_take hp)
  have hcl := pinsC_length hot
  rw [hti] at hcl
  have hc1 : ((idxP l s : Nat) : Int) ≤ ((l.length : Nat) : Int) := by omega
  have hc2 : (0 : Int) ≤ ((idxP l s : Nat) : Int) := by omega
  have hml : (idxP l s * 34 + 34 = (idxP l s + 1) * 34) = True := eq_true (by omega)
  obtain ⟨hcap1, hcap2, hcap3⟩ : idxP l s * 56 ≤ 140737488355328 ∧ (idxP l s + 1) * 56 ≤ 140737488355328 ∧ (idxP l s + 1 + (l.length - idxP l s)) * 56 ≤ 140737488355328 := ⟨cap_le (by omega), cap_le (by omega), cap_le (by omega)⟩
  refine Ct.k Try.func30 rfl Try.ntmps30 (congrArg Array.toList Try.results30) (by simp) fun w0 ro => ?_
  refine seq_k fun N1 M1 hN1 hM1 => ?_
  refine region_k fun K2 hK2 => ?_
  simp only [go_sem, hkk, decide_false, decide_true, Bool.not_true, Bool.not_false, List.length_map, hf, hno, hx, h81, hti, hdi, hcl, hc1, hc2, hml, hcap1, hcap2, hcap3, Nat.zero_add, Int.toNat_natCast, List.drop_zero, Nat.sub_zero]
  all_goals repeat' (first | apply And.intro | intro _)
  all_goals
    refine hK2 _ ?_
    refine hN1 _ ?_
    refine seq_k fun N3 M3 hN3 hM3 => ?_
    refine seq_k fun N4 M4 hN4 hM4 => ?_
    refine region_k fun K5 hK5 => ?_
    simp only [go_sem, hkk, decide_false, decide_true, Bool.not_true, Bool.not_false, List.length_map, hf, hno, hx, h81, hti, hdi, hcl, hc1, hc2, hml, hcap1, hcap2, hcap3, Nat.zero_add, Int.toNat_natCast, List.drop_zero, Nat.sub_zero]
    all_goals repeat' (first | apply And.intro | intro _)
    all_goals refine call_view (fun k => k) (fun _ _ => rfl) (by first | rfl | (simp only [go_sem, hkk, decide_false, decide_true, Bool.not_true, Bool.not_false, List.length_map, hf, hno, hx, h81, hti, hdi, hcl, hc1, hc2, hml, hcap1, hcap2, hcap3, Nat.zero_add, Int.toNat_natCast, List.drop_zero, Nat.sub_zero]; rfl) | simp only [go_sem, hkk, decide_false, decide_true, Bool.not_true, Bool.not_false, List.length_map, hf, hno, hx, h81, hti, hdi, hcl, hc1, hc2, hml, hcap1, hcap2, hcap3, Nat.zero_add, Int.toNat_natCast, List.drop_zero, Nat.sub_zero]) ((pins_check l hl ex).plain fun _ _ h => h) ?_
    all_goals (rintro v m ⟨hR, hm⟩; subst hR; subst hm)
    all_goals refine And.intro (by first | rfl | simp only [go_sem, hkk, decide_false, decide_true, Bool.not_true, Bool.not_false, List.length_map, hf, hno, hx, h81, hti, hdi, hcl, hc1, hc2, hml, hcap1, hcap2, hcap3, Nat.zero_add, Int.toNat_natCast, List.drop_zero, Nat.sub_zero]) (And.intro (by first | rfl | simp only [go_sem, hkk, decide_false, decide_true, Bool.not_true, Bool.not_false, List.length_map, hf, hno, hx, h81, hti, hdi, hcl, hc1, hc2, hml, hcap1, hcap2, hcap3, Nat.zero_add, Int.toNat_natCast, List.drop_zero, Nat.sub_zero]) ?_)
    all_goals simp only [go_sem, hkk, decide_false, decide_true, Bool.not_true, Bool.not_false, List.length_map, hf, hno, hx, h81, hti, hdi, hcl, hc1, hc2, hml, hcap1, hcap2, hcap3, Nat.zero_add, Int.toNat_natCast, List.drop_zero, Nat.sub_zero]
    all_goals repeat' (first | apply And.intro | intro _)
    all_goals
      refine hK5 _ ?_
      refine hN4 _ ?_
      refine seq_k fun N6 M6 hN6 hM6 => ?_
      refine region_k fun K7 hK7 => ?_
      simp only [go_sem, hkk, decide_false, decide_true, Bool.not_true, Bool.not_false, List.length_map, hf, hno, hx, h81, hti, hdi, hcl, hc1, hc2, hml, hcap1, hcap2, hcap3, Nat.zero_add, Int.toNat_natCast, List.drop_zero, Nat.sub_zero]
      all_goals repeat' (first | apply And.intro | intro _)
      all_goals
        refine hK7 _ ?_
        refine hN6 _ ?_
        refine cond_k rfl (fun hc => ?_) (fun hc => ?_)
        · exfalso; revert hc; simp [go_sem, hkk, decide_false, decide_true, Bool.not_true, Bool.not_false, List.length_map, hf, hno, hx, h81, hti, hdi, hcl, hc1, hc2, hml, hcap1, hcap2, hcap3, Nat.zero_add, Int.toNat_natCast, List.drop_zero, Nat.sub_zero]
        · try simp only [go_sem, hkk, decide_false, decide_true, Bool.not_true, Bool.not_false, List.length_map, hf, hno, hx, h81, hti, hdi, hcl, hc1, hc2, hml, hcap1, hcap2, hcap3, Nat.zero_add, Int.toNat_natCast, List.drop_zero, Nat.sub_zero] at hc
          all_goals
            refine skip_k ?_
            refine hN3 _ ?_
            refine seq_k fun N8 M8 hN8 hM8 => ?_
            refine seq_k fun N9 M9 hN9 hM9 => ?_
            refine region_k fun K10 hK10 => ?_
            simp only [go_sem, hkk, decide_false, decide_true, Bool.not_true, Bool.not_false, List.length_map, hf, hno, hx, h81, hti, hdi, hcl, hc1, hc2, hml, hcap1, hcap2, hcap3, Nat.zero_add, Int.toNat_natCast, List.drop_zero, Nat.sub_zero]
            all_goals repeat' (first | apply And.intro | intro _)
            all_goals refine call_view (fun k => k) (fun _ _ => rfl) (by first | rfl | (simp only [go_sem, hkk, decide_false, decide_true, Bool.not_true, Bool.not_false, List.length_map, hf, hno, hx, h81, hti, hdi, hcl, hc1, hc2, hml, hcap1, hcap2, hcap3, Nat.zero_add, Int.toNat_natCast, List.drop_zero, Nat.sub_zero]; rfl) | simp only [go_sem, hkk, decide_false, decide_true, Bool.not_true, Bool.not_false, List.length_map, hf, hno, hx, h81, hti, hdi, hcl, hc1, hc2, hml, hcap1, hcap2, hcap3, Nat.zero_add, Int.toNat_natCast, List.drop_zero, Nat.sub_zero]) ((name_ s).plain fun _ _ h => h) ?_
            all_goals (rintro v m ⟨hR, hm⟩; subst hR; subst hm)
            all_goals refine And.intro (by first | rfl | simp only [go_sem, hkk, decide_false, decide_true, Bool.not_true, Bool.not_false, List.length_map, hf, hno, hx, h81, hti, hdi, hcl, hc1, hc2, hml, hcap1, hcap2, hcap3, Nat.zero_add, Int.toNat_natCast, List.drop_zero, Nat.sub_zero]) (And.intro (by first | rfl | simp only [go_sem, hkk, decide_false, decide_true, Bool.not_true, Bool.not_false, List.length_map, hf, hno, hx, h81, hti, hdi, hcl, hc1, hc2, hml, hcap1, hcap2, hcap3, Nat.zero_add, Int.toNat_natCast, List.drop_zero, Nat.sub_zero]) ?_)
            all_goals simp only [go_sem, hkk, decide_false, decide_true, Bool.not_true, Bool.not_false, List.length_map, hf, hno, hx, h81, hti, hdi, hcl, hc1, hc2, hml, hcap1, hcap2, hcap3, Nat.zero_add, Int.toNat_natCast, List.drop_zero, Nat.sub_zero]
            all_goals repeat' (first | apply And.intro | intro _)
            all_goals
              refine hK10 _ ?_
              refine hN9 _ ?_
              refine cond_k rfl (fun hc => ?_) (fun hc => ?_)
              · exfalso; revert hc; simp [go_sem, hkk, decide_false, decide_true, Bool.not_true, Bool.not_false, List.length_map, hf, hno, hx, h81, hti, hdi, hcl, hc1, hc2, hml, hcap1, hcap2, hcap3, Nat.zero_add, Int.toNat_natCast, List.drop_zero, Nat.sub_zero]
              · try simp only [go_sem, hkk, decide_false, decide_true, Bool.not_true, Bool.not_false, List.length_map, hf, hno, hx, h81, hti, hdi, hcl, hc1, hc2, hml, hcap1, hcap2, hcap3, Nat.zero_add, Int.toNat_natCast, List.drop_zero, Nat.sub_zero] at hc
                all_goals
                  refine skip_k ?_
                  refine hN8 _ ?_
                  refine seq_k fun N11 M11 hN11 hM11 => ?_
                  refine region_k fun K12 hK12 => ?_
                  simp only [go_sem, hkk, decide_false, decide_true, Bool.not_true, Bool.not_false, List.length_map, hf, hno, hx, h81, hti, hdi, hcl, hc1, hc2, hml, hcap1, hcap2, hcap3, Nat.zero_add, Int.toNat_natCast, List.drop_zero, Nat.sub_zero]
                  all_goals repeat' (first | apply And.intro | intro _)
                  all_goals refine call_view (fun k => k) (fun _ _ => rfl) (by first | rfl | (simp only [go_sem, hkk, decide_false, decide_true, Bool.not_true, Bool.not_false, List.length_map, hf, hno, hx, h81, hti, hdi, hcl, hc1, hc2, hml, hcap1, hcap2, hcap3, Nat.zero_add, Int.toNat_natCast, List.drop_zero, Nat.sub_zero]; rfl) | simp only [go_sem, hkk, decide_false, decide_true, Bool.not_true, Bool.not_false, List.length_map, hf, hno, hx, h81, hti, hdi, hcl, hc1, hc2, hml, hcap1, hcap2, hcap3, Nat.zero_add, Int.toNat_natCast, List.drop_zero, Nat.sub_zero]) ((find_ l hl ex s (srt_of hf)).plain fun _ _ h => h) ?_
                  all_goals (rintro v m ⟨hR, hm⟩; subst hR; subst hm)
                  all_goals refine And.intro (by first | rfl | simp only [go_sem, hkk, decide_false, decide_true, Bool.not_true, Bool.not_false, List.length_map, hf, hno, hx, h81, hti, hdi, hcl, hc1, hc2, hml, hcap1, hcap2, hcap3, Nat.zero_add, Int.toNat_natCast, List.drop_zero, Nat.sub_zero]) (And.intro (by first | rfl | simp only [go_sem, hkk, decide_false, decide_true, Bool.not_true, Bool.not_false, List.length_map, hf, hno, hx, h81, hti, hdi, hcl, hc1, hc2, hml, hcap1, hcap2, hcap3, Nat.zero_add, Int.toNat_natCast, List.drop_zero, Nat.sub_zero]) ?_)
                  all_goals simp only [go_sem, hkk, decide_false, decide_true, Bool.not_true, Bool.not_false, List.length_map, hf, hno, hx, h81, hti, hdi, hcl, hc1, hc2, hml, hcap1, hcap2, hcap3, Nat.zero_add, Int.toNat_natCast, List.drop_zero, Nat.sub_zero]
                  all_goals repeat' (first | apply And.intro | intro _)
                  all_goals
                    refine hK12 _ ?_
                    refine hN11 _ ?_
                    refine seq_k fun N13 M13 hN13 hM13 => ?_
                    refine block_k fun B14 bn14 bx14 br14 bi14 => ?_
                    refine seq_k fun N15 M15 hN15 hM15 => ?_
                    refine draw_k [27, 28, 29, 30, 31, 32, 33, 34, 35, 36, 37, 38, 39, 40, 41, 42, 43, 26] [0, 1, 3, 3, 15, 31, 63, 127, 255, 255, 1023, 2047, 4095, 255, 16383, 32767, 65535, 131071] [] mixed (by kernel_rfl) (by simp only [go_sem]) fun K16 hK16 => ?_
                    simp only [go_sem, hkk, decide_false, decide_true, Bool.not_true, Bool.not_false, List.length_map, hf, hno, hx, h81, hti, hdi, hcl, hc1, hc2, hml, hcap1, hcap2, hcap3, Nat.zero_add, Int.toNat_natCast, List.drop_zero, Nat.sub_zero]
                    all_goals repeat' (first | apply And.intro | intro _)
                    all_goals
                      refine hK16 _ _ ?_ ?_
                      · first | trivial | (simp only [go_sem]; done) | (simp only [go_sem]; simp; done) | (simp only [go_sem]; simp; simp only [go_sem])
                      refine hN15 _ ?_
                      refine cond_k rfl (fun hc => ?_) (fun hc => ?_)
                      · exfalso; revert hc; simp [go_sem, hkk, decide_false, decide_true, Bool.not_true, Bool.not_false, List.length_map, hf, hno, hx, h81, hti, hdi, hcl, hc1, hc2, hml, hcap1, hcap2, hcap3, Nat.zero_add, Int.toNat_natCast, List.drop_zero, Nat.sub_zero]
                      · try simp only [go_sem, hkk, decide_false, decide_true, Bool.not_true, Bool.not_false, List.length_map, hf, hno, hx, h81, hti, hdi, hcl, hc1, hc2, hml, hcap1, hcap2, hcap3, Nat.zero_add, Int.toNat_natCast, List.drop_zero, Nat.sub_zero] at hc
                        all_goals
                          refine seq_k fun N17 M17 hN17 hM17 => ?_
                          refine region_k fun K18 hK18 => ?_
                          simp only [go_sem, hkk, decide_false, decide_true, Bool.not_true, Bool.not_false, List.length_map, hf, hno, hx, h81, hti, hdi, hcl, hc1, hc2, hml, hcap1, hcap2, hcap3, Nat.zero_add, Int.toNat_natCast, List.drop_zero, Nat.sub_zero]
                          all_goals repeat' (first | apply And.intro | intro _)
                          all_goals
                            refine hK18 _ ?_
                            refine hN17 _ ?_
                            refine cond_k rfl (fun hc => ?_) (fun hc => ?_)
                            · exfalso; revert hc; simp [go_sem, hkk, decide_false, decide_true, Bool.not_true, Bool.not_false, List.length_map, hf, hno, hx, h81, hti, hdi, hcl, hc1, hc2, hml, hcap1, hcap2, hcap3, Nat.zero_add, Int.toNat_natCast, List.drop_zero, Nat.sub_zero]
                            · try simp only [go_sem, hkk, decide_false, decide_true, Bool.not_true, Bool.not_false, List.length_map, hf, hno, hx, h81, hti, hdi, hcl, hc1, hc2, hml, hcap1, hcap2, hcap3, Nat.zero_add, Int.toNat_natCast, List.drop_zero, Nat.sub_zero] at hc
                              all_goals
                                refine seq_k fun N19 M19 hN19 hM19 => ?_
                                refine region_k fun K20 hK20 => ?_
                                simp only [go_sem, hkk, decide_false, decide_true, Bool.not_true, Bool.not_false, List.length_map, hf, hno, hx, h81, hti, hdi, hcl, hc1, hc2, hml, hcap1, hcap2, hcap3, Nat.zero_add, Int.toNat_natCast, List.drop_zero, Nat.sub_zero]
                                all_goals repeat' (first | apply And.intro | intro _)
                                all_goals
                                  refine hK20 _ ?_
                                  refine hN19 _ ?_
                                  refine cond_k rfl (fun hc => ?_) (fun hc => ?_)
                                  · exfalso; revert hc; simp [go_sem, hkk, decide_false, decide_true, Bool.not_true, Bool.not_false, List.length_map, hf, hno, hx, h81, hti, hdi, hcl, hc1, hc2, hml, hcap1, hcap2, hcap3, Nat.zero_add, Int.toNat_natCast, List.drop_zero, Nat.sub_zero]
                                  · try simp only [go_sem, hkk, decide_false, decide_true, Bool.not_true, Bool.not_false, List.length_map, hf, hno, hx, h81, hti, hdi, hcl, hc1, hc2, hml, hcap1, hcap2, hcap3, Nat.zero_add, Int.toNat_natCast, List.drop_zero, Nat.sub_zero] at hc
                                    all_goals
                                      refine skip_k ?_
                                      refine bn14 _ ?_
                                      refine hN13 _ ?_
                                      refine seq_k fun N21 M21 hN21 hM21 => ?_
                                      refine region_k fun K22 hK22 => ?_
                                      simp only [go_sem, hkk, decide_false, decide_true, Bool.not_true, Bool.not_false, List.length_map, hf, hno, hx, h81, hti, hdi, hcl, hc1, hc2, hml, hcap1, hcap2, hcap3, Nat.zero_add, Int.toNat_natCast, List.drop_zero, Nat.sub_zero]
                                      all_goals repeat' (first | apply And.intro | intro _)
                                      all_goals
                                        refine hK22 _ ?_
                                        refine hN21 _ ?_
                                        refine seq_k fun N23 M23 hN23 hM23 => ?_
                                        refine draw_k [58, 59, 60, 61, 62, 63, 64, 65, 66, 67, 6, 7] [0, 0, 0, 6, 14, 31, 0, 0, 192, 511, 1023, 2047] [(5, 6), (5, 7), (5, 8)] mixed (by kernel_rfl) (by simp only [go_sem]) fun K24 hK24 => ?_
                                        simp only [go_sem, hkk, decide_false, decide_true, Bool.not_true, Bool.not_false, List.length_map, hf, hno, hx, h81, hti, hdi, hcl, hc1, hc2, hml, hcap1, hcap2, hcap3, Nat.zero_add, Int.toNat_natCast, List.drop_zero, Nat.sub_zero]
                                        all_goals repeat' (first | apply And.intro | intro _)
                                        all_goals
                                          refine hK24 _ _ ?_ ?_
                                          · first | trivial | (simp only [go_sem]; done) | (simp only [go_sem]; simp; done) | (simp only [go_sem]; simp; simp only [go_sem])
                                          refine hN23 _ ?_
                                          refine ret_k ?_
                                          simp only [go_sem, hkk, decide_false, decide_true, Bool.not_true, Bool.not_false, List.length_map, hf, hno, hx, h81, hti, hdi, hcl, hc1, hc2, hml, hcap1, hcap2, hcap3, Nat.zero_add, Int.toNat_natCast, List.drop_zero, Nat.sub_zero]
                                          all_goals (rw [trust_in hf hno (find_hasnt (srt_of hf) hx) h8]; exact pins_obj (b := true) (by rw [pinned_ins hx]; simp [look, pinsC_nil, pinsC_append, pinsC_cons]) (pinnedF_ok hl ⟨hkk, hsl⟩) (by rw [pinned_ins hx]; simp [List.length_drop]; try omega))
set_option maxHeartbeats 800000 in
theorem trusted_bad_ (l : List PinD) (hl : ∀ p ∈ l, p.ok) (ex : Bool) (s : List UInt8) (hsl : s.length ≤ 9223372036854775807) (k : List UInt8) (hkk : k.length = 32) (hf : ¬ pinsFault l = 0) :
    Ct Try.prog 31 [.w (.one (.pl (.R ex 34 (pinRows l)))), .w (.one (.pl (.str s))), .w (.agg (bytesC k))] (Told (pinsV (trustP l s k).2 (trustP l s k).1)) := by
  have hf5 := fault_vals l hf
  refine Ct.k Try.func31 rfl Try.ntmps31 (congrArg Array.toList Try.results31) (by simp) fun w0 ro => ?_
  refine seq_k fun N1 M1 hN1 hM1 => ?_
  refine region_k fun K2 hK2 => ?_
  simp only [go_sem, hkk, decide_false, decide_true, Bool.not_true, Bool.not_false, List.length_map, hf, hf5, findP_bad hf, pinV, zeroPin]
  all_goals repeat' (first | apply And.intro | intro _)
  all_goals
    refine hK2 _ ?_
    refine hN1 _ ?_
    refine seq_k fun N3 M3 hN3 hM3 => ?_
    refine region_k fun K4 hK4 => ?_
    simp only [go_sem, hkk, decide_false, decide_true, Bool.not_true, Bool.not_false, List.length_map, hf, hf5, findP_bad hf, pinV, zeroPin]
    all_goals repeat' (first | apply And.intro | intro _)
    all_goals refine call_view (fun k => k) (fun _ _ => rfl) (by first | rfl | (simp only [go_sem, hkk, decide_false, decide_true, Bool.not_true, Bool.not_false, List.length_map, hf, hf5, findP_bad hf, pinV, zeroPin]; rfl) | simp only [go_sem, hkk, decide_false, decide_true, Bool.not_true, Bool.not_false, List.length_map, hf, hf5, findP_bad hf, pinV, zeroPin]) ((pin_of l hl ex s).plain fun _ _ h => h) ?_
    all_goals (rintro v m ⟨hR, hm⟩; subst hR; subst hm)
    all_goals refine And.intro (by first | rfl | simp only [go_sem, hkk, decide_false, decide_true, Bool.not_true, Bool.not_false, List.length_map, hf, hf5, findP_bad hf, pinV, zeroPin]) (And.intro (by first | rfl | simp only [go_sem, hkk, decide_false, decide_true, Bool.not_true, Bool.not_false, List.length_map, hf, hf5, findP_bad hf, pinV, zeroPin]) ?_)
    all_goals simp only [go_sem, hkk, decide_false, decide_true, Bool.not_true, Bool.not_false, List.length_map, hf, hf5, findP_bad hf, pinV, zeroPin]
    all_goals repeat' (first | apply And.intro | intro _)
    all_goals
      refine hK4 _ ?_
      refine hN3 _ ?_
      refine seq_k fun N5 M5 hN5 hM5 => ?_
      refine block_k fun B6 bn6 bx6 br6 bi6 => ?_
      refine seq_k fun N7 M7 hN7 hM7 => ?_
      refine region_k fun K8 hK8 => ?_
      simp only [go_sem, hkk, decide_false, decide_true, Bool.not_true, Bool.not_false, List.length_map, hf, hf5, findP_bad hf, pinV, zeroPin]
      all_goals repeat' (first | apply And.intro | intro _)
      all_goals
        refine hK8 _ ?_
        refine hN7 _ ?_
        refine cond_k rfl (fun hc => ?_) (fun hc => ?_)
        · exfalso; revert hc; simp [go_sem, hkk, decide_false, decide_true, Bool.not_true, Bool.not_false, List.length_map, hf, hf5, findP_bad hf, pinV, zeroPin]
        · try simp only [go_sem, hkk, decide_false, decide_true, Bool.not_true, Bool.not_false, List.length_map, hf, hf5, findP_bad hf, pinV, zeroPin] at hc
          all_goals
            refine seq_k fun N9 M9 hN9 hM9 => ?_
            refine region_k fun K10 hK10 => ?_
            simp only [go_sem, hkk, decide_false, decide_true, Bool.not_true, Bool.not_false, List.length_map, hf, hf5, findP_bad hf, pinV, zeroPin]
            all_goals repeat' (first | apply And.intro | intro _)
            all_goals
              refine hK10 _ ?_
              refine hN9 _ ?_
              refine cond_k rfl (fun hc => ?_) (fun hc => ?_)
              · exfalso; revert hc; simp [go_sem, hkk, decide_false, decide_true, Bool.not_true, Bool.not_false, List.length_map, hf, hf5, findP_bad hf, pinV, zeroPin]
              · try simp only [go_sem, hkk, decide_false, decide_true, Bool.not_true, Bool.not_false, List.length_map, hf, hf5, findP_bad hf, pinV, zeroPin] at hc
                all_goals
                  refine seq_k fun N11 M11 hN11 hM11 => ?_
                  refine region_k fun K12 hK12 => ?_
                  simp only [go_sem, hkk, decide_false, decide_true, Bool.not_true, Bool.not_false, List.length_map, hf, hf5, findP_bad hf, pinV, zeroPin]
                  all_goals repeat' (first | apply And.intro | intro _)
                  all_goals
                    refine hK12 _ ?_
                    refine hN11 _ ?_
                    refine cond_k rfl (fun hc => ?_) (fun hc => ?_)
                    · try simp only [go_sem, hkk, decide_false, decide_true, Bool.not_true, Bool.not_false, List.length_map, hf, hf5, findP_bad hf, pinV, zeroPin] at hc
                      all_goals
                        refine seq_k fun N13 M13 hN13 hM13 => ?_
                        refine region_k fun K14 hK14 => ?_
                        simp only [go_sem, hkk, decide_false, decide_true, Bool.not_true, Bool.not_false, List.length_map, hf, hf5, findP_bad hf, pinV, zeroPin]
                        all_goals repeat' (first | apply And.intro | intro _)
                        all_goals
                          refine hK14 _ ?_
                          refine hN13 _ ?_
                          refine ret_k ?_
                          refine br6 _ ?_
                          refine hM5 _ _ ?_
                          simp only [go_sem, hkk, decide_false, decide_true, Bool.not_true, Bool.not_false, List.length_map, hf, hf5, findP_bad hf, pinV, zeroPin]
                          all_goals (rw [trust_bad hf]; exact pins_nil)
                    · exfalso; revert hc; simp [go_sem, hkk, decide_false, decide_true, Bool.not_true, Bool.not_false, List.length_map, hf, hf5, findP_bad hf, pinV, zeroPin]
set_option maxHeartbeats 800000 in
theorem trusted_gone_ (l : List PinD) (hl : ∀ p ∈ l, p.ok) (ex : Bool) (s : List UInt8) (hsl : s.length ≤ 9223372036854775807) (k : List UInt8) (hkk : k.length = 32) (hf : pinsFault l = 0) (hx : hasP l s = true) (hpg : ∀ p, l[idxP l s]? = some p → p.gone = true) :
    Ct Try.prog 31 [.w (.one (.pl (.R ex 34 (pinRows l)))), .w (.one (.pl (.str s))), .w (.agg (bytesC k))] (Told (pinsV (trustP l s k).2 (trustP l s k).1)) := by
  obtain ⟨p, hp, hn, hlt, hfd⟩ := find_has (srt_of hf) hx
  have hno := has_ok hf hx
  have h8 := (pinsFault_zero hf).1
  have hg0 := pinRows_get hp
  have hk := (hl p (List.mem_of_getElem? hp)).1
  have hpl := pinC_length hk
  have hke := key_eq hk hkk
  have hc1 : ((idxP l s : Nat) : Int) < ((l.length : Nat) : Int) := by omega
  have hc2 : (0 : Int) ≤ ((idxP l s : Nat) : Int) := by omega
  have hg := hpg p hp
  refine Ct.k Try.func31 rfl Try.ntmps31 (congrArg Array.toList Try.results31) (by simp) fun w0 ro => ?_
  refine seq_k fun N1 M1 hN1 hM1 => ?_
  refine region_k fun K2 hK2 => ?_
  simp only [go_sem, hkk, decide_false, decide_true, Bool.not_true, Bool.not_false, List.length_map, hf, hno, hx, hg0, hk, hpl, hke, hc1, hc2, Int.toNat_natCast, hg, findP_some hf hfd, pinV]
  all_goals repeat' (first | apply And.intro | intro _)
  all_goals
    refine hK2 _ ?_
    refine hN1 _ ?_
    refine seq_k fun N3 M3 hN3 hM3 => ?_
    refine region_k fun K4 hK4 => ?_
    simp only [go_sem, hkk, decide_false, decide_true, Bool.not_true, Bool.not_false, List.length_map, hf, hno, hx, hg0, hk, hpl, hke, hc1, hc2, Int.toNat_natCast, hg, findP_some hf hfd, pinV]
    all_goals repeat' (first | apply And.intro | intro _)
    all_goals refine call_view (fun k => k) (fun _ _ => rfl) (by first | rfl | (simp only [go_sem, hkk, decide_false, decide_true, Bool.not_true, Bool.not_false, List.length_map, hf, hno, hx, hg0, hk, hpl, hke, hc1, hc2, Int.toNat_natCast, hg, findP_some hf hfd, pinV]; rfl) | simp only [go_sem, hkk, decide_false, decide_true, Bool.not_true, Bool.not_false, List.length_map, hf, hno, hx, hg0, hk, hpl, hke, hc1, hc2, Int.toNat_natCast, hg, findP_some hf hfd, pinV]) ((pin_of l hl ex s).plain fun _ _ h => h) ?_
    all_goals (rintro v m ⟨hR, hm⟩; subst hR; subst hm)
    all_goals refine And.intro (by first | rfl | simp only [go_sem, hkk, decide_false, decide_true, Bool.not_true, Bool.not_false, List.length_map, hf, hno, hx, hg0, hk, hpl, hke, hc1, hc2, Int.toNat_natCast, hg, findP_some hf hfd, pinV]) (And.intro (by first | rfl | simp only [go_sem, hkk, decide_false, decide_true, Bool.not_true, Bool.not_false, List.length_map, hf, hno, hx, hg0, hk, hpl, hke, hc1, hc2, Int.toNat_natCast, hg, findP_some hf hfd, pinV]) ?_)
    all_goals simp only [go_sem, hkk, decide_false, decide_true, Bool.not_true, Bool.not_false, List.length_map, hf, hno, hx, hg0, hk, hpl, hke, hc1, hc2, Int.toNat_natCast, hg, findP_some hf hfd, pinV]
    all_goals repeat' (first | apply And.intro | intro _)
    all_goals
      refine hK4 _ ?_
      refine hN3 _ ?_
      refine seq_k fun N5 M5 hN5 hM5 => ?_
      refine block_k fun B6 bn6 bx6 br6 bi6 => ?_
      refine seq_k fun N7 M7 hN7 hM7 => ?_
      refine region_k fun K8 hK8 => ?_
      simp only [go_sem, hkk, decide_false, decide_true, Bool.not_true, Bool.not_false, List.length_map, hf, hno, hx, hg0, hk, hpl, hke, hc1, hc2, Int.toNat_natCast, hg, findP_some hf hfd, pinV]
      all_goals repeat' (first | apply And.intro | intro _)
      all_goals
        refine hK8 _ ?_
        refine hN7 _ ?_
        refine cond_k rfl (fun hc => ?_) (fun hc => ?_)
        · try simp only [go_sem, hkk, decide_false, decide_true, Bool.not_true, Bool.not_false, List.length_map, hf, hno, hx, hg0, hk, hpl, hke, hc1, hc2, Int.toNat_natCast, hg, findP_some hf hfd, pinV] at hc
          all_goals
            refine seq_k fun N9 M9 hN9 hM9 => ?_
            refine region_k fun K10 hK10 => ?_
            simp only [go_sem, hkk, decide_false, decide_true, Bool.not_true, Bool.not_false, List.length_map, hf, hno, hx, hg0, hk, hpl, hke, hc1, hc2, Int.toNat_natCast, hg, findP_some hf hfd, pinV]
            all_goals repeat' (first | apply And.intro | intro _)
            all_goals
              refine hK10 _ ?_
              refine hN9 _ ?_
              refine ret_k ?_
              refine br6 _ ?_
              refine hM5 _ _ ?_
              simp only [go_sem, hkk, decide_false, decide_true, Bool.not_true, Bool.not_false, List.length_map, hf, hno, hx, hg0, hk, hpl, hke, hc1, hc2, Int.toNat_natCast, hg, findP_some hf hfd, pinV]
              all_goals (rw [trust_pin hf hno hfd (.inl hg)]; exact pins_nil)
        · exfalso; revert hc; simp [go_sem, hkk, decide_false, decide_true, Bool.not_true, Bool.not_false, List.length_map, hf, hno, hx, hg0, hk, hpl, hke, hc1, hc2, Int.toNat_natCast, hg, findP_some hf hfd, pinV]
set_option maxHeartbeats 800000 in
theorem trusted_key_ (l : List PinD) (hl : ∀ p ∈ l, p.ok) (ex : Bool) (s : List UInt8) (hsl : s.length ≤ 9223372036854775807) (k : List UInt8) (hkk : k.length = 32) (hf : pinsFault l = 0) (hx : hasP l s = true) (hpg : ∀ p, l[idxP l s]? = some p → p.gone = false) (hpk : ∀ p, l[idxP l s]? = some p → (p.key = k) = False) :
    Ct Try.prog 31 [.w (.one (.pl (.R ex 34 (pinRows l)))), .w (.one (.pl (.str s))), .w (.agg (bytesC k))] (Told (pinsV (trustP l s k).2 (trustP l s k).1)) := by
  obtain ⟨p, hp, hn, hlt, hfd⟩ := find_has (srt_of hf) hx
  have hno := has_ok hf hx
  have h8 := (pinsFault_zero hf).1
  have hg0 := pinRows_get hp
  have hk := (hl p (List.mem_of_getElem? hp)).1
  have hpl := pinC_length hk
  have hke := key_eq hk hkk
  have hc1 : ((idxP l s : Nat) : Int) < ((l.length : Nat) : Int) := by omega
  have hc2 : (0 : Int) ≤ ((idxP l s : Nat) : Int) := by omega
  have hg := hpg p hp
  have hkp := hpk p hp
  refine Ct.k Try.func31 rfl Try.ntmps31 (congrArg Array.toList Try.results31) (by simp) fun w0 ro => ?_
  refine seq_k fun N1 M1 hN1 hM1 => ?_
  refine region_k fun K2 hK2 => ?_
  simp only [go_sem, hkk, decide_false, decide_true, Bool.not_true, Bool.not_false, List.length_map, hf, hno, hx, hg0, hk, hpl, hke, hc1, hc2, Int.toNat_natCast, hg, hkp, findP_some hf hfd, pinV]
  all_goals repeat' (first | apply And.intro | intro _)
  all_goals
    refine hK2 _ ?_
    refine hN1 _ ?_
    refine seq_k fun N3 M3 hN3 hM3 => ?_
    refine region_k fun K4 hK4 => ?_
    simp only [go_sem, hkk, decide_false, decide_true, Bool.not_true, Bool.not_false, List.length_map, hf, hno, hx, hg0, hk, hpl, hke, hc1, hc2, Int.toNat_natCast, hg, hkp, findP_some hf hfd, pinV]
    all_goals repeat' (first | apply And.intro | intro _)
    all_goals refine call_view (fun k => k) (fun _ _ => rfl) (by first | rfl | (simp only [go_sem, hkk, decide_false, decide_true, Bool.not_true, Bool.not_false, List.length_map, hf, hno, hx, hg0, hk, hpl, hke, hc1, hc2, Int.toNat_natCast, hg, hkp, findP_some hf hfd, pinV]; rfl) | simp only [go_sem, hkk, decide_false, decide_true, Bool.not_true, Bool.not_false, List.length_map, hf, hno, hx, hg0, hk, hpl, hke, hc1, hc2, Int.toNat_natCast, hg, hkp, findP_some hf hfd, pinV]) ((pin_of l hl ex s).plain fun _ _ h => h) ?_
    all_goals (rintro v m ⟨hR, hm⟩; subst hR; subst hm)
    all_goals refine And.intro (by first | rfl | simp only [go_sem, hkk, decide_false, decide_true, Bool.not_true, Bool.not_false, List.length_map, hf, hno, hx, hg0, hk, hpl, hke, hc1, hc2, Int.toNat_natCast, hg, hkp, findP_some hf hfd, pinV]) (And.intro (by first | rfl | simp only [go_sem, hkk, decide_false, decide_true, Bool.not_true, Bool.not_false, List.length_map, hf, hno, hx, hg0, hk, hpl, hke, hc1, hc2, Int.toNat_natCast, hg, hkp, findP_some hf hfd, pinV]) ?_)
    all_goals simp only [go_sem, hkk, decide_false, decide_true, Bool.not_true, Bool.not_false, List.length_map, hf, hno, hx, hg0, hk, hpl, hke, hc1, hc2, Int.toNat_natCast, hg, hkp, findP_some hf hfd, pinV]
    all_goals repeat' (first | apply And.intro | intro _)
    all_goals
      refine hK4 _ ?_
      refine hN3 _ ?_
      refine seq_k fun N5 M5 hN5 hM5 => ?_
      refine block_k fun B6 bn6 bx6 br6 bi6 => ?_
      refine seq_k fun N7 M7 hN7 hM7 => ?_
      refine region_k fun K8 hK8 => ?_
      simp only [go_sem, hkk, decide_false, decide_true, Bool.not_true, Bool.not_false, List.length_map, hf, hno, hx, hg0, hk, hpl, hke, hc1, hc2, Int.toNat_natCast, hg, hkp, findP_some hf hfd, pinV]
      all_goals repeat' (first | apply And.intro | intro _)
      all_goals
        refine hK8 _ ?_
        refine hN7 _ ?_
        refine cond_k rfl (fun hc => ?_) (fun hc => ?_)
        · try simp only [go_sem, hkk, decide_false, decide_true, Bool.not_true, Bool.not_false, List.length_map, hf, hno, hx, hg0, hk, hpl, hke, hc1, hc2, Int.toNat_natCast, hg, hkp, findP_some hf hfd, pinV] at hc
          all_goals
            refine seq_k fun N9 M9 hN9 hM9 => ?_
            refine region_k fun K10 hK10 => ?_
            simp only [go_sem, hkk, decide_false, decide_true, Bool.not_true, Bool.not_false, List.length_map, hf, hno, hx, hg0, hk, hpl, hke, hc1, hc2, Int.toNat_natCast, hg, hkp, findP_some hf hfd, pinV]
            all_goals repeat' (first | apply And.intro | intro _)
            all_goals
              refine hK10 _ ?_
              refine hN9 _ ?_
              refine ret_k ?_
              refine br6 _ ?_
              refine hM5 _ _ ?_
              simp only [go_sem, hkk, decide_false, decide_true, Bool.not_true, Bool.not_false, List.length_map, hf, hno, hx, hg0, hk, hpl, hke, hc1, hc2, Int.toNat_natCast, hg, hkp, findP_some hf hfd, pinV]
              all_goals (rw [trust_pin hf hno hfd (.inr (of_eq_false hkp))]; exact pins_nil)
        · exfalso; revert hc; simp [go_sem, hkk, decide_false, decide_true, Bool.not_true, Bool.not_false, List.length_map, hf, hno, hx, hg0, hk, hpl, hke, hc1, hc2, Int.toNat_natCast, hg, hkp, findP_some hf hfd, pinV]
set_option maxHeartbeats 800000 in
theorem trusted_same_ (l : List PinD) (hl : ∀ p ∈ l, p.ok) (ex : Bool) (s : List UInt8) (hsl : s.length ≤ 9223372036854775807) (k : List UInt8) (hkk : k.length = 32) (hf : pinsFault l = 0) (hx : hasP l s = true) (hpg : ∀ p, l[idxP l s]? = some p → p.gone = false) (hpk : ∀ p, l[idxP l s]? = some p → (p.key = k) = True) :
    Ct Try.prog 31 [.w (.one (.pl (.R ex 34 (pinRows l)))), .w (.one (.pl (.str s))), .w (.agg (bytesC k))] (Told (pinsV (trustP l s k).2 (trustP l s k).1)) := by
  obtain ⟨p, hp, hn, hlt, hfd⟩ := find_has (srt_of hf) hx
  have hno := has_ok hf hx
  have h8 := (pinsFault_zero hf).1
  have hg0 := pinRows_get hp
  have hk := (hl p (List.mem_of_getElem? hp)).1
  have hpl := pinC_length hk
  have hke := key_eq hk hkk
  have hc1 : ((idxP l s : Nat) : Int) < ((l.length : Nat) : Int) := by omega
  have hc2 : (0 : Int) ≤ ((idxP l s : Nat) : Int) := by omega
  have hg := hpg p hp
  have hkp := hpk p hp
  refine Ct.k Try.func31 rfl Try.ntmps31 (congrArg Array.toList Try.results31) (by simp) fun w0 ro => ?_
  refine seq_k fun N1 M1 hN1 hM1 => ?_
  refine region_k fun K2 hK2 => ?_
  simp only [go_sem, hkk, decide_false, decide_true, Bool.not_true, Bool.not_false, List.length_map, hf, hno, hx, hg0, hk, hpl, hke, hc1, hc2, Int.toNat_natCast, hg, hkp, findP_some hf hfd, pinV]
  all_goals repeat' (first | apply And.intro | intro _)
  all_goals
    refine hK2 _ ?_
    refine hN1 _ ?_
    refine seq_k fun N3 M3 hN3 hM3 => ?_
    refine region_k fun K4 hK4 => ?_
    simp only [go_sem, hkk, decide_false, decide_true, Bool.not_true, Bool.not_false, List.length_map, hf, hno, hx, hg0, hk, hpl, hke, hc1, hc2, Int.toNat_natCast, hg, hkp, findP_some hf hfd, pinV]
    all_goals repeat' (first | apply And.intro | intro _)
    all_goals refine call_view (fun k => k) (fun _ _ => rfl) (by first | rfl | (simp only [go_sem, hkk, decide_false, decide_true, Bool.not_true, Bool.not_false, List.length_map, hf, hno, hx, hg0, hk, hpl, hke, hc1, hc2, Int.toNat_natCast, hg, hkp, findP_some hf hfd, pinV]; rfl) | simp only [go_sem, hkk, decide_false, decide_true, Bool.not_true, Bool.not_false, List.length_map, hf, hno, hx, hg0, hk, hpl, hke, hc1, hc2, Int.toNat_natCast, hg, hkp, findP_some hf hfd, pinV]) ((pin_of l hl ex s).plain fun _ _ h => h) ?_
    all_goals (rintro v m ⟨hR, hm⟩; subst hR; subst hm)
    all_goals refine And.intro (by first | rfl | simp only [go_sem, hkk, decide_false, decide_true, Bool.not_true, Bool.not_false, List.length_map, hf, hno, hx, hg0, hk, hpl, hke, hc1, hc2, Int.toNat_natCast, hg, hkp, findP_some hf hfd, pinV]) (And.intro (by first | rfl | simp only [go_sem, hkk, decide_false, decide_true, Bool.not_true, Bool.not_false, List.length_map, hf, hno, hx, hg0, hk, hpl, hke, hc1, hc2, Int.toNat_natCast, hg, hkp, findP_some hf hfd, pinV]) ?_)
    all_goals simp only [go_sem, hkk, decide_false, decide_true, Bool.not_true, Bool.not_false, List.length_map, hf, hno, hx, hg0, hk, hpl, hke, hc1, hc2, Int.toNat_natCast, hg, hkp, findP_some hf hfd, pinV]
    all_goals repeat' (first | apply And.intro | intro _)
    all_goals
      refine hK4 _ ?_
      refine hN3 _ ?_
      refine seq_k fun N5 M5 hN5 hM5 => ?_
      refine block_k fun B6 bn6 bx6 br6 bi6 => ?_
      refine seq_k fun N7 M7 hN7 hM7 => ?_
      refine region_k fun K8 hK8 => ?_
      simp only [go_sem, hkk, decide_false, decide_true, Bool.not_true, Bool.not_false, List.length_map, hf, hno, hx, hg0, hk, hpl, hke, hc1, hc2, Int.toNat_natCast, hg, hkp, findP_some hf hfd, pinV]
      all_goals repeat' (first | apply And.intro | intro _)
      all_goals
        refine hK8 _ ?_
        refine hN7 _ ?_
        refine cond_k rfl (fun hc => ?_) (fun hc => ?_)
        · exfalso; revert hc; simp [go_sem, hkk, decide_false, decide_true, Bool.not_true, Bool.not_false, List.length_map, hf, hno, hx, hg0, hk, hpl, hke, hc1, hc2, Int.toNat_natCast, hg, hkp, findP_some hf hfd, pinV]
        · try simp only [go_sem, hkk, decide_false, decide_true, Bool.not_true, Bool.not_false, List.length_map, hf, hno, hx, hg0, hk, hpl, hke, hc1, hc2, Int.toNat_natCast, hg, hkp, findP_some hf hfd, pinV] at hc
          all_goals
            refine seq_k fun N9 M9 hN9 hM9 => ?_
            refine region_k fun K10 hK10 => ?_
            simp only [go_sem, hkk, decide_false, decide_true, Bool.not_true, Bool.not_false, List.length_map, hf, hno, hx, hg0, hk, hpl, hke, hc1, hc2, Int.toNat_natCast, hg, hkp, findP_some hf hfd, pinV]
            all_goals repeat' (first | apply And.intro | intro _)
            all_goals
              refine hK10 _ ?_
              refine hN9 _ ?_
              refine cond_k rfl (fun hc => ?_) (fun hc => ?_)
              · try simp only [go_sem, hkk, decide_false, decide_true, Bool.not_true, Bool.not_false, List.length_map, hf, hno, hx, hg0, hk, hpl, hke, hc1, hc2, Int.toNat_natCast, hg, hkp, findP_some hf hfd, pinV] at hc
                all_goals
                  refine seq_k fun N11 M11 hN11 hM11 => ?_
                  refine region_k fun K12 hK12 => ?_
                  simp only [go_sem, hkk, decide_false, decide_true, Bool.not_true, Bool.not_false, List.length_map, hf, hno, hx, hg0, hk, hpl, hke, hc1, hc2, Int.toNat_natCast, hg, hkp, findP_some hf hfd, pinV]
                  all_goals repeat' (first | apply And.intro | intro _)
                  all_goals
                    refine hK12 _ ?_
                    refine hN11 _ ?_
                    refine ret_k ?_
                    refine br6 _ ?_
                    refine hM5 _ _ ?_
                    simp only [go_sem, hkk, decide_false, decide_true, Bool.not_true, Bool.not_false, List.length_map, hf, hno, hx, hg0, hk, hpl, hke, hc1, hc2, Int.toNat_natCast, hg, hkp, findP_some hf hfd, pinV]
                    all_goals (rw [trust_same hf hno hfd hg (of_eq_true hkp)]; exact pins_same l)
              · exfalso; revert hc; simp [go_sem, hkk, decide_false, decide_true, Bool.not_true, Bool.not_false, List.length_map, hf, hno, hx, hg0, hk, hpl, hke, hc1, hc2, Int.toNat_natCast, hg, hkp, findP_some hf hfd, pinV]
set_option maxHeartbeats 800000 in
theorem trusted_name_ (l : List PinD) (hl : ∀ p ∈ l, p.ok) (ex : Bool) (s : List UInt8) (hsl : s.length ≤ 9223372036854775807) (k : List UInt8) (hkk : k.length = 32) (hf : pinsFault l = 0) (hno : nameOk s = false) (hx : hasP l s = false) :
    Ct Try.prog 31 [.w (.one (.pl (.R ex 34 (pinRows l)))), .w (.one (.pl (.str s))), .w (.agg (bytesC k))] (Told (pinsV (trustP l s k).2 (trustP l s k).1)) := by
  have hfd := find_hasnt (srt_of hf) hx
  refine Ct.k Try.func31 rfl Try.ntmps31 (congrArg Array.toList Try.results31) (by simp) fun w0 ro => ?_
  refine seq_k fun N1 M1 hN1 hM1 => ?_
  refine region_k fun K2 hK2 => ?_
  simp only [go_sem, hkk, decide_false, decide_true, Bool.not_true, Bool.not_false, List.length_map, hf, hno, hx, findP_none hf hfd, pinV, zeroPin]
  all_goals repeat' (first | apply And.intro | intro _)
  all_goals
    refine hK2 _ ?_
    refine hN1 _ ?_
    refine seq_k fun N3 M3 hN3 hM3 => ?_
    refine region_k fun K4 hK4 => ?_
    simp only [go_sem, hkk, decide_false, decide_true, Bool.not_true, Bool.not_false, List.length_map, hf, hno, hx, findP_none hf hfd, pinV, zeroPin]
    all_goals repeat' (first | apply And.intro | intro _)
    all_goals refine call_view (fun k => k) (fun _ _ => rfl) (by first | rfl | (simp only [go_sem, hkk, decide_false, decide_true, Bool.not_true, Bool.not_false, List.length_map, hf, hno, hx, findP_none hf hfd, pinV, zeroPin]; rfl) | simp only [go_sem, hkk, decide_false, decide_true, Bool.not_true, Bool.not_false, List.length_map, hf, hno, hx, findP_none hf hfd, pinV, zeroPin]) ((pin_of l hl ex s).plain fun _ _ h => h) ?_
    all_goals (rintro v m ⟨hR, hm⟩; subst hR; subst hm)
    all_goals refine And.intro (by first | rfl | simp only [go_sem, hkk, decide_false, decide_true, Bool.not_true, Bool.not_false, List.length_map, hf, hno, hx, findP_none hf hfd, pinV, zeroPin]) (And.intro (by first | rfl | simp only [go_sem, hkk, decide_false, decide_true, Bool.not_true, Bool.not_false, List.length_map, hf, hno, hx, findP_none hf hfd, pinV, zeroPin]) ?_)
    all_goals simp only [go_sem, hkk, decide_false, decide_true, Bool.not_true, Bool.not_false, List.length_map, hf, hno, hx, findP_none hf hfd, pinV, zeroPin]
    all_goals repeat' (first | apply And.intro | intro _)
    all_goals
      refine hK4 _ ?_
      refine hN3 _ ?_
      refine seq_k fun N5 M5 hN5 hM5 => ?_
      refine block_k fun B6 bn6 bx6 br6 bi6 => ?_
      refine seq_k fun N7 M7 hN7 hM7 => ?_
      refine region_k fun K8 hK8 => ?_
      simp only [go_sem, hkk, decide_false, decide_true, Bool.not_true, Bool.not_false, List.length_map, hf, hno, hx, findP_none hf hfd, pinV, zeroPin]
      all_goals repeat' (first | apply And.intro | intro _)
      all_goals
        refine hK8 _ ?_
        refine hN7 _ ?_
        refine cond_k rfl (fun hc => ?_) (fun hc => ?_)
        · exfalso; revert hc; simp [go_sem, hkk, decide_false, decide_true, Bool.not_true, Bool.not_false, List.length_map, hf, hno, hx, findP_none hf hfd, pinV, zeroPin]
        · try simp only [go_sem, hkk, decide_false, decide_true, Bool.not_true, Bool.not_false, List.length_map, hf, hno, hx, findP_none hf hfd, pinV, zeroPin] at hc
          all_goals
            refine seq_k fun N9 M9 hN9 hM9 => ?_
            refine region_k fun K10 hK10 => ?_
            simp only [go_sem, hkk, decide_false, decide_true, Bool.not_true, Bool.not_false, List.length_map, hf, hno, hx, findP_none hf hfd, pinV, zeroPin]
            all_goals repeat' (first | apply And.intro | intro _)
            all_goals
              refine hK10 _ ?_
              refine hN9 _ ?_
              refine cond_k rfl (fun hc => ?_) (fun hc => ?_)
              · exfalso; revert hc; simp [go_sem, hkk, decide_false, decide_true, Bool.not_true, Bool.not_false, List.length_map, hf, hno, hx, findP_none hf hfd, pinV, zeroPin]
              · try simp only [go_sem, hkk, decide_false, decide_true, Bool.not_true, Bool.not_false, List.length_map, hf, hno, hx, findP_none hf hfd, pinV, zeroPin] at hc
                all_goals
                  refine seq_k fun N11 M11 hN11 hM11 => ?_
                  refine region_k fun K12 hK12 => ?_
                  simp only [go_sem, hkk, decide_false, decide_true, Bool.not_true, Bool.not_false, List.length_map, hf, hno, hx, findP_none hf hfd, pinV, zeroPin]
                  all_goals repeat' (first | apply And.intro | intro _)
                  all_goals
                    refine hK12 _ ?_
                    refine hN11 _ ?_
                    refine cond_k rfl (fun hc => ?_) (fun hc => ?_)
                    · exfalso; revert hc; simp [go_sem, hkk, decide_false, decide_true, Bool.not_true, Bool.not_false, List.length_map, hf, hno, hx, findP_none hf hfd, pinV, zeroPin]
                    · try simp only [go_sem, hkk, decide_false, decide_true, Bool.not_true, Bool.not_false, List.length_map, hf, hno, hx, findP_none hf hfd, pinV, zeroPin] at hc
                      all_goals
                        refine seq_k fun N13 M13 hN13 hM13 => ?_
                        refine region_k fun K14 hK14 => ?_
                        simp only [go_sem, hkk, decide_false, decide_true, Bool.not_true, Bool.not_false, List.length_map, hf, hno, hx, findP_none hf hfd, pinV, zeroPin]
                        all_goals repeat' (first | apply And.intro | intro _)
                        all_goals refine call_view (fun k => k) (fun _ _ => rfl) (by first | rfl | (simp only [go_sem, hkk, decide_false, decide_true, Bool.not_true, Bool.not_false, List.length_map, hf, hno, hx, findP_none hf hfd, pinV, zeroPin]; rfl) | simp only [go_sem, hkk, decide_false, decide_true, Bool.not_true, Bool.not_false, List.length_map, hf, hno, hx, findP_none hf hfd, pinV, zeroPin]) ((is_name s hsl).plain fun _ _ h => h) ?_
                        all_goals (rintro v m ⟨hR, hm⟩; subst hR; subst hm)
                        all_goals refine And.intro (by first | rfl | simp only [go_sem, hkk, decide_false, decide_true, Bool.not_true, Bool.not_false, List.length_map, hf, hno, hx, findP_none hf hfd, pinV, zeroPin]) (And.intro (by first | rfl | simp only [go_sem, hkk, decide_false, decide_true, Bool.not_true, Bool.not_false, List.length_map, hf, hno, hx, findP_none hf hfd, pinV, zeroPin]) ?_)
                        all_goals simp only [go_sem, hkk, decide_false, decide_true, Bool.not_true, Bool.not_false, List.length_map, hf, hno, hx, findP_none hf hfd, pinV, zeroPin]
                        all_goals repeat' (first | apply And.intro | intro _)
                        all_goals
                          refine hK14 _ ?_
                          refine hN13 _ ?_
                          refine cond_k rfl (fun hc => ?_) (fun hc => ?_)
                          · try simp only [go_sem, hkk, decide_false, decide_true, Bool.not_true, Bool.not_false, List.length_map, hf, hno, hx, findP_none hf hfd, pinV, zeroPin] at hc
                            all_goals
                              refine seq_k fun N15 M15 hN15 hM15 => ?_
                              refine region_k fun K16 hK16 => ?_
                              simp only [go_sem, hkk, decide_false, decide_true, Bool.not_true, Bool.not_false, List.length_map, hf, hno, hx, findP_none hf hfd, pinV, zeroPin]
                              all_goals repeat' (first | apply And.intro | intro _)
                              all_goals
                                refine hK16 _ ?_
                                refine hN15 _ ?_
                                refine ret_k ?_
                                refine br6 _ ?_
                                refine hM5 _ _ ?_
                                simp only [go_sem, hkk, decide_false, decide_true, Bool.not_true, Bool.not_false, List.length_map, hf, hno, hx, findP_none hf hfd, pinV, zeroPin]
                                all_goals (rw [trust_name hf hno]; exact pins_nil)
                          · exfalso; revert hc; simp [go_sem, hkk, decide_false, decide_true, Bool.not_true, Bool.not_false, List.length_map, hf, hno, hx, findP_none hf hfd, pinV, zeroPin]
set_option maxHeartbeats 800000 in
theorem trusted_full_ (l : List PinD) (hl : ∀ p ∈ l, p.ok) (ex : Bool) (s : List UInt8) (hsl : s.length ≤ 9223372036854775807) (k : List UInt8) (hkk : k.length = 32) (hf : pinsFault l = 0) (hno : nameOk s = true) (hx : hasP l s = false) (h8 : l.length = 8) :
    Ct Try.prog 31 [.w (.one (.pl (.R ex 34 (pinRows l)))), .w (.one (.pl (.str s))), .w (.agg (bytesC k))] (Told (pinsV (trustP l s k).2 (trustP l s k).1)) := by
  have hfd := find_hasnt (srt_of hf) hx
  refine Ct.k Try.func31 rfl Try.ntmps31 (congrArg Array.toList Try.results31) (by simp) fun w0 ro => ?_
  refine seq_k fun N1 M1 hN1 hM1 => ?_
  refine region_k fun K2 hK2 => ?_
  simp only [go_sem, hkk, decide_false, decide_true, Bool.not_true, Bool.not_false, List.length_map, hf, hno, hx, h8, findP_none hf hfd, pinV, zeroPin]
  all_goals repeat' (first | apply And.intro | intro _)
  all_goals
    refine hK2 _ ?_
    refine hN1 _ ?_
    refine seq_k fun N3 M3 hN3 hM3 => ?_
    refine region_k fun K4 hK4 => ?_
    simp only [go_sem, hkk, decide_false, decide_true, Bool.not_true, Bool.not_false, List.length_map, hf, hno, hx, h8, findP_none hf hfd, pinV, zeroPin]
    all_goals repeat' (first | apply And.intro | intro _)
    all_goals refine call_view (fun k => k) (fun _ _ => rfl) (by first | rfl | (simp only [go_sem, hkk, decide_false, decide_true, Bool.not_true, Bool.not_false, List.length_map, hf, hno, hx, h8, findP_none hf hfd, pinV, zeroPin]; rfl) | simp only [go_sem, hkk, decide_false, decide_true, Bool.not_true, Bool.not_false, List.length_map, hf, hno, hx, h8, findP_none hf hfd, pinV, zeroPin]) ((pin_of l hl ex s).plain fun _ _ h => h) ?_
    all_goals (rintro v m ⟨hR, hm⟩; subst hR; subst hm)
    all_goals refine And.intro (by first | rfl | simp only [go_sem, hkk, decide_false, decide_true, Bool.not_true, Bool.not_false, List.length_map, hf, hno, hx, h8, findP_none hf hfd, pinV, zeroPin]) (And.intro (by first | rfl | simp only [go_sem, hkk, decide_false, decide_true, Bool.not_true, Bool.not_false, List.length_map, hf, hno, hx, h8, findP_none hf hfd, pinV, zeroPin]) ?_)
    all_goals simp only [go_sem, hkk, decide_false, decide_true, Bool.not_true, Bool.not_false, List.length_map, hf, hno, hx, h8, findP_none hf hfd, pinV, zeroPin]
    all_goals repeat' (first | apply And.intro | intro _)
    all_goals
      refine hK4 _ ?_
      refine hN3 _ ?_
      refine seq_k fun N5 M5 hN5 hM5 => ?_
      refine block_k fun B6 bn6 bx6 br6 bi6 => ?_
      refine seq_k fun N7 M7 hN7 hM7 => ?_
      refine region_k fun K8 hK8 => ?_
      simp only [go_sem, hkk, decide_false, decide_true, Bool.not_true, Bool.not_false, List.length_map, hf, hno, hx, h8, findP_none hf hfd, pinV, zeroPin]
      all_goals repeat' (first | apply And.intro | intro _)
      all_goals
        refine hK8 _ ?_
        refine hN7 _ ?_
        refine cond_k rfl (fun hc => ?_) (fun hc => ?_)
        · exfalso; revert hc; simp [go_sem, hkk, decide_false, decide_true, Bool.not_true, Bool.not_false, List.length_map, hf, hno, hx, h8, findP_none hf hfd, pinV, zeroPin]
        · try simp only [go_sem, hkk, decide_false, decide_true, Bool.not_true, Bool.not_false, List.length_map, hf, hno, hx, h8, findP_none hf hfd, pinV, zeroPin] at hc
          all_goals
            refine seq_k fun N9 M9 hN9 hM9 => ?_
            refine region_k fun K10 hK10 => ?_
            simp only [go_sem, hkk, decide_false, decide_true, Bool.not_true, Bool.not_false, List.length_map, hf, hno, hx, h8, findP_none hf hfd, pinV, zeroPin]
            all_goals repeat' (first | apply And.intro | intro _)
            all_goals
              refine hK10 _ ?_
              refine hN9 _ ?_
              refine cond_k rfl (fun hc => ?_) (fun hc => ?_)
              · exfalso; revert hc; simp [go_sem, hkk, decide_false, decide_true, Bool.not_true, Bool.not_false, List.length_map, hf, hno, hx, h8, findP_none hf hfd, pinV, zeroPin]
              · try simp only [go_sem, hkk, decide_false, decide_true, Bool.not_true, Bool.not_false, List.length_map, hf, hno, hx, h8, findP_none hf hfd, pinV, zeroPin] at hc
                all_goals
                  refine seq_k fun N11 M11 hN11 hM11 => ?_
                  refine region_k fun K12 hK12 => ?_
                  simp only [go_sem, hkk, decide_false, decide_true, Bool.not_true, Bool.not_false, List.length_map, hf, hno, hx, h8, findP_none hf hfd, pinV, zeroPin]
                  all_goals repeat' (first | apply And.intro | intro _)
                  all_goals
                    refine hK12 _ ?_
                    refine hN11 _ ?_
                    refine cond_k rfl (fun hc => ?_) (fun hc => ?_)
                    · exfalso; revert hc; simp [go_sem, hkk, decide_false, decide_true, Bool.not_true, Bool.not_false, List.length_map, hf, hno, hx, h8, findP_none hf hfd, pinV, zeroPin]
                    · try simp only [go_sem, hkk, decide_false, decide_true, Bool.not_true, Bool.not_false, List.length_map, hf, hno, hx, h8, findP_none hf hfd, pinV, zeroPin] at hc
                      all_goals
                        refine seq_k fun N13 M13 hN13 hM13 => ?_
                        refine region_k fun K14 hK14 => ?_
                        simp only [go_sem, hkk, decide_false, decide_true, Bool.not_true, Bool.not_false, List.length_map, hf, hno, hx, h8, findP_none hf hfd, pinV, zeroPin]
                        all_goals repeat' (first | apply And.intro | intro _)
                        all_goals refine call_view (fun k => k) (fun _ _ => rfl) (by first | rfl | (simp only [go_sem, hkk, decide_false, decide_true, Bool.not_true, Bool.not_false, List.length_map, hf, hno, hx, h8, findP_none hf hfd, pinV, zeroPin]; rfl) | simp only [go_sem, hkk, decide_false, decide_true, Bool.not_true, Bool.not_false, List.length_map, hf, hno, hx, h8, findP_none hf hfd, pinV, zeroPin]) ((is_name s hsl).plain fun _ _ h => h) ?_
                        all_goals (rintro v m ⟨hR, hm⟩; subst hR; subst hm)
                        all_goals refine And.intro (by first | rfl | simp only [go_sem, hkk, decide_false, decide_true, Bool.not_true, Bool.not_false, List.length_map, hf, hno, hx, h8, findP_none hf hfd, pinV, zeroPin]) (And.intro (by first | rfl | simp only [go_sem, hkk, decide_false, decide_true, Bool.not_true, Bool.not_false, List.length_map, hf, hno, hx, h8, findP_none hf hfd, pinV, zeroPin]) ?_)
                        all_goals simp only [go_sem, hkk, decide_false, decide_true, Bool.not_true, Bool.not_false, List.length_map, hf, hno, hx, h8, findP_none hf hfd, pinV, zeroPin]
                        all_goals repeat' (first | apply And.intro | intro _)
                        all_goals
                          refine hK14 _ ?_
                          refine hN13 _ ?_
                          refine cond_k rfl (fun hc => ?_) (fun hc => ?_)
                          · exfalso; revert hc; simp [go_sem, hkk, decide_false, decide_true, Bool.not_true, Bool.not_false, List.length_map, hf, hno, hx, h8, findP_none hf hfd, pinV, zeroPin]
                          · try simp only [go_sem, hkk, decide_false, decide_true, Bool.not_true, Bool.not_false, List.length_map, hf, hno, hx, h8, findP_none hf hfd, pinV, zeroPin] at hc
                            all_goals
                              refine seq_k fun N15 M15 hN15 hM15 => ?_
                              refine region_k fun K16 hK16 => ?_
                              simp only [go_sem, hkk, decide_false, decide_true, Bool.not_true, Bool.not_false, List.length_map, hf, hno, hx, h8, findP_none hf hfd, pinV, zeroPin]
                              all_goals repeat' (first | apply And.intro | intro _)
                              all_goals
                                refine hK16 _ ?_
                                refine hN15 _ ?_
                                refine cond_k rfl (fun hc => ?_) (fun hc => ?_)
                                · try simp only [go_sem, hkk, decide_false, decide_true, Bool.not_true, Bool.not_false, List.length_map, hf, hno, hx, h8, findP_none hf hfd, pinV, zeroPin] at hc
                                  all_goals
                                    refine seq_k fun N17 M17 hN17 hM17 => ?_
                                    refine region_k fun K18 hK18 => ?_
                                    simp only [go_sem, hkk, decide_false, decide_true, Bool.not_true, Bool.not_false, List.length_map, hf, hno, hx, h8, findP_none hf hfd, pinV, zeroPin]
                                    all_goals repeat' (first | apply And.intro | intro _)
                                    all_goals
                                      refine hK18 _ ?_
                                      refine hN17 _ ?_
                                      refine ret_k ?_
                                      refine br6 _ ?_
                                      refine hM5 _ _ ?_
                                      simp only [go_sem, hkk, decide_false, decide_true, Bool.not_true, Bool.not_false, List.length_map, hf, hno, hx, h8, findP_none hf hfd, pinV, zeroPin]
                                      all_goals (rw [trust_full hf hno hfd h8]; exact pins_nil)
                                · exfalso; revert hc; simp [go_sem, hkk, decide_false, decide_true, Bool.not_true, Bool.not_false, List.length_map, hf, hno, hx, h8, findP_none hf hfd, pinV, zeroPin]
set_option maxHeartbeats 800000 in
theorem trusted_in_ (l : List PinD) (hl : ∀ p ∈ l, p.ok) (ex : Bool) (s : List UInt8) (hsl : s.length ≤ 9223372036854775807) (k : List UInt8) (hkk : k.length = 32) (hf : pinsFault l = 0) (hno : nameOk s = true) (hx : hasP l s = false) (h8 : ¬ l.length = 8) :
    Ct Try.prog 31 [.w (.one (.pl (.R ex 34 (pinRows l)))), .w (.one (.pl (.str s))), .w (.agg (bytesC k))] (Told (pinsV (trustP l s k).2 (trustP l s k).1)) := by
  have hfd := find_hasnt (srt_of hf) hx
  have h81 : (((l.length : Nat) : Int) = 8) = False := by simp; omega
  refine Ct.k Try.func31 rfl Try.ntmps31 (congrArg Array.toList Try.results31) (by simp) fun w0 ro => ?_
  refine seq_k fun N1 M1 hN1 hM1 => ?_
  refine region_k fun K2 hK2 => ?_
  simp only [go_sem, hkk, decide_false, decide_true, Bool.not_true, Bool.not_false, List.length_map, hf, hno, hx, h81, findP_none hf hfd, pinV, zeroPin]
  all_goals repeat' (first | apply And.intro | intro _)
  all_goals
    refine hK2 _ ?_
    refine hN1 _ ?_
    refine seq_k fun N3 M3 hN3 hM3 => ?_
    refine region_k fun K4 hK4 => ?_
    simp only [go_sem, hkk, decide_false, decide_true, Bool.not_true, Bool.not_false, List.length_map, hf, hno, hx, h81, findP_none hf hfd, pinV, zeroPin]
    all_goals repeat' (first | apply And.intro | intro _)
    all_goals refine call_view (fun k => k) (fun _ _ => rfl) (by first | rfl | (simp only [go_sem, hkk, decide_false, decide_true, Bool.not_true, Bool.not_false, List.length_map, hf, hno, hx, h81, findP_none hf hfd, pinV, zeroPin]; rfl) | simp only [go_sem, hkk, decide_false, decide_true, Bool.not_true, Bool.not_false, List.length_map, hf, hno, hx, h81, findP_none hf hfd, pinV, zeroPin]) ((pin_of l hl ex s).plain fun _ _ h => h) ?_
    all_goals (rintro v m ⟨hR, hm⟩; subst hR; subst hm)
    all_goals refine And.intro (by first | rfl | simp only [go_sem, hkk, decide_false, decide_true, Bool.not_true, Bool.not_false, List.length_map, hf, hno, hx, h81, findP_none hf hfd, pinV, zeroPin]) (And.intro (by first | rfl | simp only [go_sem, hkk, decide_false, decide_true, Bool.not_true, Bool.not_false, List.length_map, hf, hno, hx, h81, findP_none hf hfd, pinV, zeroPin]) ?_)
    all_goals simp only [go_sem, hkk, decide_false, decide_true, Bool.not_true, Bool.not_false, List.length_map, hf, hno, hx, h81, findP_none hf hfd, pinV, zeroPin]
    all_goals repeat' (first | apply And.intro | intro _)
    all_goals
      refine hK4 _ ?_
      refine hN3 _ ?_
      refine seq_k fun N5 M5 hN5 hM5 => ?_
      refine block_k fun B6 bn6 bx6 br6 bi6 => ?_
      refine seq_k fun N7 M7 hN7 hM7 => ?_
      refine region_k fun K8 hK8 => ?_
      simp only [go_sem, hkk, decide_false, decide_true, Bool.not_true, Bool.not_false, List.length_map, hf, hno, hx, h81, findP_none hf hfd, pinV, zeroPin]
      all_goals repeat' (first | apply And.intro | intro _)
      all_goals
        refine hK8 _ ?_
        refine hN7 _ ?_
        refine cond_k rfl (fun hc => ?_) (fun hc => ?_)
        · exfalso; revert hc; simp [go_sem, hkk, decide_false, decide_true, Bool.not_true, Bool.not_false, List.length_map, hf, hno, hx, h81, findP_none hf hfd, pinV, zeroPin]
        · try simp only [go_sem, hkk, decide_false, decide_true, Bool.not_true, Bool.not_false, List.length_map, hf, hno, hx, h81, findP_none hf hfd, pinV, zeroPin] at hc
          all_goals
            refine seq_k fun N9 M9 hN9 hM9 => ?_
            refine region_k fun K10 hK10 => ?_
            simp only [go_sem, hkk, decide_false, decide_true, Bool.not_true, Bool.not_false, List.length_map, hf, hno, hx, h81, findP_none hf hfd, pinV, zeroPin]
            all_goals repeat' (first | apply And.intro | intro _)
            all_goals
              refine hK10 _ ?_
              refine hN9 _ ?_
              refine cond_k rfl (fun hc => ?_) (fun hc => ?_)
              · exfalso; revert hc; simp [go_sem, hkk, decide_false, decide_true, Bool.not_true, Bool.not_false, List.length_map, hf, hno, hx, h81, findP_none hf hfd, pinV, zeroPin]
              · try simp only [go_sem, hkk, decide_false, decide_true, Bool.not_true, Bool.not_false, List.length_map, hf, hno, hx, h81, findP_none hf hfd, pinV, zeroPin] at hc
                all_goals
                  refine seq_k fun N11 M11 hN11 hM11 => ?_
                  refine region_k fun K12 hK12 => ?_
                  simp only [go_sem, hkk, decide_false, decide_true, Bool.not_true, Bool.not_false, List.length_map, hf, hno, hx, h81, findP_none hf hfd, pinV, zeroPin]
                  all_goals repeat' (first | apply And.intro | intro _)
                  all_goals
                    refine hK12 _ ?_
                    refine hN11 _ ?_
                    refine cond_k rfl (fun hc => ?_) (fun hc => ?_)
                    · exfalso; revert hc; simp [go_sem, hkk, decide_false, decide_true, Bool.not_true, Bool.not_false, List.length_map, hf, hno, hx, h81, findP_none hf hfd, pinV, zeroPin]
                    · try simp only [go_sem, hkk, decide_false, decide_true, Bool.not_true, Bool.not_false, List.length_map, hf, hno, hx, h81, findP_none hf hfd, pinV, zeroPin] at hc
                      all_goals
                        refine seq_k fun N13 M13 hN13 hM13 => ?_
                        refine region_k fun K14 hK14 => ?_
                        simp only [go_sem, hkk, decide_false, decide_true, Bool.not_true, Bool.not_false, List.length_map, hf, hno, hx, h81, findP_none hf hfd, pinV, zeroPin]
                        all_goals repeat' (first | apply And.intro | intro _)
                        all_goals refine call_view (fun k => k) (fun _ _ => rfl) (by first | rfl | (simp only [go_sem, hkk, decide_false, decide_true, Bool.not_true, Bool.not_false, List.length_map, hf, hno, hx, h81, findP_none hf hfd, pinV, zeroPin]; rfl) | simp only [go_sem, hkk, decide_false, decide_true, Bool.not_true, Bool.not_false, List.length_map, hf, hno, hx, h81, findP_none hf hfd, pinV, zeroPin]) ((is_name s hsl).plain fun _ _ h => h) ?_
                        all_goals (rintro v m ⟨hR, hm⟩; subst hR; subst hm)
                        all_goals refine And.intro (by first | rfl | simp only [go_sem, hkk, decide_false, decide_true, Bool.not_true, Bool.not_false, List.length_map, hf, hno, hx, h81, findP_none hf hfd, pinV, zeroPin]) (And.intro (by first | rfl | simp only [go_sem, hkk, decide_false, decide_true, Bool.not_true, Bool.not_false, List.length_map, hf, hno, hx, h81, findP_none hf hfd, pinV, zeroPin]) ?_)
                        all_goals simp only [go_sem, hkk, decide_false, decide_true, Bool.not_true, Bool.not_false, List.length_map, hf, hno, hx, h81, findP_none hf hfd, pinV, zeroPin]
                        all_goals repeat' (first | apply And.intro | intro _)
                        all_goals
                          refine hK14 _ ?_
                          refine hN13 _ ?_
                          refine cond_k rfl (fun hc => ?_) (fun hc => ?_)
                          · exfalso; revert hc; simp [go_sem, hkk, decide_false, decide_true, Bool.not_true, Bool.not_false, List.length_map, hf, hno, hx, h81, findP_none hf hfd, pinV, zeroPin]
                          · try simp only [go_sem, hkk, decide_false, decide_true, Bool.not_true, Bool.not_false, List.length_map, hf, hno, hx, h81, findP_none hf hfd, pinV, zeroPin] at hc
                            all_goals
                              refine seq_k fun N15 M15 hN15 hM15 => ?_
                              refine region_k fun K16 hK16 => ?_
                              simp only [go_sem, hkk, decide_false, decide_true, Bool.not_true, Bool.not_false, List.length_map, hf, hno, hx, h81, findP_none hf hfd, pinV, zeroPin]
                              all_goals repeat' (first | apply And.intro | intro _)
                              all_goals
                                refine hK16 _ ?_
                                refine hN15 _ ?_
                                refine cond_k rfl (fun hc => ?_) (fun hc => ?_)
                                · exfalso; revert hc; simp [go_sem, hkk, decide_false, decide_true, Bool.not_true, Bool.not_false, List.length_map, hf, hno, hx, h81, findP_none hf hfd, pinV, zeroPin]
                                · try simp only [go_sem, hkk, decide_false, decide_true, Bool.not_true, Bool.not_false, List.length_map, hf, hno, hx, h81, findP_none hf hfd, pinV, zeroPin] at hc
                                  all_goals
                                    refine skip_k ?_
                                    refine bn6 _ ?_
                                    refine hN5 _ ?_
                                    refine seq_k fun N17 M17 hN17 hM17 => ?_
                                    refine region_k fun K18 hK18 => ?_
                                    simp only [go_sem, hkk, decide_false, decide_true, Bool.not_true, Bool.not_false, List.length_map, hf, hno, hx, h81, findP_none hf hfd, pinV, zeroPin]
                                    all_goals repeat' (first | apply And.intro | intro _)
                                    all_goals (refine call_hand false [] (fun k => k) (fun _ _ => rfl) ?_ (by decide) ?_ (pinned_ l hl ex ⟨s, k, false⟩ ⟨hkk, hsl⟩ (srt_of hf)).hands ?_; (focus ( first | rfl | (simp only [go_sem, valsIn, valIn, leafIn, leavesIn, nameIn, capsIn, handOk, hkk, decide_false, decide_true, Bool.not_true, Bool.not_false, List.length_map, hf, hno, hx, h81, findP_none hf hfd, pinV, zeroPin] <;> done) | (simp only [go_sem, valsIn, valIn, leafIn, leavesIn, nameIn, capsIn, handOk, hkk, decide_false, decide_true, Bool.not_true, Bool.not_false, List.length_map, hf, hno, hx, h81, findP_none hf hfd, pinV, zeroPin] <;> rfl) | (simp only [go_sem, valsIn, valIn, leafIn, leavesIn, nameIn, capsIn, handOk, hkk, decide_false, decide_true, Bool.not_true, Bool.not_false, List.length_map, hf, hno, hx, h81, findP_none hf hfd, pinV, zeroPin] <;> simp))); (focus ( first | rfl | (simp only [go_sem, valsIn, valIn, leafIn, leavesIn, nameIn, capsIn, handOk, hkk, decide_false, decide_true, Bool.not_true, Bool.not_false, List.length_map, hf, hno, hx, h81, findP_none hf hfd, pinV, zeroPin] <;> done) | (simp only [go_sem, valsIn, valIn, leafIn, leavesIn, nameIn, capsIn, handOk, hkk, decide_false, decide_true, Bool.not_true, Bool.not_false, List.length_map, hf, hno, hx, h81, findP_none hf hfd, pinV, zeroPin] <;> rfl) | (simp only [go_sem, valsIn, valIn, leafIn, leavesIn, nameIn, capsIn, handOk, hkk, decide_false, decide_true, Bool.not_true, Bool.not_false, List.length_map, hf, hno, hx, h81, findP_none hf hfd, pinV, zeroPin] <;> simp))))
                                    all_goals (rintro v m ⟨hR, hm⟩; subst hR; subst hm)
                                    all_goals refine And.intro (by (first | rfl | (simp only [go_sem, leafOutV, leafOutW, leafOut, okN, outOk, inv, hkk, decide_false, decide_true, Bool.not_true, Bool.not_false, List.length_map, hf, hno, hx, h81, findP_none hf hfd, pinV, zeroPin]; done) | (simp [go_sem, leafOutV, leafOutW, leafOut, okN, outOk, inv, look, hkk, decide_false, decide_true, Bool.not_true, Bool.not_false, List.length_map, hf, hno, hx, h81, findP_none hf hfd, pinV, zeroPin]; done))) (And.intro (by (first | rfl | (simp only [go_sem, leafOutV, leafOutW, leafOut, okN, outOk, inv, hkk, decide_false, decide_true, Bool.not_true, Bool.not_false, List.length_map, hf, hno, hx, h81, findP_none hf hfd, pinV, zeroPin]; done) | (simp [go_sem, leafOutV, leafOutW, leafOut, okN, outOk, inv, look, hkk, decide_false, decide_true, Bool.not_true, Bool.not_false, List.length_map, hf, hno, hx, h81, findP_none hf hfd, pinV, zeroPin]; done))) (And.intro (by (first | rfl | (simp only [go_sem, leafOutV, leafOutW, leafOut, okN, outOk, inv, hkk, decide_false, decide_true, Bool.not_true, Bool.not_false, List.length_map, hf, hno, hx, h81, findP_none hf hfd, pinV, zeroPin]; done) | (simp [go_sem, leafOutV, leafOutW, leafOut, okN, outOk, inv, look, hkk, decide_false, decide_true, Bool.not_true, Bool.not_false, List.length_map, hf, hno, hx, h81, findP_none hf hfd, pinV, zeroPin]; done))) ?_))
                                    all_goals (try simp only [go_sem, backM, outN, nameOut, Ob.ren, V.ren, W.ren, L.ren, setM, hkk, decide_false, decide_true, Bool.not_true, Bool.not_false, List.length_map, hf, hno, hx, h81, findP_none hf hfd, pinV, zeroPin])
                                    all_goals (try simp only [go_sem, hkk, decide_false, decide_true, Bool.not_true, Bool.not_false, List.length_map, hf, hno, hx, h81, findP_none hf hfd, pinV, zeroPin])
                                    all_goals repeat' (first | apply And.intro | intro _)
                                    all_goals
                                      refine hK18 _ ?_
                                      refine hN17 _ ?_
                                      refine ret_k ?_
                                      simp only [go_sem, hkk, decide_false, decide_true, Bool.not_true, Bool.not_false, List.length_map, hf, hno, hx, h81, findP_none hf hfd, pinV, zeroPin]
                                      all_goals (rw [trust_in hf hno hfd h8]; exact pins_same _)
theorem pins_trust (l : List PinD) (hl : ∀ p ∈ l, p.ok) (ex : Bool) (s : List UInt8) (hsl : s.length ≤ 9223372036854775807) (k : List UInt8) (hkk : k.length = 32) : Ct Try.prog 30 [.w (.one (.pl (.R ex 34 (pinRows l)))), .w (.one (.pl (.str s))), .w (.agg (bytesC k))] (pinsV (trustP l s k).2 (trustP l s k).1) := by
  by_cases hf : pinsFault l = 0
  · cases hx : hasP l s with
    | true =>
      obtain ⟨p, hp, _⟩ := find_has (srt_of hf) hx
      have one : ∀ q, l[idxP l s]? = some q → q = p := fun q hq => by rw [hp] at hq; cases hq; rfl
      cases hg : p.gone with
      | true => exact (trust_gone_ l hl ex s hsl k hkk hf hx (fun q hq => by rw [one q hq]; exact hg)).told
      | false =>
        by_cases hk : p.key = k
        · exact (trust_same_ l hl ex s hsl k hkk hf hx (fun q hq => by rw [one q hq]; exact hg) (fun q hq => by rw [one q hq]; exact eq_true hk)).told
        · exact (trust_key_ l hl ex s hsl k hkk hf hx (fun q hq => by rw [one q hq]; exact hg) (fun q hq => by rw [one q hq]; exact eq_false hk)).told
    | false =>
      cases hno : nameOk s with
      | false => exact (trust_name_ l hl ex s hsl k hkk hf hno ).told
      | true =>
          by_cases h8 : l.length = 8
          · exact (trust_full_ l hl ex s hsl k hkk hf hno hx h8).told
          · exact (trust_in_ l hl ex s hsl k hkk hf hno hx h8).told
  · exact (trust_bad_ l hl ex s hsl k hkk hf).told
theorem pin_trusted (l : List PinD) (hl : ∀ p ∈ l, p.ok) (ex : Bool) (s : List UInt8) (hsl : s.length ≤ 9223372036854775807) (k : List UInt8) (hkk : k.length = 32) : Ct Try.prog 31 [.w (.one (.pl (.R ex 34 (pinRows l)))), .w (.one (.pl (.str s))), .w (.agg (bytesC k))] (pinsV (trustP l s k).2 (trustP l s k).1) := by
  by_cases hf : pinsFault l = 0
  · cases hx : hasP l s with
    | true =>
      obtain ⟨p, hp, _⟩ := find_has (srt_of hf) hx
      have one : ∀ q, l[idxP l s]? = some q → q = p := fun q hq => by rw [hp] at hq; cases hq; rfl
      cases hg : p.gone with
      | true => exact (trusted_gone_ l hl ex s hsl k hkk hf hx (fun q hq => by rw [one q hq]; exact hg)).told
      | false =>
        by_cases hk : p.key = k
        · exact (trusted_same_ l hl ex s hsl k hkk hf hx (fun q hq => by rw [one q hq]; exact hg) (fun q hq => by rw [one q hq]; exact eq_true hk)).told
        · exact (trusted_key_ l hl ex s hsl k hkk hf hx (fun q hq => by rw [one q hq]; exact hg) (fun q hq => by rw [one q hq]; exact eq_false hk)).told
    | false =>
      cases hno : nameOk s with
      | false => exact (trusted_name_ l hl ex s hsl k hkk hf hno hx).told
      | true =>
          by_cases h8 : l.length = 8
          · exact (trusted_full_ l hl ex s hsl k hkk hf hno hx h8).told
          · exact (trusted_in_ l hl ex s hsl k hkk hf hno hx h8).told
  · exact (trusted_bad_ l hl ex s hsl k hkk hf).told
set_option maxHeartbeats 400000 in
theorem pins_trusts (l : List PinD) (hl : ∀ p ∈ l, p.ok) (ex : Bool) (s : List UInt8) (hsl : s.length ≤ 9223372036854775807) (k : List UInt8) (hkk : k.length = 32) :
    Ct Try.prog 9 [.w (.one (.pl (.R ex 34 (pinRows l)))), .w (.one (.pl (.str s))), .w (.agg (bytesC k))] (fun v m => v = .w (.one (.pl (.b true)))) := by
  obtain ⟨hok, hlen⟩ := trust_sound (s := s) hl hkk hsl
  refine Ct.k Try.func9 rfl Try.ntmps9 (congrArg Array.toList Try.results9) (by simp) fun w0 ro => ?_
  refine seq_k fun N1 M1 hN1 hM1 => ?_
  refine region_k fun K2 hK2 => ?_
  simp only [go_sem, hkk, decide_true]
  all_goals repeat' (first | apply And.intro | intro _)
  all_goals
    refine hK2 _ ?_
    refine hN1 _ ?_
    refine seq_k fun N3 M3 hN3 hM3 => ?_
    refine region_k fun K4 hK4 => ?_
    simp only [go_sem, hkk, decide_true]
    all_goals repeat' (first | apply And.intro | intro _)
    all_goals (refine call_hand false [] (fun k => k) (fun _ _ => rfl) ?_ (by decide) ?_ (pins_trust l hl ex s hsl k hkk).hands ?_; (focus ( first | rfl | (simp only [go_sem, valsIn, valIn, leafIn, leavesIn, nameIn, capsIn, handOk, hkk, decide_true] <;> done) | (simp only [go_sem, valsIn, valIn, leafIn, leavesIn, nameIn, capsIn, handOk, hkk, decide_true] <;> rfl) | (simp only [go_sem, valsIn, valIn, leafIn, leavesIn, nameIn, capsIn, handOk, hkk, decide_true] <;> simp))); (focus ( first | rfl | (simp only [go_sem, valsIn, valIn, leafIn, leavesIn, nameIn, capsIn, handOk, hkk, decide_true] <;> done) | (simp only [go_sem, valsIn, valIn, leafIn, leavesIn, nameIn, capsIn, handOk, hkk, decide_true] <;> rfl) | (simp only [go_sem, valsIn, valIn, leafIn, leavesIn, nameIn, capsIn, handOk, hkk, decide_true] <;> simp))))
    all_goals (rintro v m ⟨hR, hm⟩; subst hR; subst hm)
    all_goals refine And.intro (by (first | rfl | (simp only [go_sem, leafOutV, leafOutW, leafOut, okN, outOk, inv, hkk, decide_true]; done) | (simp [go_sem, leafOutV, leafOutW, leafOut, okN, outOk, inv, look, hkk, decide_true]; done))) (And.intro (by (first | rfl | (simp only [go_sem, leafOutV, leafOutW, leafOut, okN, outOk, inv, hkk, decide_true]; done) | (simp [go_sem, leafOutV, leafOutW, leafOut, okN, outOk, inv, look, hkk, decide_true]; done))) (And.intro (by (first | rfl | (simp only [go_sem, leafOutV, leafOutW, leafOut, okN, outOk, inv, hkk, decide_true]; done) | (simp [go_sem, leafOutV, leafOutW, leafOut, okN, outOk, inv, look, hkk, decide_true]; done))) ?_))
    all_goals (try simp only [go_sem, backM, outN, nameOut, Ob.ren, V.ren, W.ren, L.ren, setM, hkk, decide_true])
    all_goals (try simp only [go_sem, hkk, decide_true])
    all_goals repeat' (first | apply And.intro | intro _)
    all_goals
      refine hK4 _ ?_
      refine hN3 _ ?_
      refine seq_k fun N5 M5 hN5 hM5 => ?_
      refine region_k fun K6 hK6 => ?_
      simp only [go_sem, hkk, decide_true]
      all_goals repeat' (first | apply And.intro | intro _)
      all_goals (refine call_hand false [] (fun k => k) (fun _ _ => rfl) ?_ (by decide) ?_ (pin_trusted l hl ex s hsl k hkk).hands ?_; (focus ( first | rfl | (simp only [go_sem, valsIn, valIn, leafIn, leavesIn, nameIn, capsIn, handOk, hkk, decide_true] <;> done) | (simp only [go_sem, valsIn, valIn, leafIn, leavesIn, nameIn, capsIn, handOk, hkk, decide_true] <;> rfl) | (simp only [go_sem, valsIn, valIn, leafIn, leavesIn, nameIn, capsIn, handOk, hkk, decide_true] <;> simp))); (focus ( first | rfl | (simp only [go_sem, valsIn, valIn, leafIn, leavesIn, nameIn, capsIn, handOk, hkk, decide_true] <;> done) | (simp only [go_sem, valsIn, valIn, leafIn, leavesIn, nameIn, capsIn, handOk, hkk, decide_true] <;> rfl) | (simp only [go_sem, valsIn, valIn, leafIn, leavesIn, nameIn, capsIn, handOk, hkk, decide_true] <;> simp))))
      all_goals (rintro v m ⟨hR, hm⟩; subst hR; subst hm)
      all_goals refine And.intro (by (first | rfl | (simp only [go_sem, leafOutV, leafOutW, leafOut, okN, outOk, inv, hkk, decide_true]; done) | (simp [go_sem, leafOutV, leafOutW, leafOut, okN, outOk, inv, look, hkk, decide_true]; done))) (And.intro (by (first | rfl | (simp only [go_sem, leafOutV, leafOutW, leafOut, okN, outOk, inv, hkk, decide_true]; done) | (simp [go_sem, leafOutV, leafOutW, leafOut, okN, outOk, inv, look, hkk, decide_true]; done))) (And.intro (by (first | rfl | (simp only [go_sem, leafOutV, leafOutW, leafOut, okN, outOk, inv, hkk, decide_true]; done) | (simp [go_sem, leafOutV, leafOutW, leafOut, okN, outOk, inv, look, hkk, decide_true]; done))) ?_))
      all_goals (try simp only [go_sem, backM, outN, nameOut, Ob.ren, V.ren, W.ren, L.ren, setM, hkk, decide_true])
      all_goals (try simp only [go_sem, hkk, decide_true])
      all_goals repeat' (first | apply And.intro | intro _)
      all_goals
        refine hK6 _ ?_
        refine hN5 _ ?_
        refine seq_k fun N7 M7 hN7 hM7 => ?_
        refine region_k fun K8 hK8 => ?_
        simp only [go_sem, hkk, decide_true]
        all_goals repeat' (first | apply And.intro | intro _)
        all_goals refine call_view (fun k => k) (fun _ _ => rfl) (by first | rfl | (simp only [go_sem, hkk, decide_true]; rfl) | simp only [go_sem, hkk, decide_true]) ((same_pins _ _ hok hok false false hlen).plain fun _ _ h => h) ?_
        all_goals (rintro v m ⟨hR, hm⟩; subst hR; subst hm)
        all_goals refine And.intro (by first | rfl | simp only [go_sem, hkk, decide_true]) (And.intro (by first | rfl | simp only [go_sem, hkk, decide_true]) ?_)
        all_goals simp only [go_sem, hkk, decide_true]
        all_goals repeat' (first | apply And.intro | intro _)
        all_goals
          refine hK8 _ ?_
          refine hN7 _ ?_
          refine ret_k ?_
          simp only [go_sem, hkk, decide_true]
          all_goals (first | rfl | simp)
end Go.Sy
