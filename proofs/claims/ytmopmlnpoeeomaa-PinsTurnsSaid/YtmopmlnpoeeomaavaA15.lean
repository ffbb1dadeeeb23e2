/- Walks: a pin that is turned, as the document's answer does it; the law. -/
import Derived.Test.YtmopmlnpoeeomaavaA14
set_option linter.unusedVariables false
set_option linter.unusedSimpArgs false
namespace Go.Sy
open Go.Proofs
attribute [local irreducible] atCall HT runOps runD onC onE onO onG goV goA goS onSt onGuard
def fgtL (l : List PinD) (s : List UInt8) (i : Nat) : List PinD := if i ≤ idxP l s then l.take i else l.take (idxP l s) ++ (l.take i).drop (idxP l s + 1)
section
variable {l : List PinD} {s : List UInt8} {p q : PinD} {i : Nat}
theorem pinned_rep (h : hasP l q.name = true) : pinnedF l q = l.take (idxP l q.name) ++ ([q] ++ l.drop (idxP l q.name + 1)) := by unfold pinnedF; rw [h]; rfl
theorem fgt_le (h : i ≤ idxP l s) : fgtL l s i = l.take i := if_pos h
theorem fgt_over (h : idxP l s < i) : fgtL l s i = l.take (idxP l s) ++ (l.take i).drop (idxP l s + 1) := if_neg (by omega)
theorem fgt_ne (h : i ≠ idxP l s) (hp : l[i]? = some p) : fgtL l s (i + 1) = fgtL l s i ++ [p] := by
  have := (List.getElem?_eq_some_iff.mp hp).1
  rcases Nat.lt_or_gt_of_ne h with h | h
  · rw [fgt_le (by omega), fgt_le (by omega), take_snoc hp]
  · rw [fgt_over (by omega), fgt_over h, take_snoc hp, List.drop_append]
    have e : idxP l s + 1 - (l.take i).length = 0 := by rw [List.length_take]; omega
    rw [e]; simp
theorem fgt_eq (h : i = idxP l s) : fgtL l s (i + 1) = fgtL l s i := by
  rw [fgt_over (by omega), fgt_le (by omega), List.drop_of_length_le (by rw [List.length_take]; omega), h]; simp
theorem fgt_end (h : idxP l s < l.length) : fgtL l s l.length = l.take (idxP l s) ++ l.drop (idxP l s + 1) := by rw [fgt_over h, List.take_length]
theorem fgt_zero : fgtL l s 0 = [] := by rw [fgt_le (Nat.zero_le _)]; rfl
theorem fgt_ok (hl : ∀ p ∈ l, p.ok) (i : Nat) : ∀ p ∈ fgtL l s i, p.ok := by
  intro p hp
  unfold fgtL at hp
  split at hp
  · exact hl p (List.mem_of_mem_take hp)
  · rcases List.mem_append.mp hp with hp | hp
    · exact hl p (List.mem_of_mem_take hp)
    · exact hl p (List.mem_of_mem_take (List.mem_of_mem_drop hp))
theorem fgt_len (i : Nat) : (fgtL l s i).length ≤ l.length := by
  unfold fgtL
  split
  · rw [List.length_take]; omega
  · rw [List.length_append, List.length_take, List.length_drop, List.length_take]; omega
theorem fgt_cases (l : List PinD) (s : List UInt8) (i : Nat) (hi : i ≤ l.length) : (∃ p, l[i]? = some p ∧ i ≠ idxP l s ∧ fgtL l s i = []) ∨ (∃ p, l[i]? = some p ∧ i ≠ idxP l s ∧ fgtL l s i ≠ []) ∨ (∃ p, l[i]? = some p ∧ i = idxP l s ∧ fgtL l s i = []) ∨ (∃ p, l[i]? = some p ∧ i = idxP l s ∧ fgtL l s i ≠ []) ∨ (i = l.length ∧ fgtL l s i = []) ∨ (i = l.length ∧ fgtL l s i ≠ []) := by
  rcases Nat.lt_or_ge i l.length with h | h
  · obtain ⟨p, hp⟩ := get_lt h
    by_cases h1 : i = idxP l s <;> by_cases h2 : fgtL l s i = []
    · exact .inr (.inr (.inl ⟨p, hp, h1, h2⟩))
    · exact .inr (.inr (.inr (.inl ⟨p, hp, h1, h2⟩)))
    · exact .inl ⟨p, hp, h1, h2⟩
    · exact .inr (.inl ⟨p, hp, h1, h2⟩)
  · by_cases h2 : fgtL l s i = []
    · exact .inr (.inr (.inr (.inr (.inl ⟨by omega, h2⟩))))
    · exact .inr (.inr (.inr (.inr (.inr ⟨by omega, h2⟩))))
end
set_option maxHeartbeats 400000 in
theorem tu_bad (l : List PinD) (hl : ∀ p ∈ l, p.ok) (ex : Bool) (s : List UInt8) (hsl : s.length ≤ 9223372036854775807) (k : List UInt8) (hkk : k.length = 32) (w : Int) (mid : PinD → List PinD) (hf : ¬ pinsFault l = 0) :
    Ct Try.prog 35 [.w (.one (.pl (.i w))), .w (.one (.pl (.R ex 34 (pinRows l)))), .w (.one (.pl (.str s))), .w (.agg (bytesC k))] (Told (pinsV (turnP l s mid).2 (turnP l s mid).1)) := by
  refine Ct.k Try.func35 rfl Try.ntmps35 (congrArg Array.toList Try.results35) (by simp) fun w0 ro => ?_
  refine seq_k fun N1 M1 hN1 hM1 => ?_
  refine region_k fun K2 hK2 => ?_
  simp only [go_sem, decide_false, decide_true, Bool.not_true, Bool.not_false, List.length_map, hkk, hf, findP_bad hf, pinV, zeroPin]
  all_goals repeat' (first | apply And.intro | intro _)
  all_goals
    refine hK2 _ ?_
    refine hN1 _ ?_
    refine seq_k fun N3 M3 hN3 hM3 => ?_
    refine region_k fun K4 hK4 => ?_
    simp only [go_sem, decide_false, decide_true, Bool.not_true, Bool.not_false, List.length_map, hkk, hf, findP_bad hf, pinV, zeroPin]
    all_goals repeat' (first | apply And.intro | intro _)
    all_goals refine call_view (fun k => k) (fun _ _ => rfl) (by first | rfl | (simp only [go_sem, decide_false, decide_true, Bool.not_true, Bool.not_false, List.length_map, hkk, hf, findP_bad hf, pinV, zeroPin]; rfl) | simp only [go_sem, decide_false, decide_true, Bool.not_true, Bool.not_false, List.length_map, hkk, hf, findP_bad hf, pinV, zeroPin]) ((pin_of l hl ex s).plain fun _ _ h => h) ?_
    all_goals (rintro v m ⟨hR, hm⟩; subst hR; subst hm)
    all_goals refine And.intro (by first | rfl | simp only [go_sem, decide_false, decide_true, Bool.not_true, Bool.not_false, List.length_map, hkk, hf, findP_bad hf, pinV, zeroPin]) (And.intro (by first | rfl | simp only [go_sem, decide_false, decide_true, Bool.not_true, Bool.not_false, List.length_map, hkk, hf, findP_bad hf, pinV, zeroPin]) ?_)
    all_goals simp only [go_sem, decide_false, decide_true, Bool.not_true, Bool.not_false, List.length_map, hkk, hf, findP_bad hf, pinV, zeroPin]
    all_goals repeat' (first | apply And.intro | intro _)
    all_goals
      refine hK4 _ ?_
      refine hN3 _ ?_
      refine seq_k fun N5 M5 hN5 hM5 => ?_
      refine seq_k fun N6 M6 hN6 hM6 => ?_
      refine region_k fun K7 hK7 => ?_
      simp only [go_sem, decide_false, decide_true, Bool.not_true, Bool.not_false, List.length_map, hkk, hf, findP_bad hf, pinV, zeroPin]
      all_goals repeat' (first | apply And.intro | intro _)
      all_goals
        refine hK7 _ ?_
        refine hN6 _ ?_
        refine cond_k rfl (fun hc => ?_) (fun hc => ?_)
        · try simp only [go_sem, decide_false, decide_true, Bool.not_true, Bool.not_false, List.length_map, hkk, hf, findP_bad hf, pinV, zeroPin] at hc
          all_goals
            refine seq_k fun N8 M8 hN8 hM8 => ?_
            refine region_k fun K9 hK9 => ?_
            simp only [go_sem, decide_false, decide_true, Bool.not_true, Bool.not_false, List.length_map, hkk, hf, findP_bad hf, pinV, zeroPin]
            all_goals repeat' (first | apply And.intro | intro _)
            all_goals
              refine hK9 _ ?_
              refine hN8 _ ?_
              refine ret_k ?_
              refine hM5 _ _ ?_
              simp only [go_sem, decide_false, decide_true, Bool.not_true, Bool.not_false, List.length_map, hkk, hf, findP_bad hf, pinV, zeroPin]
              all_goals (rw [turn_bad hf]; exact pins_nil)
        · exfalso; revert hc; simp [go_sem, decide_false, decide_true, Bool.not_true, Bool.not_false, List.length_map, hkk, hf, findP_bad hf, pinV, zeroPin]
set_option maxHeartbeats 400000 in
theorem tu_no (l : List PinD) (hl : ∀ p ∈ l, p.ok) (ex : Bool) (s : List UInt8) (hsl : s.length ≤ 9223372036854775807) (k : List UInt8) (hkk : k.length = 32) (w : Int) (mid : PinD → List PinD) (hf : pinsFault l = 0) (hx : hasP l s = false) :
    Ct Try.prog 35 [.w (.one (.pl (.i w))), .w (.one (.pl (.R ex 34 (pinRows l)))), .w (.one (.pl (.str s))), .w (.agg (bytesC k))] (Told (pinsV (turnP l s mid).2 (turnP l s mid).1)) := by
  have hfd := find_hasnt (srt_of hf) hx
  refine Ct.k Try.func35 rfl Try.ntmps35 (congrArg Array.toList Try.results35) (by simp) fun w0 ro => ?_
  refine seq_k fun N1 M1 hN1 hM1 => ?_
  refine region_k fun K2 hK2 => ?_
  simp only [go_sem, decide_false, decide_true, Bool.not_true, Bool.not_false, List.length_map, hkk, hf, findP_none hf hfd, pinV, zeroPin]
  all_goals repeat' (first | apply And.intro | intro _)
  all_goals
    refine hK2 _ ?_
    refine hN1 _ ?_
    refine seq_k fun N3 M3 hN3 hM3 => ?_
    refine region_k fun K4 hK4 => ?_
    simp only [go_sem, decide_false, decide_true, Bool.not_true, Bool.not_false, List.length_map, hkk, hf, findP_none hf hfd, pinV, zeroPin]
    all_goals repeat' (first | apply And.intro | intro _)
    all_goals refine call_view (fun k => k) (fun _ _ => rfl) (by first | rfl | (simp only [go_sem, decide_false, decide_true, Bool.not_true, Bool.not_false, List.length_map, hkk, hf, findP_none hf hfd, pinV, zeroPin]; rfl) | simp only [go_sem, decide_false, decide_true, Bool.not_true, Bool.not_false, List.length_map, hkk, hf, findP_none hf hfd, pinV, zeroPin]) ((pin_of l hl ex s).plain fun _ _ h => h) ?_
    all_goals (rintro v m ⟨hR, hm⟩; subst hR; subst hm)
    all_goals refine And.intro (by first | rfl | simp only [go_sem, decide_false, decide_true, Bool.not_true, Bool.not_false, List.length_map, hkk, hf, findP_none hf hfd, pinV, zeroPin]) (And.intro (by first | rfl | simp only [go_sem, decide_false, decide_true, Bool.not_true, Bool.not_false, List.length_map, hkk, hf, findP_none hf hfd, pinV, zeroPin]) ?_)
    all_goals simp only [go_sem, decide_false, decide_true, Bool.not_true, Bool.not_false, List.length_map, hkk, hf, findP_none hf hfd, pinV, zeroPin]
    all_goals repeat' (first | apply And.intro | intro _)
    all_goals
      refine hK4 _ ?_
      refine hN3 _ ?_
      refine seq_k fun N5 M5 hN5 hM5 => ?_
      refine seq_k fun N6 M6 hN6 hM6 => ?_
      refine region_k fun K7 hK7 => ?_
      simp only [go_sem, decide_false, decide_true, Bool.not_true, Bool.not_false, List.length_map, hkk, hf, findP_none hf hfd, pinV, zeroPin]
      all_goals repeat' (first | apply And.intro | intro _)
      all_goals
        refine hK7 _ ?_
        refine hN6 _ ?_
        refine cond_k rfl (fun hc => ?_) (fun hc => ?_)
        · try simp only [go_sem, decide_false, decide_true, Bool.not_true, Bool.not_false, List.length_map, hkk, hf, findP_none hf hfd, pinV, zeroPin] at hc
          all_goals
            refine seq_k fun N8 M8 hN8 hM8 => ?_
            refine region_k fun K9 hK9 => ?_
            simp only [go_sem, decide_false, decide_true, Bool.not_true, Bool.not_false, List.length_map, hkk, hf, findP_none hf hfd, pinV, zeroPin]
            all_goals repeat' (first | apply And.intro | intro _)
            all_goals
              refine hK9 _ ?_
              refine hN8 _ ?_
              refine ret_k ?_
              refine hM5 _ _ ?_
              simp only [go_sem, decide_false, decide_true, Bool.not_true, Bool.not_false, List.length_map, hkk, hf, findP_none hf hfd, pinV, zeroPin]
              all_goals (rw [turn_no hf hfd]; exact pins_nil)
        · exfalso; revert hc; simp [go_sem, decide_false, decide_true, Bool.not_true, Bool.not_false, List.length_map, hkk, hf, findP_none hf hfd, pinV, zeroPin]
set_option maxHeartbeats 400000 in
theorem tu_rot (l : List PinD) (hl : ∀ p ∈ l, p.ok) (ex : Bool) (s : List UInt8) (hsl : s.length ≤ 9223372036854775807) (k : List UInt8) (hkk : k.length = 32) (hf : pinsFault l = 0) (hx : hasP l s = true) :
    Ct Try.prog 35 [.w (.one (.pl (.i 1))), .w (.one (.pl (.R ex 34 (pinRows l)))), .w (.one (.pl (.str s))), .w (.agg (bytesC k))] (Told (pinsV (turnP l s (rotM k)).2 (turnP l s (rotM k)).1)) := by
  obtain ⟨p, hp, hn, hlt, hfd⟩ := find_has (srt_of hf) hx
  have h8 := (pinsFault_zero hf).1
  have hpo := hl p (List.mem_of_getElem? hp)
  have hk := hpo.1
  have hpl := pinC_length hk
  have hpr := pinned_rep (l := l) (q := ⟨s, k, false⟩) hx
  refine Ct.k Try.func35 rfl Try.ntmps35 (congrArg Array.toList Try.results35) (by simp) fun w0 ro => ?_
  refine seq_k fun N1 M1 hN1 hM1 => ?_
  refine region_k fun K2 hK2 => ?_
  simp only [go_sem, decide_false, decide_true, Bool.not_true, Bool.not_false, List.length_map, hkk, hf, hk, hpl, findP_some hf hfd, pinV]
  all_goals repeat' (first | apply And.intro | intro _)
  all_goals
    refine hK2 _ ?_
    refine hN1 _ ?_
    refine seq_k fun N3 M3 hN3 hM3 => ?_
    refine region_k fun K4 hK4 => ?_
    simp only [go_sem, decide_false, decide_true, Bool.not_true, Bool.not_false, List.length_map, hkk, hf, hk, hpl, findP_some hf hfd, pinV]
    all_goals repeat' (first | apply And.intro | intro _)
    all_goals refine call_view (fun k => k) (fun _ _ => rfl) (by first | rfl | (simp only [go_sem, decide_false, decide_true, Bool.not_true, Bool.not_false, List.length_map, hkk, hf, hk, hpl, findP_some hf hfd, pinV]; rfl) | simp only [go_sem, decide_false, decide_true, Bool.not_true, Bool.not_false, List.length_map, hkk, hf, hk, hpl, findP_some hf hfd, pinV]) ((pin_of l hl ex s).plain fun _ _ h => h) ?_
    all_goals (rintro v m ⟨hR, hm⟩; subst hR; subst hm)
    all_goals refine And.intro (by first | rfl | simp only [go_sem, decide_false, decide_true, Bool.not_true, Bool.not_false, List.length_map, hkk, hf, hk, hpl, findP_some hf hfd, pinV]) (And.intro (by first | rfl | simp only [go_sem, decide_false, decide_true, Bool.not_true, Bool.not_false, List.length_map, hkk, hf, hk, hpl, findP_some hf hfd, pinV]) ?_)
    all_goals simp only [go_sem, decide_false, decide_true, Bool.not_true, Bool.not_false, List.length_map, hkk, hf, hk, hpl, findP_some hf hfd, pinV]
    all_goals repeat' (first | apply And.intro | intro _)
    all_goals
      refine hK4 _ ?_
      refine hN3 _ ?_
      refine seq_k fun N5 M5 hN5 hM5 => ?_
      refine seq_k fun N6 M6 hN6 hM6 => ?_
      refine region_k fun K7 hK7 => ?_
      simp only [go_sem, decide_false, decide_true, Bool.not_true, Bool.not_false, List.length_map, hkk, hf, hk, hpl, findP_some hf hfd, pinV]
      all_goals repeat' (first | apply And.intro | intro _)
      all_goals
        refine hK7 _ ?_
        refine hN6 _ ?_
        refine cond_k rfl (fun hc => ?_) (fun hc => ?_)
        · exfalso; revert hc; simp [go_sem, decide_false, decide_true, Bool.not_true, Bool.not_false, List.length_map, hkk, hf, hk, hpl, findP_some hf hfd, pinV]
        · try simp only [go_sem, decide_false, decide_true, Bool.not_true, Bool.not_false, List.length_map, hkk, hf, hk, hpl, findP_some hf hfd, pinV] at hc
          all_goals
            refine skip_k ?_
            refine hN5 _ ?_
            refine seq_k fun N8 M8 hN8 hM8 => ?_
            refine seq_k fun N9 M9 hN9 hM9 => ?_
            refine region_k fun K10 hK10 => ?_
            simp only [go_sem, decide_false, decide_true, Bool.not_true, Bool.not_false, List.length_map, hkk, hf, hk, hpl, findP_some hf hfd, pinV]
            all_goals repeat' (first | apply And.intro | intro _)
            all_goals
              refine hK10 _ ?_
              refine hN9 _ ?_
              refine block_k fun B11 bn11 bx11 br11 bi11 => ?_
              refine seq_k fun N12 M12 hN12 hM12 => ?_
              refine region_k fun K13 hK13 => ?_
              simp only [go_sem, decide_false, decide_true, Bool.not_true, Bool.not_false, List.length_map, hkk, hf, hk, hpl, findP_some hf hfd, pinV]
              all_goals repeat' (first | apply And.intro | intro _)
              all_goals
                refine hK13 _ ?_
                refine hN12 _ ?_
                refine cond_k rfl (fun hc => ?_) (fun hc => ?_)
                · try simp only [go_sem, decide_false, decide_true, Bool.not_true, Bool.not_false, List.length_map, hkk, hf, hk, hpl, findP_some hf hfd, pinV] at hc
                  all_goals
                    refine seq_k fun N14 M14 hN14 hM14 => ?_
                    refine region_k fun K15 hK15 => ?_
                    simp only [go_sem, decide_false, decide_true, Bool.not_true, Bool.not_false, List.length_map, hkk, hf, hk, hpl, findP_some hf hfd, pinV]
                    all_goals repeat' (first | apply And.intro | intro _)
                    all_goals (refine call_hand false [] (fun k => k) (fun _ _ => rfl) ?_ (by decide) ?_ (pinned_ l hl ex ⟨s, k, false⟩ ⟨hkk, hsl⟩ (srt_of hf)).hands ?_; (focus ( first | rfl | (simp only [go_sem, valsIn, valIn, leafIn, leavesIn, nameIn, capsIn, handOk, decide_false, decide_true, Bool.not_true, Bool.not_false, List.length_map, hkk, hf, hk, hpl, findP_some hf hfd, pinV] <;> done) | (simp only [go_sem, valsIn, valIn, leafIn, leavesIn, nameIn, capsIn, handOk, decide_false, decide_true, Bool.not_true, Bool.not_false, List.length_map, hkk, hf, hk, hpl, findP_some hf hfd, pinV] <;> rfl) | (simp only [go_sem, valsIn, valIn, leafIn, leavesIn, nameIn, capsIn, handOk, decide_false, decide_true, Bool.not_true, Bool.not_false, List.length_map, hkk, hf, hk, hpl, findP_some hf hfd, pinV] <;> simp))); (focus ( first | rfl | (simp only [go_sem, valsIn, valIn, leafIn, leavesIn, nameIn, capsIn, handOk, decide_false, decide_true, Bool.not_true, Bool.not_false, List.length_map, hkk, hf, hk, hpl, findP_some hf hfd, pinV] <;> done) | (simp only [go_sem, valsIn, valIn, leafIn, leavesIn, nameIn, capsIn, handOk, decide_false, decide_true, Bool.not_true, Bool.not_false, List.length_map, hkk, hf, hk, hpl, findP_some hf hfd, pinV] <;> rfl) | (simp only [go_sem, valsIn, valIn, leafIn, leavesIn, nameIn, capsIn, handOk, decide_false, decide_true, Bool.not_true, Bool.not_false, List.length_map, hkk, hf, hk, hpl, findP_some hf hfd, pinV] <;> simp))))
                    all_goals (rintro v m ⟨hR, hm⟩; subst hR; subst hm)
                    all_goals refine And.intro (by (first | rfl | (simp only [go_sem, leafOutV, leafOutW, leafOut, okN, outOk, inv, decide_false, decide_true, Bool.not_true, Bool.not_false, List.length_map, hkk, hf, hk, hpl, findP_some hf hfd, pinV]; done) | (simp [go_sem, leafOutV, leafOutW, leafOut, okN, outOk, inv, look, decide_false, decide_true, Bool.not_true, Bool.not_false, List.length_map, hkk, hf, hk, hpl, findP_some hf hfd, pinV]; done))) (And.intro (by (first | rfl | (simp only [go_sem, leafOutV, leafOutW, leafOut, okN, outOk, inv, decide_false, decide_true, Bool.not_true, Bool.not_false, List.length_map, hkk, hf, hk, hpl, findP_some hf hfd, pinV]; done) | (simp [go_sem, leafOutV, leafOutW, leafOut, okN, outOk, inv, look, decide_false, decide_true, Bool.not_true, Bool.not_false, List.length_map, hkk, hf, hk, hpl, findP_some hf hfd, pinV]; done))) (And.intro (by (first | rfl | (simp only [go_sem, leafOutV, leafOutW, leafOut, okN, outOk, inv, decide_false, decide_true, Bool.not_true, Bool.not_false, List.length_map, hkk, hf, hk, hpl, findP_some hf hfd, pinV]; done) | (simp [go_sem, leafOutV, leafOutW, leafOut, okN, outOk, inv, look, decide_false, decide_true, Bool.not_true, Bool.not_false, List.length_map, hkk, hf, hk, hpl, findP_some hf hfd, pinV]; done))) ?_))
                    all_goals (try simp only [go_sem, backM, outN, nameOut, Ob.ren, V.ren, W.ren, L.ren, setM, decide_false, decide_true, Bool.not_true, Bool.not_false, List.length_map, hkk, hf, hk, hpl, findP_some hf hfd, pinV])
                    all_goals (try simp only [go_sem, decide_false, decide_true, Bool.not_true, Bool.not_false, List.length_map, hkk, hf, hk, hpl, findP_some hf hfd, pinV])
                    all_goals repeat' (first | apply And.intro | intro _)
                    all_goals
                      refine hK15 _ ?_
                      refine hN14 _ ?_
                      refine ret_k ?_
                      refine br11 _ ?_
                      refine hM8 _ _ ?_
                      simp only [go_sem, decide_false, decide_true, Bool.not_true, Bool.not_false, List.length_map, hkk, hf, hk, hpl, findP_some hf hfd, pinV]
                      all_goals (rw [turn_yes hf hfd]; rw [hpr]; subst hn; exact pins_same _)
                · exfalso; revert hc; simp [go_sem, decide_false, decide_true, Bool.not_true, Bool.not_false, List.length_map, hkk, hf, hk, hpl, findP_some hf hfd, pinV]
set_option maxHeartbeats 400000 in
theorem tu_rev (l : List PinD) (hl : ∀ p ∈ l, p.ok) (ex : Bool) (s : List UInt8) (hsl : s.length ≤ 9223372036854775807) (k : List UInt8) (hkk : k.length = 32) (hf : pinsFault l = 0) (hx : hasP l s = true) :
    Ct Try.prog 35 [.w (.one (.pl (.i 2))), .w (.one (.pl (.R ex 34 (pinRows l)))), .w (.one (.pl (.str s))), .w (.agg (bytesC k))] (Told (pinsV (turnP l s revM).2 (turnP l s revM).1)) := by
  obtain ⟨p, hp, hn, hlt, hfd⟩ := find_has (srt_of hf) hx
  have h8 := (pinsFault_zero hf).1
  have hpo := hl p (List.mem_of_getElem? hp)
  have hk := hpo.1
  have hpl := pinC_length hk
  have hpr := pinned_rep (l := l) (q := ⟨s, p.key, true⟩) hx
  refine Ct.k Try.func35 rfl Try.ntmps35 (congrArg Array.toList Try.results35) (by simp) fun w0 ro => ?_
  refine seq_k fun N1 M1 hN1 hM1 => ?_
  refine region_k fun K2 hK2 => ?_
  simp only [go_sem, decide_false, decide_true, Bool.not_true, Bool.not_false, List.length_map, hkk, hf, hk, hpl, findP_some hf hfd, pinV]
  all_goals repeat' (first | apply And.intro | intro _)
  all_goals
    refine hK2 _ ?_
    refine hN1 _ ?_
    refine seq_k fun N3 M3 hN3 hM3 => ?_
    refine region_k fun K4 hK4 => ?_
    simp only [go_sem, decide_false, decide_true, Bool.not_true, Bool.not_false, List.length_map, hkk, hf, hk, hpl, findP_some hf hfd, pinV]
    all_goals repeat' (first | apply And.intro | intro _)
    all_goals refine call_view (fun k => k) (fun _ _ => rfl) (by first | rfl | (simp only [go_sem, decide_false, decide_true, Bool.not_true, Bool.not_false, List.length_map, hkk, hf, hk, hpl, findP_some hf hfd, pinV]; rfl) | simp only [go_sem, decide_false, decide_true, Bool.not_true, Bool.not_false, List.length_map, hkk, hf, hk, hpl, findP_some hf hfd, pinV]) ((pin_of l hl ex s).plain fun _ _ h => h) ?_
    all_goals (rintro v m ⟨hR, hm⟩; subst hR; subst hm)
    all_goals refine And.intro (by first | rfl | simp only [go_sem, decide_false, decide_true, Bool.not_true, Bool.not_false, List.length_map, hkk, hf, hk, hpl, findP_some hf hfd, pinV]) (And.intro (by first | rfl | simp only [go_sem, decide_false, decide_true, Bool.not_true, Bool.not_false, List.length_map, hkk, hf, hk, hpl, findP_some hf hfd, pinV]) ?_)
    all_goals simp only [go_sem, decide_false, decide_true, Bool.not_true, Bool.not_false, List.length_map, hkk, hf, hk, hpl, findP_some hf hfd, pinV]
    all_goals repeat' (first | apply And.intro | intro _)
    all_goals
      refine hK4 _ ?_
      refine hN3 _ ?_
      refine seq_k fun N5 M5 hN5 hM5 => ?_
      refine seq_k fun N6 M6 hN6 hM6 => ?_
      refine region_k fun K7 hK7 => ?_
      simp only [go_sem, decide_false, decide_true, Bool.not_true, Bool.not_false, List.length_map, hkk, hf, hk, hpl, findP_some hf hfd, pinV]
      all_goals repeat' (first | apply And.intro | intro _)
      all_goals
        refine hK7 _ ?_
        refine hN6 _ ?_
        refine cond_k rfl (fun hc => ?_) (fun hc => ?_)
        · exfalso; revert hc; simp [go_sem, decide_false, decide_true, Bool.not_true, Bool.not_false, List.length_map, hkk, hf, hk, hpl, findP_some hf hfd, pinV]
        · try simp only [go_sem, decide_false, decide_true, Bool.not_true, Bool.not_false, List.length_map, hkk, hf, hk, hpl, findP_some hf hfd, pinV] at hc
          all_goals
            refine skip_k ?_
            refine hN5 _ ?_
            refine seq_k fun N8 M8 hN8 hM8 => ?_
            refine seq_k fun N9 M9 hN9 hM9 => ?_
            refine region_k fun K10 hK10 => ?_
            simp only [go_sem, decide_false, decide_true, Bool.not_true, Bool.not_false, List.length_map, hkk, hf, hk, hpl, findP_some hf hfd, pinV]
            all_goals repeat' (first | apply And.intro | intro _)
            all_goals
              refine hK10 _ ?_
              refine hN9 _ ?_
              refine block_k fun B11 bn11 bx11 br11 bi11 => ?_
              refine seq_k fun N12 M12 hN12 hM12 => ?_
              refine region_k fun K13 hK13 => ?_
              simp only [go_sem, decide_false, decide_true, Bool.not_true, Bool.not_false, List.length_map, hkk, hf, hk, hpl, findP_some hf hfd, pinV]
              all_goals repeat' (first | apply And.intro | intro _)
              all_goals
                refine hK13 _ ?_
                refine hN12 _ ?_
                refine cond_k rfl (fun hc => ?_) (fun hc => ?_)
                · exfalso; revert hc; simp [go_sem, decide_false, decide_true, Bool.not_true, Bool.not_false, List.length_map, hkk, hf, hk, hpl, findP_some hf hfd, pinV]
                · try simp only [go_sem, decide_false, decide_true, Bool.not_true, Bool.not_false, List.length_map, hkk, hf, hk, hpl, findP_some hf hfd, pinV] at hc
                  all_goals
                    refine seq_k fun N14 M14 hN14 hM14 => ?_
                    refine region_k fun K15 hK15 => ?_
                    simp only [go_sem, decide_false, decide_true, Bool.not_true, Bool.not_false, List.length_map, hkk, hf, hk, hpl, findP_some hf hfd, pinV]
                    all_goals repeat' (first | apply And.intro | intro _)
                    all_goals
                      refine hK15 _ ?_
                      refine hN14 _ ?_
                      refine cond_k rfl (fun hc => ?_) (fun hc => ?_)
                      · try simp only [go_sem, decide_false, decide_true, Bool.not_true, Bool.not_false, List.length_map, hkk, hf, hk, hpl, findP_some hf hfd, pinV] at hc
                        all_goals
                          refine seq_k fun N16 M16 hN16 hM16 => ?_
                          refine region_k fun K17 hK17 => ?_
                          simp only [go_sem, decide_false, decide_true, Bool.not_true, Bool.not_false, List.length_map, hkk, hf, hk, hpl, findP_some hf hfd, pinV]
                          all_goals repeat' (first | apply And.intro | intro _)
                          all_goals (refine call_hand false [] (fun k => k) (fun _ _ => rfl) ?_ (by decide) ?_ (pinned_ l hl ex ⟨s, p.key, true⟩ ⟨hk, hsl⟩ (srt_of hf)).hands ?_; (focus ( first | rfl | (simp only [go_sem, valsIn, valIn, leafIn, leavesIn, nameIn, capsIn, handOk, decide_false, decide_true, Bool.not_true, Bool.not_false, List.length_map, hkk, hf, hk, hpl, findP_some hf hfd, pinV] <;> done) | (simp only [go_sem, valsIn, valIn, leafIn, leavesIn, nameIn, capsIn, handOk, decide_false, decide_true, Bool.not_true, Bool.not_false, List.length_map, hkk, hf, hk, hpl, findP_some hf hfd, pinV] <;> rfl) | (simp only [go_sem, valsIn, valIn, leafIn, leavesIn, nameIn, capsIn, handOk, decide_false, decide_true, Bool.not_true, Bool.not_false, List.length_map, hkk, hf, hk, hpl, findP_some hf hfd, pinV] <;> simp))); (focus ( first | rfl | (simp only [go_sem, valsIn, valIn, leafIn, leavesIn, nameIn, capsIn, handOk, decide_false, decide_true, Bool.not_true, Bool.not_false, List.length_map, hkk, hf, hk, hpl, findP_some hf hfd, pinV] <;> done) | (simp only [go_sem, valsIn, valIn, leafIn, leavesIn, nameIn, capsIn, handOk, decide_false, decide_true, Bool.not_true, Bool.not_false, List.length_map, hkk, hf, hk, hpl, findP_some hf hfd, pinV] <;> rfl) | (simp only [go_sem, valsIn, valIn, leafIn, leavesIn, nameIn, capsIn, handOk, decide_false, decide_true, Bool.not_true, Bool.not_false, List.length_map, hkk, hf, hk, hpl, findP_some hf hfd, pinV] <;> simp))))
                          all_goals (rintro v m ⟨hR, hm⟩; subst hR; subst hm)
                          all_goals refine And.intro (by (first | rfl | (simp only [go_sem, leafOutV, leafOutW, leafOut, okN, outOk, inv, decide_false, decide_true, Bool.not_true, Bool.not_false, List.length_map, hkk, hf, hk, hpl, findP_some hf hfd, pinV]; done) | (simp [go_sem, leafOutV, leafOutW, leafOut, okN, outOk, inv, look, decide_false, decide_true, Bool.not_true, Bool.not_false, List.length_map, hkk, hf, hk, hpl, findP_some hf hfd, pinV]; done))) (And.intro (by (first | rfl | (simp only [go_sem, leafOutV, leafOutW, leafOut, okN, outOk, inv, decide_false, decide_true, Bool.not_true, Bool.not_false, List.length_map, hkk, hf, hk, hpl, findP_some hf hfd, pinV]; done) | (simp [go_sem, leafOutV, leafOutW, leafOut, okN, outOk, inv, look, decide_false, decide_true, Bool.not_true, Bool.not_false, List.length_map, hkk, hf, hk, hpl, findP_some hf hfd, pinV]; done))) (And.intro (by (first | rfl | (simp only [go_sem, leafOutV, leafOutW, leafOut, okN, outOk, inv, decide_false, decide_true, Bool.not_true, Bool.not_false, List.length_map, hkk, hf, hk, hpl, findP_some hf hfd, pinV]; done) | (simp [go_sem, leafOutV, leafOutW, leafOut, okN, outOk, inv, look, decide_false, decide_true, Bool.not_true, Bool.not_false, List.length_map, hkk, hf, hk, hpl, findP_some hf hfd, pinV]; done))) ?_))
                          all_goals (try simp only [go_sem, backM, outN, nameOut, Ob.ren, V.ren, W.ren, L.ren, setM, decide_false, decide_true, Bool.not_true, Bool.not_false, List.length_map, hkk, hf, hk, hpl, findP_some hf hfd, pinV])
                          all_goals (try simp only [go_sem, decide_false, decide_true, Bool.not_true, Bool.not_false, List.length_map, hkk, hf, hk, hpl, findP_some hf hfd, pinV])
                          all_goals repeat' (first | apply And.intro | intro _)
                          all_goals
                            refine hK17 _ ?_
                            refine hN16 _ ?_
                            refine ret_k ?_
                            refine br11 _ ?_
                            refine hM8 _ _ ?_
                            simp only [go_sem, decide_false, decide_true, Bool.not_true, Bool.not_false, List.length_map, hkk, hf, hk, hpl, findP_some hf hfd, pinV]
                            all_goals (rw [turn_yes hf hfd]; rw [hpr]; subst hn; exact pins_same _)
                      · exfalso; revert hc; simp [go_sem, decide_false, decide_true, Bool.not_true, Bool.not_false, List.length_map, hkk, hf, hk, hpl, findP_some hf hfd, pinV]
set_option maxHeartbeats 1600000 in
theorem tu_fgt (l : List PinD) (hl : ∀ p ∈ l, p.ok) (ex : Bool) (s : List UInt8) (hsl : s.length ≤ 9223372036854775807) (k : List UInt8) (hkk : k.length = 32) (hf : pinsFault l = 0) (hx : hasP l s = true) :
    Ct Try.prog 35 [.w (.one (.pl (.i 3))), .w (.one (.pl (.R ex 34 (pinRows l)))), .w (.one (.pl (.str s))), .w (.agg (bytesC k))] (Told (pinsV (turnP l s fgtM).2 (turnP l s fgtM).1)) := by
  obtain ⟨p, hp, hn, hlt, hfd⟩ := find_has (srt_of hf) hx
  have h8 := (pinsFault_zero hf).1
  have hpo := hl p (List.mem_of_getElem? hp)
  have hk := hpo.1
  have hpl := pinC_length hk
  refine Ct.k Try.func35 rfl Try.ntmps35 (congrArg Array.toList Try.results35) (by simp) fun w0 ro => ?_
  refine seq_k fun N1 M1 hN1 hM1 => ?_
  refine region_k fun K2 hK2 => ?_
  simp only [go_sem, decide_false, decide_true, Bool.not_true, Bool.not_false, List.length_map, hkk, hf, hk, hpl, findP_some hf hfd, pinV]
  all_goals repeat' (first | apply And.intro | intro _)
  all_goals
    refine hK2 _ ?_
    refine hN1 _ ?_
    refine seq_k fun N3 M3 hN3 hM3 => ?_
    refine region_k fun K4 hK4 => ?_
    simp only [go_sem, decide_false, decide_true, Bool.not_true, Bool.not_false, List.length_map, hkk, hf, hk, hpl, findP_some hf hfd, pinV]
    all_goals repeat' (first | apply And.intro | intro _)
    all_goals refine call_view (fun k => k) (fun _ _ => rfl) (by first | rfl | (simp only [go_sem, decide_false, decide_true, Bool.not_true, Bool.not_false, List.length_map, hkk, hf, hk, hpl, findP_some hf hfd, pinV]; rfl) | simp only [go_sem, decide_false, decide_true, Bool.not_true, Bool.not_false, List.length_map, hkk, hf, hk, hpl, findP_some hf hfd, pinV]) ((pin_of l hl ex s).plain fun _ _ h => h) ?_
    all_goals (rintro v m ⟨hR, hm⟩; subst hR; subst hm)
    all_goals refine And.intro (by first | rfl | simp only [go_sem, decide_false, decide_true, Bool.not_true, Bool.not_false, List.length_map, hkk, hf, hk, hpl, findP_some hf hfd, pinV]) (And.intro (by first | rfl | simp only [go_sem, decide_false, decide_true, Bool.not_true, Bool.not_false, List.length_map, hkk, hf, hk, hpl, findP_some hf hfd, pinV]) ?_)
    all_goals simp only [go_sem, decide_false, decide_true, Bool.not_true, Bool.not_false, List.length_map, hkk, hf, hk, hpl, findP_some hf hfd, pinV]
    all_goals repeat' (first | apply And.intro | intro _)
    all_goals
      refine hK4 _ ?_
      refine hN3 _ ?_
      refine seq_k fun N5 M5 hN5 hM5 => ?_
      refine seq_k fun N6 M6 hN6 hM6 => ?_
      refine region_k fun K7 hK7 => ?_
      simp only [go_sem, decide_false, decide_true, Bool.not_true, Bool.not_false, List.length_map, hkk, hf, hk, hpl, findP_some hf hfd, pinV]
      all_goals repeat' (first | apply And.intro | intro _)
      all_goals
        refine hK7 _ ?_
        refine hN6 _ ?_
        refine cond_k rfl (fun hc => ?_) (fun hc => ?_)
        · exfalso; revert hc; simp [go_sem, decide_false, decide_true, Bool.not_true, Bool.not_false, List.length_map, hkk, hf, hk, hpl, findP_some hf hfd, pinV]
        · try simp only [go_sem, decide_false, decide_true, Bool.not_true, Bool.not_false, List.length_map, hkk, hf, hk, hpl, findP_some hf hfd, pinV] at hc
          all_goals
            refine skip_k ?_
            refine hN5 _ ?_
            refine seq_k fun N8 M8 hN8 hM8 => ?_
            refine seq_k fun N9 M9 hN9 hM9 => ?_
            refine region_k fun K10 hK10 => ?_
            simp only [go_sem, decide_false, decide_true, Bool.not_true, Bool.not_false, List.length_map, hkk, hf, hk, hpl, findP_some hf hfd, pinV]
            all_goals repeat' (first | apply And.intro | intro _)
            all_goals
              refine hK10 _ ?_
              refine hN9 _ ?_
              refine block_k fun B11 bn11 bx11 br11 bi11 => ?_
              refine seq_k fun N12 M12 hN12 hM12 => ?_
              refine region_k fun K13 hK13 => ?_
              simp only [go_sem, decide_false, decide_true, Bool.not_true, Bool.not_false, List.length_map, hkk, hf, hk, hpl, findP_some hf hfd, pinV]
              all_goals repeat' (first | apply And.intro | intro _)
              all_goals
                refine hK13 _ ?_
                refine hN12 _ ?_
                refine cond_k rfl (fun hc => ?_) (fun hc => ?_)
                · exfalso; revert hc; simp [go_sem, decide_false, decide_true, Bool.not_true, Bool.not_false, List.length_map, hkk, hf, hk, hpl, findP_some hf hfd, pinV]
                · try simp only [go_sem, decide_false, decide_true, Bool.not_true, Bool.not_false, List.length_map, hkk, hf, hk, hpl, findP_some hf hfd, pinV] at hc
                  all_goals
                    refine seq_k fun N14 M14 hN14 hM14 => ?_
                    refine region_k fun K15 hK15 => ?_
                    simp only [go_sem, decide_false, decide_true, Bool.not_true, Bool.not_false, List.length_map, hkk, hf, hk, hpl, findP_some hf hfd, pinV]
                    all_goals repeat' (first | apply And.intro | intro _)
                    all_goals
                      refine hK15 _ ?_
                      refine hN14 _ ?_
                      refine cond_k rfl (fun hc => ?_) (fun hc => ?_)
                      · exfalso; revert hc; simp [go_sem, decide_false, decide_true, Bool.not_true, Bool.not_false, List.length_map, hkk, hf, hk, hpl, findP_some hf hfd, pinV]
                      · try simp only [go_sem, decide_false, decide_true, Bool.not_true, Bool.not_false, List.length_map, hkk, hf, hk, hpl, findP_some hf hfd, pinV] at hc
                        all_goals
                          refine skip_k ?_
                          refine bn11 _ ?_
                          refine hN8 _ ?_
                          refine seq_k fun N16 M16 hN16 hM16 => ?_
                          refine region_k fun K17 hK17 => ?_
                          simp only [go_sem, decide_false, decide_true, Bool.not_true, Bool.not_false, List.length_map, hkk, hf, hk, hpl, findP_some hf hfd, pinV]
                          all_goals repeat' (first | apply And.intro | intro _)
                          all_goals
                            refine hK17 _ ?_
                            refine hN16 _ ?_
                            refine seq_k fun N18 M18 hN18 hM18 => ?_
                            refine seq_k fun N19 M19 hN19 hM19 => ?_
                            refine region_k fun K20 hK20 => ?_
                            simp only [go_sem, decide_false, decide_true, Bool.not_true, Bool.not_false, List.length_map, hkk, hf, hk, hpl, findP_some hf hfd, pinV]
                            all_goals repeat' (first | apply And.intro | intro _)
                            all_goals
                              refine hK20 _ ?_
                              refine hN19 _ ?_
                              refine block_k fun B21 bn21 bx21 br21 bi21 => ?_
                              refine ht_dropE [0, 1, 3, 7, 10, 11, 15, 16, 17, 18, 19, 20, 21, 22, 23, 24, 25, 26, 27, 28, 29, 30, 31, 32, 33, 34, 35, 36, 37, 38, 39] ?_
                              simp only [dropE_mk, fgt_nil, fgt_cons, List.contains_cons, List.contains_nil, Nat.reduceBEq, beq_self_eq_true, Bool.or_false, Bool.or_true, Bool.true_or, Bool.false_or, Bool.false_eq_true, reduceIte]
                              refine loop_k (fun i => [(42, .w (.one (.pl (.i (i.1 : Nat))))), (12, outV 53 (fgtL l s i.1))]) (fun i => outM 53 (fgtL l s i.1)) (fun i => l.length - i.1) (⟨0, Nat.zero_le _⟩ : {i : Nat // i ≤ l.length}) ?_ ?_ ?_
                              · (simp only [go_sem, fgt_zero, outV_nil, leX, List.cons_append, List.nil_append]; try simp)
                              · (simp only [go_sem, fgt_zero, outM_nil, leX, List.cons_append, List.nil_append]; try simp)
                              intro ⟨i, hi⟩ N22 M22 hN22 hM22
                              simp only [List.cons_append, List.nil_append]
                              rcases fgt_cases l s i hi with ⟨p2, hp2, hne, he⟩ | ⟨p2, hp2, hne, he⟩ | ⟨p2, hp2, hne, he⟩ | ⟨p2, hp2, hne, he⟩ | ⟨hi1, he⟩ | ⟨hi1, he⟩
                              · have hii := (List.getElem?_eq_some_iff.mp hp2).1
                                have hg0 := pinRows_get hp2
                                have hk2 := (hl p2 (List.mem_of_getElem? hp2)).1
                                have hpl2 := pinC_length hk2
                                have hlo := fgt_len (l := l) (s := s) i
                                have hcl := pinsC_length (fgt_ok (s := s) hl i)
                                have hc1 : ((i : Nat) : Int) < ((l.length : Nat) : Int) := by omega
                                have hc2 : (0 : Int) ≤ ((i : Nat) : Int) := by omega
                                have heq : decide (p2.name = s) = false := by have := name_ne_of (srt_of hf) (s := s) hii hne; rw [nameAt_eq hp2] at this; simpa using this
                                have hnx := fgt_ne hne hp2
                                simp only [he, outV_nil, outM_nil, List.cons_append, List.nil_append]
                                rw [he] at hnx
                                obtain ⟨hcap, hs1⟩ : ((fgtL l s i).length + 1) * 56 ≤ 140737488355328 ∧ Go.RowKit.wrap64 (((i : Nat) : Int) + 1) = ((i + 1 : Nat) : Int) := ⟨cap_le2 (by omega), wnat (by omega) (by omega)⟩
                                
                                refine seq_k fun N23 M23 hN23 hM23 => ?_
                                refine region_k fun K24 hK24 => ?_
                                simp only [go_sem, decide_false, decide_true, Bool.not_true, Bool.not_false, List.length_map, hkk, hf, hk, hpl, findP_some hf hfd, pinV, hg0, hk2, hpl2, hc1, hc2, hcl, hcap, hs1, heq, Int.toNat_natCast, List.flatten_nil, Nat.zero_add]
                                all_goals repeat' (first | apply And.intro | intro _)
                                all_goals
                                  refine hK24 _ ?_
                                  refine hN23 _ ?_
                                  refine seq_k fun N25 M25 hN25 hM25 => ?_
                                  refine cond_k rfl (fun hc => ?_) (fun hc => ?_)
                                  · try simp only [go_sem, decide_false, decide_true, Bool.not_true, Bool.not_false, List.length_map, hkk, hf, hk, hpl, findP_some hf hfd, pinV, hg0, hk2, hpl2, hc1, hc2, hcl, hcap, hs1, heq, Int.toNat_natCast, List.flatten_nil, Nat.zero_add] at hc
                                    all_goals
                                      refine skip_k ?_
                                      refine hN25 _ ?_
                                      refine seq_k fun N26 M26 hN26 hM26 => ?_
                                      refine block_k fun B27 bn27 bx27 br27 bi27 => ?_
                                      refine seq_k fun N28 M28 hN28 hM28 => ?_
                                      refine region_k fun K29 hK29 => ?_
                                      simp only [go_sem, decide_false, decide_true, Bool.not_true, Bool.not_false, List.length_map, hkk, hf, hk, hpl, findP_some hf hfd, pinV, hg0, hk2, hpl2, hc1, hc2, hcl, hcap, hs1, heq, Int.toNat_natCast, List.flatten_nil, Nat.zero_add]
                                      all_goals repeat' (first | apply And.intro | intro _)
                                      all_goals
                                        refine hK29 _ ?_
                                        refine hN28 _ ?_
                                        refine seq_k fun N30 M30 hN30 hM30 => ?_
                                        refine region_k fun K31 hK31 => ?_
                                        simp only [go_sem, decide_false, decide_true, Bool.not_true, Bool.not_false, List.length_map, hkk, hf, hk, hpl, findP_some hf hfd, pinV, hg0, hk2, hpl2, hc1, hc2, hcl, hcap, hs1, heq, Int.toNat_natCast, List.flatten_nil, Nat.zero_add]
                                        all_goals repeat' (first | apply And.intro | intro _)
                                        all_goals
                                          refine hK31 _ ?_
                                          refine hN30 _ ?_
                                          refine cond_k rfl (fun hc => ?_) (fun hc => ?_)
                                          · try simp only [go_sem, decide_false, decide_true, Bool.not_true, Bool.not_false, List.length_map, hkk, hf, hk, hpl, findP_some hf hfd, pinV, hg0, hk2, hpl2, hc1, hc2, hcl, hcap, hs1, heq, Int.toNat_natCast, List.flatten_nil, Nat.zero_add] at hc
                                            all_goals
                                              refine region_k fun K32 hK32 => ?_
                                              simp only [go_sem, decide_false, decide_true, Bool.not_true, Bool.not_false, List.length_map, hkk, hf, hk, hpl, findP_some hf hfd, pinV, hg0, hk2, hpl2, hc1, hc2, hcl, hcap, hs1, heq, Int.toNat_natCast, List.flatten_nil, Nat.zero_add]
                                              all_goals repeat' (first | apply And.intro | intro _)
                                              all_goals
                                                refine hK32 _ ?_
                                                refine bn27 _ ?_
                                                refine hN26 _ ?_
                                                refine region_k fun K33 hK33 => ?_
                                                simp only [go_sem, decide_false, decide_true, Bool.not_true, Bool.not_false, List.length_map, hkk, hf, hk, hpl, findP_some hf hfd, pinV, hg0, hk2, hpl2, hc1, hc2, hcl, hcap, hs1, heq, Int.toNat_natCast, List.flatten_nil, Nat.zero_add]
                                                all_goals repeat' (first | apply And.intro | intro _)
                                                all_goals
                                                  refine hK33 _ ?_
                                                  refine hN22 ⟨i + 1, hii⟩ _ ?_ ?_ ?_
                                                  · (clear hs1 hcap; show l.length - (i + 1) < l.length - i; omega)
                                                  · (simp only [go_sem, hnx, outV_snoc, outV_one, outV_nil, leX, List.cons_append, List.nil_append]; try simp [outV_one])
                                                  · (simp only [hnx, outM_snoc, outM_one, outM_nil, pinsC_append, pinsC_one, go_sem, leX, List.cons_append, List.nil_append]; try simp [pls, leX, look, outM_one, pinsC_one])
                                          · exfalso; revert hc; simp [go_sem, decide_false, decide_true, Bool.not_true, Bool.not_false, List.length_map, hkk, hf, hk, hpl, findP_some hf hfd, pinV, hg0, hk2, hpl2, hc1, hc2, hcl, hcap, hs1, heq, Int.toNat_natCast, List.flatten_nil, Nat.zero_add]
                                  · exfalso; revert hc; simp [go_sem, decide_false, decide_true, Bool.not_true, Bool.not_false, List.length_map, hkk, hf, hk, hpl, findP_some hf hfd, pinV, hg0, hk2, hpl2, hc1, hc2, hcl, hcap, hs1, heq, Int.toNat_natCast, List.flatten_nil, Nat.zero_add]
                              · have hii := (List.getElem?_eq_some_iff.mp hp2).1
                                have hg0 := pinRows_get hp2
                                have hk2 := (hl p2 (List.mem_of_getElem? hp2)).1
                                have hpl2 := pinC_length hk2
                                have hlo := fgt_len (l := l) (s := s) i
                                have hcl := pinsC_length (fgt_ok (s := s) hl i)
                                have hc1 : ((i : Nat) : Int) < ((l.length : Nat) : Int) := by omega
                                have hc2 : (0 : Int) ≤ ((i : Nat) : Int) := by omega
                                have heq : decide (p2.name = s) = false := by have := name_ne_of (srt_of hf) (s := s) hii hne; rw [nameAt_eq hp2] at this; simpa using this
                                have hnx := fgt_ne hne hp2
                                simp only [outV_of _ he, outM_of _ he, List.cons_append, List.nil_append]
                                obtain ⟨hcap, hs1⟩ : ((fgtL l s i).length + 1) * 56 ≤ 140737488355328 ∧ Go.RowKit.wrap64 (((i : Nat) : Int) + 1) = ((i + 1 : Nat) : Int) := ⟨cap_le2 (by omega), wnat (by omega) (by omega)⟩
                                
                                refine seq_k fun N34 M34 hN34 hM34 => ?_
                                refine region_k fun K35 hK35 => ?_
                                simp only [go_sem, decide_false, decide_true, Bool.not_true, Bool.not_false, List.length_map, hkk, hf, hk, hpl, findP_some hf hfd, pinV, hg0, hk2, hpl2, hc1, hc2, hcl, hcap, hs1, heq, Int.toNat_natCast, List.flatten_nil, Nat.zero_add]
                                all_goals repeat' (first | apply And.intro | intro _)
                                all_goals
                                  refine hK35 _ ?_
                                  refine hN34 _ ?_
                                  refine seq_k fun N36 M36 hN36 hM36 => ?_
                                  refine cond_k rfl (fun hc => ?_) (fun hc => ?_)
                                  · try simp only [go_sem, decide_false, decide_true, Bool.not_true, Bool.not_false, List.length_map, hkk, hf, hk, hpl, findP_some hf hfd, pinV, hg0, hk2, hpl2, hc1, hc2, hcl, hcap, hs1, heq, Int.toNat_natCast, List.flatten_nil, Nat.zero_add] at hc
                                    all_goals
                                      refine skip_k ?_
                                      refine hN36 _ ?_
                                      refine seq_k fun N37 M37 hN37 hM37 => ?_
                                      refine block_k fun B38 bn38 bx38 br38 bi38 => ?_
                                      refine seq_k fun N39 M39 hN39 hM39 => ?_
                                      refine region_k fun K40 hK40 => ?_
                                      simp only [go_sem, decide_false, decide_true, Bool.not_true, Bool.not_false, List.length_map, hkk, hf, hk, hpl, findP_some hf hfd, pinV, hg0, hk2, hpl2, hc1, hc2, hcl, hcap, hs1, heq, Int.toNat_natCast, List.flatten_nil, Nat.zero_add]
                                      all_goals repeat' (first | apply And.intro | intro _)
                                      all_goals
                                        refine hK40 _ ?_
                                        refine hN39 _ ?_
                                        refine seq_k fun N41 M41 hN41 hM41 => ?_
                                        refine region_k fun K42 hK42 => ?_
                                        simp only [go_sem, decide_false, decide_true, Bool.not_true, Bool.not_false, List.length_map, hkk, hf, hk, hpl, findP_some hf hfd, pinV, hg0, hk2, hpl2, hc1, hc2, hcl, hcap, hs1, heq, Int.toNat_natCast, List.flatten_nil, Nat.zero_add]
                                        all_goals repeat' (first | apply And.intro | intro _)
                                        all_goals
                                          refine hK42 _ ?_
                                          refine hN41 _ ?_
                                          refine cond_k rfl (fun hc => ?_) (fun hc => ?_)
                                          · try simp only [go_sem, decide_false, decide_true, Bool.not_true, Bool.not_false, List.length_map, hkk, hf, hk, hpl, findP_some hf hfd, pinV, hg0, hk2, hpl2, hc1, hc2, hcl, hcap, hs1, heq, Int.toNat_natCast, List.flatten_nil, Nat.zero_add] at hc
                                            all_goals
                                              refine region_k fun K43 hK43 => ?_
                                              simp only [go_sem, decide_false, decide_true, Bool.not_true, Bool.not_false, List.length_map, hkk, hf, hk, hpl, findP_some hf hfd, pinV, hg0, hk2, hpl2, hc1, hc2, hcl, hcap, hs1, heq, Int.toNat_natCast, List.flatten_nil, Nat.zero_add]
                                              all_goals repeat' (first | apply And.intro | intro _)
                                              all_goals
                                                refine hK43 _ ?_
                                                refine bn38 _ ?_
                                                refine hN37 _ ?_
                                                refine region_k fun K44 hK44 => ?_
                                                simp only [go_sem, decide_false, decide_true, Bool.not_true, Bool.not_false, List.length_map, hkk, hf, hk, hpl, findP_some hf hfd, pinV, hg0, hk2, hpl2, hc1, hc2, hcl, hcap, hs1, heq, Int.toNat_natCast, List.flatten_nil, Nat.zero_add]
                                                all_goals repeat' (first | apply And.intro | intro _)
                                                all_goals
                                                  refine hK44 _ ?_
                                                  refine hN22 ⟨i + 1, hii⟩ _ ?_ ?_ ?_
                                                  · (clear hs1 hcap; show l.length - (i + 1) < l.length - i; omega)
                                                  · (simp only [go_sem, hnx, outV_snoc, outV_one, outV_nil, outV_of _ he, leX, List.cons_append, List.nil_append]; try simp [outV_one])
                                                  · (simp only [hnx, outM_snoc, outM_one, outM_nil, outM_of _ he, pinsC_append, pinsC_one, go_sem, leX, List.cons_append, List.nil_append]; try simp [pls, leX, look, outM_one, pinsC_one])
                                          · exfalso; revert hc; simp [go_sem, decide_false, decide_true, Bool.not_true, Bool.not_false, List.length_map, hkk, hf, hk, hpl, findP_some hf hfd, pinV, hg0, hk2, hpl2, hc1, hc2, hcl, hcap, hs1, heq, Int.toNat_natCast, List.flatten_nil, Nat.zero_add]
                                  · exfalso; revert hc; simp [go_sem, decide_false, decide_true, Bool.not_true, Bool.not_false, List.length_map, hkk, hf, hk, hpl, findP_some hf hfd, pinV, hg0, hk2, hpl2, hc1, hc2, hcl, hcap, hs1, heq, Int.toNat_natCast, List.flatten_nil, Nat.zero_add]
                              · have hii := (List.getElem?_eq_some_iff.mp hp2).1
                                have hg0 := pinRows_get hp2
                                have hk2 := (hl p2 (List.mem_of_getElem? hp2)).1
                                have hpl2 := pinC_length hk2
                                have hlo := fgt_len (l := l) (s := s) i
                                have hcl := pinsC_length (fgt_ok (s := s) hl i)
                                have hc1 : ((i : Nat) : Int) < ((l.length : Nat) : Int) := by omega
                                have hc2 : (0 : Int) ≤ ((i : Nat) : Int) := by omega
                                obtain rfl : p2 = p := by rw [hne, hp] at hp2; cases hp2; rfl
                                have heq : decide (p2.name = s) = true := by simpa using hn
                                have hnx := fgt_eq hne
                                simp only [he, outV_nil, outM_nil, List.cons_append, List.nil_append]
                                rw [he] at hnx
                                obtain ⟨hcap, hs1⟩ : ((fgtL l s i).length + 1) * 56 ≤ 140737488355328 ∧ Go.RowKit.wrap64 (((i : Nat) : Int) + 1) = ((i + 1 : Nat) : Int) := ⟨cap_le2 (by omega), wnat (by omega) (by omega)⟩
                                
                                refine seq_k fun N45 M45 hN45 hM45 => ?_
                                refine region_k fun K46 hK46 => ?_
                                simp only [go_sem, decide_false, decide_true, Bool.not_true, Bool.not_false, List.length_map, hkk, hf, hk, hpl, findP_some hf hfd, pinV, hg0, hk2, hpl2, hc1, hc2, hcl, hcap, hs1, heq, Int.toNat_natCast, List.flatten_nil, Nat.zero_add]
                                all_goals repeat' (first | apply And.intro | intro _)
                                all_goals
                                  refine hK46 _ ?_
                                  refine hN45 _ ?_
                                  refine seq_k fun N47 M47 hN47 hM47 => ?_
                                  refine cond_k rfl (fun hc => ?_) (fun hc => ?_)
                                  · try simp only [go_sem, decide_false, decide_true, Bool.not_true, Bool.not_false, List.length_map, hkk, hf, hk, hpl, findP_some hf hfd, pinV, hg0, hk2, hpl2, hc1, hc2, hcl, hcap, hs1, heq, Int.toNat_natCast, List.flatten_nil, Nat.zero_add] at hc
                                    all_goals
                                      refine skip_k ?_
                                      refine hN47 _ ?_
                                      refine seq_k fun N48 M48 hN48 hM48 => ?_
                                      refine block_k fun B49 bn49 bx49 br49 bi49 => ?_
                                      refine seq_k fun N50 M50 hN50 hM50 => ?_
                                      refine region_k fun K51 hK51 => ?_
                                      simp only [go_sem, decide_false, decide_true, Bool.not_true, Bool.not_false, List.length_map, hkk, hf, hk, hpl, findP_some hf hfd, pinV, hg0, hk2, hpl2, hc1, hc2, hcl, hcap, hs1, heq, Int.toNat_natCast, List.flatten_nil, Nat.zero_add]
                                      all_goals repeat' (first | apply And.intro | intro _)
                                      all_goals
                                        refine hK51 _ ?_
                                        refine hN50 _ ?_
                                        refine seq_k fun N52 M52 hN52 hM52 => ?_
                                        refine region_k fun K53 hK53 => ?_
                                        simp only [go_sem, decide_false, decide_true, Bool.not_true, Bool.not_false, List.length_map, hkk, hf, hk, hpl, findP_some hf hfd, pinV, hg0, hk2, hpl2, hc1, hc2, hcl, hcap, hs1, heq, Int.toNat_natCast, List.flatten_nil, Nat.zero_add]
                                        all_goals repeat' (first | apply And.intro | intro _)
                                        all_goals
                                          refine hK53 _ ?_
                                          refine hN52 _ ?_
                                          refine cond_k rfl (fun hc => ?_) (fun hc => ?_)
                                          · exfalso; revert hc; simp [go_sem, decide_false, decide_true, Bool.not_true, Bool.not_false, List.length_map, hkk, hf, hk, hpl, findP_some hf hfd, pinV, hg0, hk2, hpl2, hc1, hc2, hcl, hcap, hs1, heq, Int.toNat_natCast, List.flatten_nil, Nat.zero_add]
                                          · try simp only [go_sem, decide_false, decide_true, Bool.not_true, Bool.not_false, List.length_map, hkk, hf, hk, hpl, findP_some hf hfd, pinV, hg0, hk2, hpl2, hc1, hc2, hcl, hcap, hs1, heq, Int.toNat_natCast, List.flatten_nil, Nat.zero_add] at hc
                                            all_goals
                                              refine skip_k ?_
                                              refine bn49 _ ?_
                                              refine hN48 _ ?_
                                              refine region_k fun K54 hK54 => ?_
                                              simp only [go_sem, decide_false, decide_true, Bool.not_true, Bool.not_false, List.length_map, hkk, hf, hk, hpl, findP_some hf hfd, pinV, hg0, hk2, hpl2, hc1, hc2, hcl, hcap, hs1, heq, Int.toNat_natCast, List.flatten_nil, Nat.zero_add]
                                              all_goals repeat' (first | apply And.intro | intro _)
                                              all_goals
                                                refine hK54 _ ?_
                                                refine hN22 ⟨i + 1, hii⟩ _ ?_ ?_ ?_
                                                · (clear hs1 hcap; show l.length - (i + 1) < l.length - i; omega)
                                                · (simp only [go_sem, hnx, outV_snoc, outV_one, outV_nil, leX, List.cons_append, List.nil_append]; try simp [outV_one])
                                                · (simp only [hnx, outM_snoc, outM_one, outM_nil, pinsC_append, pinsC_one, go_sem, leX, List.cons_append, List.nil_append]; try simp [pls, leX, look, outM_one, pinsC_one])
                                  · exfalso; revert hc; simp [go_sem, decide_false, decide_true, Bool.not_true, Bool.not_false, List.length_map, hkk, hf, hk, hpl, findP_some hf hfd, pinV, hg0, hk2, hpl2, hc1, hc2, hcl, hcap, hs1, heq, Int.toNat_natCast, List.flatten_nil, Nat.zero_add]
                              · have hii := (List.getElem?_eq_some_iff.mp hp2).1
                                have hg0 := pinRows_get hp2
                                have hk2 := (hl p2 (List.mem_of_getElem? hp2)).1
                                have hpl2 := pinC_length hk2
                                have hlo := fgt_len (l := l) (s := s) i
                                have hcl := pinsC_length (fgt_ok (s := s) hl i)
                                have hc1 : ((i : Nat) : Int) < ((l.length : Nat) : Int) := by omega
                                have hc2 : (0 : Int) ≤ ((i : Nat) : Int) := by omega
                                obtain rfl : p2 = p := by rw [hne, hp] at hp2; cases hp2; rfl
                                have heq : decide (p2.name = s) = true := by simpa using hn
                                have hnx := fgt_eq hne
                                simp only [outV_of _ he, outM_of _ he, List.cons_append, List.nil_append]
                                obtain ⟨hcap, hs1⟩ : ((fgtL l s i).length + 1) * 56 ≤ 140737488355328 ∧ Go.RowKit.wrap64 (((i : Nat) : Int) + 1) = ((i + 1 : Nat) : Int) := ⟨cap_le2 (by omega), wnat (by omega) (by omega)⟩
                                
                                refine seq_k fun N55 M55 hN55 hM55 => ?_
                                refine region_k fun K56 hK56 => ?_
                                simp only [go_sem, decide_false, decide_true, Bool.not_true, Bool.not_false, List.length_map, hkk, hf, hk, hpl, findP_some hf hfd, pinV, hg0, hk2, hpl2, hc1, hc2, hcl, hcap, hs1, heq, Int.toNat_natCast, List.flatten_nil, Nat.zero_add]
                                all_goals repeat' (first | apply And.intro | intro _)
                                all_goals
                                  refine hK56 _ ?_
                                  refine hN55 _ ?_
                                  refine seq_k fun N57 M57 hN57 hM57 => ?_
                                  refine cond_k rfl (fun hc => ?_) (fun hc => ?_)
                                  · try simp only [go_sem, decide_false, decide_true, Bool.not_true, Bool.not_false, List.length_map, hkk, hf, hk, hpl, findP_some hf hfd, pinV, hg0, hk2, hpl2, hc1, hc2, hcl, hcap, hs1, heq, Int.toNat_natCast, List.flatten_nil, Nat.zero_add] at hc
                                    all_goals
                                      refine skip_k ?_
                                      refine hN57 _ ?_
                                      refine seq_k fun N58 M58 hN58 hM58 => ?_
                                      refine block_k fun B59 bn59 bx59 br59 bi59 => ?_
                                      refine seq_k fun N60 M60 hN60 hM60 => ?_
                                      refine region_k fun K61 hK61 => ?_
                                      simp only [go_sem, decide_false, decide_true, Bool.not_true, Bool.not_false, List.length_map, hkk, hf, hk, hpl, findP_some hf hfd, pinV, hg0, hk2, hpl2, hc1, hc2, hcl, hcap, hs1, heq, Int.toNat_natCast, List.flatten_nil, Nat.zero_add]
                                      all_goals repeat' (first | apply And.intro | intro _)
                                      all_goals
                                        refine hK61 _ ?_
                                        refine hN60 _ ?_
                                        refine seq_k fun N62 M62 hN62 hM62 => ?_
                                        refine region_k fun K63 hK63 => ?_
                                        simp only [go_sem, decide_false, decide_true, Bool.not_true, Bool.not_false, List.length_map, hkk, hf, hk, hpl, findP_some hf hfd, pinV, hg0, hk2, hpl2, hc1, hc2, hcl, hcap, hs1, heq, Int.toNat_natCast, List.flatten_nil, Nat.zero_add]
                                        all_goals repeat' (first | apply And.intro | intro _)
                                        all_goals
                                          refine hK63 _ ?_
                                          refine hN62 _ ?_
                                          refine cond_k rfl (fun hc => ?_) (fun hc => ?_)
                                          · exfalso; revert hc; simp [go_sem, decide_false, decide_true, Bool.not_true, Bool.not_false, List.length_map, hkk, hf, hk, hpl, findP_some hf hfd, pinV, hg0, hk2, hpl2, hc1, hc2, hcl, hcap, hs1, heq, Int.toNat_natCast, List.flatten_nil, Nat.zero_add]
                                          · try simp only [go_sem, decide_false, decide_true, Bool.not_true, Bool.not_false, List.length_map, hkk, hf, hk, hpl, findP_some hf hfd, pinV, hg0, hk2, hpl2, hc1, hc2, hcl, hcap, hs1, heq, Int.toNat_natCast, List.flatten_nil, Nat.zero_add] at hc
                                            all_goals
                                              refine skip_k ?_
                                              refine bn59 _ ?_
                                              refine hN58 _ ?_
                                              refine region_k fun K64 hK64 => ?_
                                              simp only [go_sem, decide_false, decide_true, Bool.not_true, Bool.not_false, List.length_map, hkk, hf, hk, hpl, findP_some hf hfd, pinV, hg0, hk2, hpl2, hc1, hc2, hcl, hcap, hs1, heq, Int.toNat_natCast, List.flatten_nil, Nat.zero_add]
                                              all_goals repeat' (first | apply And.intro | intro _)
                                              all_goals
                                                refine hK64 _ ?_
                                                refine hN22 ⟨i + 1, hii⟩ _ ?_ ?_ ?_
                                                · (clear hs1 hcap; show l.length - (i + 1) < l.length - i; omega)
                                                · (simp only [go_sem, hnx, outV_snoc, outV_one, outV_nil, outV_of _ he, leX, List.cons_append, List.nil_append]; try simp [outV_one])
                                                · (simp only [hnx, outM_snoc, outM_one, outM_nil, outM_of _ he, pinsC_append, pinsC_one, go_sem, leX, List.cons_append, List.nil_append]; try simp [pls, leX, look, outM_one, pinsC_one])
                                  · exfalso; revert hc; simp [go_sem, decide_false, decide_true, Bool.not_true, Bool.not_false, List.length_map, hkk, hf, hk, hpl, findP_some hf hfd, pinV, hg0, hk2, hpl2, hc1, hc2, hcl, hcap, hs1, heq, Int.toNat_natCast, List.flatten_nil, Nat.zero_add]
                              · have hfi := fgt_end (l := l) (s := s) hlt
                                rw [hi1] at he
                                have hc9 : ¬ ((i : Nat) : Int) < ((l.length : Nat) : Int) := by omega
                                simp only [hi1, he, outV_nil, outM_nil, List.cons_append, List.nil_append]
                                have hc8 : ¬ ((l.length : Nat) : Int) < ((l.length : Nat) : Int) := by omega
                                refine seq_k fun N65 M65 hN65 hM65 => ?_
                                refine region_k fun K66 hK66 => ?_
                                simp only [go_sem, decide_false, decide_true, Bool.not_true, Bool.not_false, List.length_map, hkk, hf, hk, hpl, findP_some hf hfd, pinV, hc8]
                                all_goals repeat' (first | apply And.intro | intro _)
                                all_goals
                                  refine hK66 _ ?_
                                  refine hN65 _ ?_
                                  refine seq_k fun N67 M67 hN67 hM67 => ?_
                                  refine cond_k rfl (fun hc => ?_) (fun hc => ?_)
                                  · exfalso; revert hc; simp [go_sem, decide_false, decide_true, Bool.not_true, Bool.not_false, List.length_map, hkk, hf, hk, hpl, findP_some hf hfd, pinV, hc8]
                                  · try simp only [go_sem, decide_false, decide_true, Bool.not_true, Bool.not_false, List.length_map, hkk, hf, hk, hpl, findP_some hf hfd, pinV, hc8] at hc
                                    all_goals
                                      refine exit_k ?_
                                      refine hM67 _ _ ?_
                                      refine hM22 _ _ ?_
                                      refine bx21 _ ?_
                                      refine hN18 _ ?_
                                      refine seq_k fun N68 M68 hN68 hM68 => ?_
                                      refine region_k fun K69 hK69 => ?_
                                      simp only [go_sem, decide_false, decide_true, Bool.not_true, Bool.not_false, List.length_map, hkk, hf, hk, hpl, findP_some hf hfd, pinV, hc8]
                                      all_goals repeat' (first | apply And.intro | intro _)
                                      all_goals
                                        refine hK69 _ ?_
                                        refine hN68 _ ?_
                                        refine ret_k ?_
                                        simp only [go_sem, decide_false, decide_true, Bool.not_true, Bool.not_false, List.length_map, hkk, hf, hk, hpl, findP_some hf hfd, pinV, hc8]
                                        all_goals (rw [turn_yes hf hfd]; simp only [fgtM, List.nil_append]; rw [← hfi, he]; exact pins_nil)
                              · have hfi := fgt_end (l := l) (s := s) hlt
                                rw [hi1] at he
                                have hc9 : ¬ ((i : Nat) : Int) < ((l.length : Nat) : Int) := by omega
                                simp only [hi1, outV_of _ he, outM_of _ he, List.cons_append, List.nil_append]
                                have hc8 : ¬ ((l.length : Nat) : Int) < ((l.length : Nat) : Int) := by omega
                                refine seq_k fun N70 M70 hN70 hM70 => ?_
                                refine region_k fun K71 hK71 => ?_
                                simp only [go_sem, decide_false, decide_true, Bool.not_true, Bool.not_false, List.length_map, hkk, hf, hk, hpl, findP_some hf hfd, pinV, hc8]
                                all_goals repeat' (first | apply And.intro | intro _)
                                all_goals
                                  refine hK71 _ ?_
                                  refine hN70 _ ?_
                                  refine seq_k fun N72 M72 hN72 hM72 => ?_
                                  refine cond_k rfl (fun hc => ?_) (fun hc => ?_)
                                  · exfalso; revert hc; simp [go_sem, decide_false, decide_true, Bool.not_true, Bool.not_false, List.length_map, hkk, hf, hk, hpl, findP_some hf hfd, pinV, hc8]
                                  · try simp only [go_sem, decide_false, decide_true, Bool.not_true, Bool.not_false, List.length_map, hkk, hf, hk, hpl, findP_some hf hfd, pinV, hc8] at hc
                                    all_goals
                                      refine exit_k ?_
                                      refine hM72 _ _ ?_
                                      refine hM22 _ _ ?_
                                      refine bx21 _ ?_
                                      refine hN18 _ ?_
                                      refine seq_k fun N73 M73 hN73 hM73 => ?_
                                      refine region_k fun K74 hK74 => ?_
                                      simp only [go_sem, decide_false, decide_true, Bool.not_true, Bool.not_false, List.length_map, hkk, hf, hk, hpl, findP_some hf hfd, pinV, hc8]
                                      all_goals repeat' (first | apply And.intro | intro _)
                                      all_goals
                                        refine hK74 _ ?_
                                        refine hN73 _ ?_
                                        refine ret_k ?_
                                        simp only [go_sem, decide_false, decide_true, Bool.not_true, Bool.not_false, List.length_map, hkk, hf, hk, hpl, findP_some hf hfd, pinV, hc8]
                                        all_goals (rw [turn_yes hf hfd]; simp only [fgtM, List.nil_append]; rw [← hfi]; exact pins_obj (b := true) (by simp [look]) (fgt_ok hl _) rfl)
theorem turned_rot (l : List PinD) (hl : ∀ p ∈ l, p.ok) (ex : Bool) (s : List UInt8) (hsl : s.length ≤ 9223372036854775807) (k : List UInt8) (hkk : k.length = 32) : Ct Try.prog 35 [.w (.one (.pl (.i 1))), .w (.one (.pl (.R ex 34 (pinRows l)))), .w (.one (.pl (.str s))), .w (.agg (bytesC k))] (pinsV (turnP l s (rotM k)).2 (turnP l s (rotM k)).1) := by
  by_cases hf : pinsFault l = 0
  · cases hx : hasP l s with
    | true => exact (tu_rot l hl ex s hsl k hkk hf hx).told
    | false => exact (tu_no l hl ex s hsl k hkk 1 (rotM k) hf hx).told
  · exact (tu_bad l hl ex s hsl k hkk 1 (rotM k) hf).told
theorem turned_rev (l : List PinD) (hl : ∀ p ∈ l, p.ok) (ex : Bool) (s : List UInt8) (hsl : s.length ≤ 9223372036854775807) (k : List UInt8) (hkk : k.length = 32) : Ct Try.prog 35 [.w (.one (.pl (.i 2))), .w (.one (.pl (.R ex 34 (pinRows l)))), .w (.one (.pl (.str s))), .w (.agg (bytesC k))] (pinsV (turnP l s revM).2 (turnP l s revM).1) := by
  by_cases hf : pinsFault l = 0
  · cases hx : hasP l s with
    | true => exact (tu_rev l hl ex s hsl k hkk hf hx).told
    | false => exact (tu_no l hl ex s hsl k hkk 2 revM hf hx).told
  · exact (tu_bad l hl ex s hsl k hkk 2 revM hf).told
theorem turned_fgt (l : List PinD) (hl : ∀ p ∈ l, p.ok) (ex : Bool) (s : List UInt8) (hsl : s.length ≤ 9223372036854775807) (k : List UInt8) (hkk : k.length = 32) : Ct Try.prog 35 [.w (.one (.pl (.i 3))), .w (.one (.pl (.R ex 34 (pinRows l)))), .w (.one (.pl (.str s))), .w (.agg (bytesC k))] (pinsV (turnP l s fgtM).2 (turnP l s fgtM).1) := by
  by_cases hf : pinsFault l = 0
  · cases hx : hasP l s with
    | true => exact (tu_fgt l hl ex s hsl k hkk hf hx).told
    | false => exact (tu_no l hl ex s hsl k hkk 3 fgtM hf hx).told
  · exact (tu_bad l hl ex s hsl k hkk 3 fgtM hf).told
set_option maxHeartbeats 1600000 in
set_option maxRecDepth 100000 in
theorem pins_turns (l : List PinD) (hl : ∀ p ∈ l, p.ok) (ex : Bool) (s : List UInt8) (hsl : s.length ≤ 9223372036854775807) (k : List UInt8) (hkk : k.length = 32) :
    Ct Try.prog 10 [.w (.one (.pl (.R ex 34 (pinRows l)))), .w (.one (.pl (.str s))), .w (.agg (bytesC k))] (fun v m => v = .w (.one (.pl (.b true)))) := by
  obtain ⟨ho1, hm1⟩ := turn_sound (s := s) (mid := rotM k) hl fun p hp => ⟨fun q hq => by rw [List.mem_singleton.mp hq]; exact ⟨hkk, hp.2⟩, Nat.le_refl _⟩
  obtain ⟨ho2, hm2⟩ := turn_sound (s := s) (mid := revM) hl fun p hp => ⟨fun q hq => by rw [List.mem_singleton.mp hq]; exact ⟨hp.1, hp.2⟩, Nat.le_refl _⟩
  obtain ⟨ho3, hm3⟩ := turn_sound (s := s) (mid := fgtM) hl fun p hp => ⟨fun q hq => (by cases hq), Nat.zero_le _⟩
  refine Ct.k Try.func10 rfl Try.ntmps10 (congrArg Array.toList Try.results10) (by simp) fun w0 ro => ?_
  refine seq_k fun N1 M1 hN1 hM1 => ?_
  refine region_k fun K2 hK2 => ?_
  simp only [go_sem, hkk, decide_true]
  all_goals repeat' (first | apply And.intro | intro _)
  all_goals
    refine hK2 _ ?_
    refine hN1 _ ?_
    refine seq_k fun N3 M3 hN3 hM3 => ?_
    refine region_k fun K4 hK4 => ?_
    simp only [go_sem, hkk, decide_true]
    all_goals repeat' (first | apply And.intro | intro _)
    all_goals (refine call_hand false [] (fun k => k) (fun _ _ => rfl) ?_ (by decide) ?_ (rotate_w l hl ex s k hkk).told.hands ?_; (focus ( first | rfl | (simp only [go_sem, valsIn, valIn, leafIn, leavesIn, nameIn, capsIn, handOk, hkk, decide_true] <;> done) | (simp only [go_sem, valsIn, valIn, leafIn, leavesIn, nameIn, capsIn, handOk, hkk, decide_true] <;> rfl) | (simp only [go_sem, valsIn, valIn, leafIn, leavesIn, nameIn, capsIn, handOk, hkk, decide_true] <;> simp))); (focus ( first | rfl | (simp only [go_sem, valsIn, valIn, leafIn, leavesIn, nameIn, capsIn, handOk, hkk, decide_true] <;> done) | (simp only [go_sem, valsIn, valIn, leafIn, leavesIn, nameIn, capsIn, handOk, hkk, decide_true] <;> rfl) | (simp only [go_sem, valsIn, valIn, leafIn, leavesIn, nameIn, capsIn, handOk, hkk, decide_true] <;> simp))))
    all_goals (rintro v m ⟨hR, hm⟩; subst hR; subst hm)
    all_goals refine And.intro (by (first | rfl | (simp only [go_sem, leafOutV, leafOutW, leafOut, okN, outOk, inv, hkk, decide_true]; done) | (simp [go_sem, leafOutV, leafOutW, leafOut, okN, outOk, inv, look, hkk, decide_true]; done))) (And.intro (by (first | rfl | (simp only [go_sem, leafOutV, leafOutW, leafOut, okN, outOk, inv, hkk, decide_true]; done) | (simp [go_sem, leafOutV, leafOutW, leafOut, okN, outOk, inv, look, hkk, decide_true]; done))) (And.intro (by (first | rfl | (simp only [go_sem, leafOutV, leafOutW, leafOut, okN, outOk, inv, hkk, decide_true]; done) | (simp [go_sem, leafOutV, leafOutW, leafOut, okN, outOk, inv, look, hkk, decide_true]; done))) ?_))
    all_goals (try simp only [go_sem, backM, outN, nameOut, Ob.ren, V.ren, W.ren, L.ren, setM, hkk, decide_true])
    all_goals (try simp only [go_sem, hkk, decide_true])
    all_goals repeat' (first | apply And.intro | intro _)
    all_goals
      refine hK4 _ ?_
      refine hN3 _ ?_
      refine seq_k fun N5 M5 hN5 hM5 => ?_
      refine region_k fun K6 hK6 => ?_
      simp only [go_sem, hkk, decide_true]
      all_goals repeat' (first | apply And.intro | intro _)
      all_goals (refine call_hand false [] (fun k => k) (fun _ _ => rfl) ?_ (by decide) ?_ (revoke_w l hl ex s).told.hands ?_; (focus ( first | rfl | (simp only [go_sem, valsIn, valIn, leafIn, leavesIn, nameIn, capsIn, handOk, hkk, decide_true] <;> done) | (simp only [go_sem, valsIn, valIn, leafIn, leavesIn, nameIn, capsIn, handOk, hkk, decide_true] <;> rfl) | (simp only [go_sem, valsIn, valIn, leafIn, leavesIn, nameIn, capsIn, handOk, hkk, decide_true] <;> simp))); (focus ( first | rfl | (simp only [go_sem, valsIn, valIn, leafIn, leavesIn, nameIn, capsIn, handOk, hkk, decide_true] <;> done) | (simp only [go_sem, valsIn, valIn, leafIn, leavesIn, nameIn, capsIn, handOk, hkk, decide_true] <;> rfl) | (simp only [go_sem, valsIn, valIn, leafIn, leavesIn, nameIn, capsIn, handOk, hkk, decide_true] <;> simp))))
      all_goals (rintro v m ⟨hR, hm⟩; subst hR; subst hm)
      all_goals refine And.intro (by (first | rfl | (simp only [go_sem, leafOutV, leafOutW, leafOut, okN, outOk, inv, hkk, decide_true]; done) | (simp [go_sem, leafOutV, leafOutW, leafOut, okN, outOk, inv, look, hkk, decide_true]; done))) (And.intro (by (first | rfl | (simp only [go_sem, leafOutV, leafOutW, leafOut, okN, outOk, inv, hkk, decide_true]; done) | (simp [go_sem, leafOutV, leafOutW, leafOut, okN, outOk, inv, look, hkk, decide_true]; done))) (And.intro (by (first | rfl | (simp only [go_sem, leafOutV, leafOutW, leafOut, okN, outOk, inv, hkk, decide_true]; done) | (simp [go_sem, leafOutV, leafOutW, leafOut, okN, outOk, inv, look, hkk, decide_true]; done))) ?_))
      all_goals (try simp only [go_sem, backM, outN, nameOut, Ob.ren, V.ren, W.ren, L.ren, setM, hkk, decide_true])
      all_goals (try simp only [go_sem, hkk, decide_true])
      all_goals repeat' (first | apply And.intro | intro _)
      all_goals
        refine hK6 _ ?_
        refine hN5 _ ?_
        refine seq_k fun N7 M7 hN7 hM7 => ?_
        refine region_k fun K8 hK8 => ?_
        simp only [go_sem, hkk, decide_true]
        all_goals repeat' (first | apply And.intro | intro _)
        all_goals (refine call_hand false [] (fun k => k) (fun _ _ => rfl) ?_ (by decide) ?_ (forget_w l hl ex s).told.hands ?_; (focus ( first | rfl | (simp only [go_sem, valsIn, valIn, leafIn, leavesIn, nameIn, capsIn, handOk, hkk, decide_true] <;> done) | (simp only [go_sem, valsIn, valIn, leafIn, leavesIn, nameIn, capsIn, handOk, hkk, decide_true] <;> rfl) | (simp only [go_sem, valsIn, valIn, leafIn, leavesIn, nameIn, capsIn, handOk, hkk, decide_true] <;> simp))); (focus ( first | rfl | (simp only [go_sem, valsIn, valIn, leafIn, leavesIn, nameIn, capsIn, handOk, hkk, decide_true] <;> done) | (simp only [go_sem, valsIn, valIn, leafIn, leavesIn, nameIn, capsIn, handOk, hkk, decide_true] <;> rfl) | (simp only [go_sem, valsIn, valIn, leafIn, leavesIn, nameIn, capsIn, handOk, hkk, decide_true] <;> simp))))
        all_goals (rintro v m ⟨hR, hm⟩; subst hR; subst hm)
        all_goals refine And.intro (by (first | rfl | (simp only [go_sem, leafOutV, leafOutW, leafOut, okN, outOk, inv, hkk, decide_true]; done) | (simp [go_sem, leafOutV, leafOutW, leafOut, okN, outOk, inv, look, hkk, decide_true]; done))) (And.intro (by (first | rfl | (simp only [go_sem, leafOutV, leafOutW, leafOut, okN, outOk, inv, hkk, decide_true]; done) | (simp [go_sem, leafOutV, leafOutW, leafOut, okN, outOk, inv, look, hkk, decide_true]; done))) (And.intro (by (first | rfl | (simp only [go_sem, leafOutV, leafOutW, leafOut, okN, outOk, inv, hkk, decide_true]; done) | (simp [go_sem, leafOutV, leafOutW, leafOut, okN, outOk, inv, look, hkk, decide_true]; done))) ?_))
        all_goals (try simp only [go_sem, backM, outN, nameOut, Ob.ren, V.ren, W.ren, L.ren, setM, hkk, decide_true])
        all_goals (try simp only [go_sem, hkk, decide_true])
        all_goals repeat' (first | apply And.intro | intro _)
        all_goals
          refine hK8 _ ?_
          refine hN7 _ ?_
          refine seq_k fun N9 M9 hN9 hM9 => ?_
          refine ht_dropE [19, 20, 21, 22, 23, 24, 25, 26, 27, 28, 29, 30, 31, 32, 33, 34, 35, 36, 37] ?_
          simp only [dropE_mk, fgt_nil, fgt_cons, List.contains_cons, List.contains_nil, Nat.reduceBEq, beq_self_eq_true, Bool.or_false, Bool.or_true, Bool.true_or, Bool.false_or, Bool.false_eq_true, reduceIte]
          refine region_k fun K10 hK10 => ?_
          simp only [go_sem, hkk, decide_true]
          all_goals repeat' (first | apply And.intro | intro _)
          all_goals (refine call_hand false [] (fun k => k) (fun _ _ => rfl) ?_ (by decide) ?_ (turned_rot l hl ex s hsl k hkk).hands ?_; (focus ( first | rfl | (simp only [go_sem, valsIn, valIn, leafIn, leavesIn, nameIn, capsIn, handOk, hkk, decide_true] <;> done) | (simp only [go_sem, valsIn, valIn, leafIn, leavesIn, nameIn, capsIn, handOk, hkk, decide_true] <;> rfl) | (simp only [go_sem, valsIn, valIn, leafIn, leavesIn, nameIn, capsIn, handOk, hkk, decide_true] <;> simp))); (focus ( first | rfl | (simp only [go_sem, valsIn, valIn, leafIn, leavesIn, nameIn, capsIn, handOk, hkk, decide_true] <;> done) | (simp only [go_sem, valsIn, valIn, leafIn, leavesIn, nameIn, capsIn, handOk, hkk, decide_true] <;> rfl) | (simp only [go_sem, valsIn, valIn, leafIn, leavesIn, nameIn, capsIn, handOk, hkk, decide_true] <;> simp))))
          all_goals (rintro v m ⟨hR, hm⟩; subst hR; subst hm)
          all_goals refine And.intro (by (first | rfl | (simp only [go_sem, leafOutV, leafOutW, leafOut, okN, outOk, inv, hkk, decide_true]; done) | (simp [go_sem, leafOutV, leafOutW, leafOut, okN, outOk, inv, look, hkk, decide_true]; done))) (And.intro (by (first | rfl | (simp only [go_sem, leafOutV, leafOutW, leafOut, okN, outOk, inv, hkk, decide_true]; done) | (simp [go_sem, leafOutV, leafOutW, leafOut, okN, outOk, inv, look, hkk, decide_true]; done))) (And.intro (by (first | rfl | (simp only [go_sem, leafOutV, leafOutW, leafOut, okN, outOk, inv, hkk, decide_true]; done) | (simp [go_sem, leafOutV, leafOutW, leafOut, okN, outOk, inv, look, hkk, decide_true]; done))) ?_))
          all_goals (try simp only [go_sem, backM, outN, nameOut, Ob.ren, V.ren, W.ren, L.ren, setM, hkk, decide_true])
          all_goals (try simp only [go_sem, hkk, decide_true])
          all_goals repeat' (first | apply And.intro | intro _)
          all_goals
            refine hK10 _ ?_
            refine hN9 _ ?_
            refine seq_k fun N11 M11 hN11 hM11 => ?_
            refine region_k fun K12 hK12 => ?_
            simp only [go_sem, hkk, decide_true]
            all_goals repeat' (first | apply And.intro | intro _)
            all_goals (refine call_hand false [] (fun k => k) (fun _ _ => rfl) ?_ (by decide) ?_ (turned_rev l hl ex s hsl k hkk).hands ?_; (focus ( first | rfl | (simp only [go_sem, valsIn, valIn, leafIn, leavesIn, nameIn, capsIn, handOk, hkk, decide_true] <;> done) | (simp only [go_sem, valsIn, valIn, leafIn, leavesIn, nameIn, capsIn, handOk, hkk, decide_true] <;> rfl) | (simp only [go_sem, valsIn, valIn, leafIn, leavesIn, nameIn, capsIn, handOk, hkk, decide_true] <;> simp))); (focus ( first | rfl | (simp only [go_sem, valsIn, valIn, leafIn, leavesIn, nameIn, capsIn, handOk, hkk, decide_true] <;> done) | (simp only [go_sem, valsIn, valIn, leafIn, leavesIn, nameIn, capsIn, handOk, hkk, decide_true] <;> rfl) | (simp only [go_sem, valsIn, valIn, leafIn, leavesIn, nameIn, capsIn, handOk, hkk, decide_true] <;> simp))))
            all_goals (rintro v m ⟨hR, hm⟩; subst hR; subst hm)
            all_goals refine And.intro (by (first | rfl | (simp only [go_sem, leafOutV, leafOutW, leafOut, okN, outOk, inv, hkk, decide_true]; done) | (simp [go_sem, leafOutV, leafOutW, leafOut, okN, outOk, inv, look, hkk, decide_true]; done))) (And.intro (by (first | rfl | (simp only [go_sem, leafOutV, leafOutW, leafOut, okN, outOk, inv, hkk, decide_true]; done) | (simp [go_sem, leafOutV, leafOutW, leafOut, okN, outOk, inv, look, hkk, decide_true]; done))) (And.intro (by (first | rfl | (simp only [go_sem, leafOutV, leafOutW, leafOut, okN, outOk, inv, hkk, decide_true]; done) | (simp [go_sem, leafOutV, leafOutW, leafOut, okN, outOk, inv, look, hkk, decide_true]; done))) ?_))
            all_goals (try simp only [go_sem, backM, outN, nameOut, Ob.ren, V.ren, W.ren, L.ren, setM, hkk, decide_true])
            all_goals (try simp only [go_sem, hkk, decide_true])
            all_goals repeat' (first | apply And.intro | intro _)
            all_goals
              refine hK12 _ ?_
              refine hN11 _ ?_
              refine seq_k fun N13 M13 hN13 hM13 => ?_
              refine region_k fun K14 hK14 => ?_
              simp only [go_sem, hkk, decide_true]
              all_goals repeat' (first | apply And.intro | intro _)
              all_goals (refine call_hand false [] (fun k => k) (fun _ _ => rfl) ?_ (by decide) ?_ (turned_fgt l hl ex s hsl k hkk).hands ?_; (focus ( first | rfl | (simp only [go_sem, valsIn, valIn, leafIn, leavesIn, nameIn, capsIn, handOk, hkk, decide_true] <;> done) | (simp only [go_sem, valsIn, valIn, leafIn, leavesIn, nameIn, capsIn, handOk, hkk, decide_true] <;> rfl) | (simp only [go_sem, valsIn, valIn, leafIn, leavesIn, nameIn, capsIn, handOk, hkk, decide_true] <;> simp))); (focus ( first | rfl | (simp only [go_sem, valsIn, valIn, leafIn, leavesIn, nameIn, capsIn, handOk, hkk, decide_true] <;> done) | (simp only [go_sem, valsIn, valIn, leafIn, leavesIn, nameIn, capsIn, handOk, hkk, decide_true] <;> rfl) | (simp only [go_sem, valsIn, valIn, leafIn, leavesIn, nameIn, capsIn, handOk, hkk, decide_true] <;> simp))))
              all_goals (rintro v m ⟨hR, hm⟩; subst hR; subst hm)
              all_goals refine And.intro (by (first | rfl | (simp only [go_sem, leafOutV, leafOutW, leafOut, okN, outOk, inv, hkk, decide_true]; done) | (simp [go_sem, leafOutV, leafOutW, leafOut, okN, outOk, inv, look, hkk, decide_true]; done))) (And.intro (by (first | rfl | (simp only [go_sem, leafOutV, leafOutW, leafOut, okN, outOk, inv, hkk, decide_true]; done) | (simp [go_sem, leafOutV, leafOutW, leafOut, okN, outOk, inv, look, hkk, decide_true]; done))) (And.intro (by (first | rfl | (simp only [go_sem, leafOutV, leafOutW, leafOut, okN, outOk, inv, hkk, decide_true]; done) | (simp [go_sem, leafOutV, leafOutW, leafOut, okN, outOk, inv, look, hkk, decide_true]; done))) ?_))
              all_goals (try simp only [go_sem, backM, outN, nameOut, Ob.ren, V.ren, W.ren, L.ren, setM, hkk, decide_true])
              all_goals (try simp only [go_sem, hkk, decide_true])
              all_goals repeat' (first | apply And.intro | intro _)
              all_goals
                refine hK14 _ ?_
                refine hN13 _ ?_
                refine seq_k fun N15 M15 hN15 hM15 => ?_
                refine ht_dropE [0, 1, 2, 5, 6, 19, 20, 21, 22, 23, 24, 25, 26, 27, 28, 29, 30, 31, 32, 33, 34, 35, 36, 37, 38, 39, 40, 41, 42, 43, 44, 45, 46, 47, 48, 49, 50, 51, 52, 53, 54, 55, 56, 57, 58] ?_
                simp only [dropE_mk, fgt_nil, fgt_cons, List.contains_cons, List.contains_nil, Nat.reduceBEq, beq_self_eq_true, Bool.or_false, Bool.or_true, Bool.true_or, Bool.false_or, Bool.false_eq_true, reduceIte]
                refine region_k fun K16 hK16 => ?_
                simp only [go_sem, hkk, decide_true]
                all_goals repeat' (first | apply And.intro | intro _)
                all_goals refine call_view (fun k => k) (fun _ _ => rfl) (by first | rfl | (simp only [go_sem, hkk, decide_true]; rfl) | simp only [go_sem, hkk, decide_true]) ((same_pins _ _ ho1 ho1 false false hm1).plain fun _ _ h => h) ?_
                all_goals (rintro v m ⟨hR, hm⟩; subst hR; subst hm)
                all_goals refine And.intro (by first | rfl | simp only [go_sem, hkk, decide_true]) (And.intro (by first | rfl | simp only [go_sem, hkk, decide_true]) ?_)
                all_goals simp only [go_sem, hkk, decide_true]
                all_goals repeat' (first | apply And.intro | intro _)
                all_goals (first | (refine call_view (fun k => k) (fun _ _ => rfl) (by first | rfl | (simp only [go_sem, hkk, decide_true]; rfl) | simp only [go_sem, hkk, decide_true]) ((same_pins _ _ ho2 ho2 false false hm2).plain fun _ _ h => h) ?_; all_goals (rintro v m ⟨hR, hm⟩; subst hR; subst hm); all_goals refine And.intro (by first | rfl | simp only [go_sem, hkk, decide_true]) (And.intro (by first | rfl | simp only [go_sem, hkk, decide_true]) ?_); all_goals simp only [go_sem, hkk, decide_true]; all_goals repeat' (first | apply And.intro | intro _)) | skip)
                all_goals (first | (refine call_view (fun k => k) (fun _ _ => rfl) (by first | rfl | (simp only [go_sem, hkk, decide_true]; rfl) | simp only [go_sem, hkk, decide_true]) ((same_pins _ _ ho3 ho3 false false hm3).plain fun _ _ h => h) ?_; all_goals (rintro v m ⟨hR, hm⟩; subst hR; subst hm); all_goals refine And.intro (by first | rfl | simp only [go_sem, hkk, decide_true]) (And.intro (by first | rfl | simp only [go_sem, hkk, decide_true]) ?_); all_goals simp only [go_sem, hkk, decide_true]; all_goals repeat' (first | apply And.intro | intro _)) | skip)
                all_goals
                  refine hK16 _ ?_
                  refine hN15 _ ?_
                  refine ret_k ?_
                  simp only [go_sem, hkk, decide_true]
                  all_goals (first | rfl | simp)
end Go.Sy
