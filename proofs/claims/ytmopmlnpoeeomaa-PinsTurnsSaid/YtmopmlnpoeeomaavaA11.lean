/- Pins, one of them another one: plain lists; walks: the document's way to put a pin in. -/
import Derived.Test.YtmopmlnpoeeomaavaA9
set_option linter.unusedVariables false
set_option linter.unusedSimpArgs false
namespace Go.Sy
open Go.Proofs
attribute [local irreducible] atCall HT runOps runD onC onE onO onG goV goA goS onSt onGuard
theorem pinsC_append (a b : List PinD) : pinsC (a ++ b) = pinsC a ++ pinsC b := by simp [pinsC, pinsP, pls]
theorem pinsC_cons (p : PinD) (b : List PinD) : pinsC (p :: b) = .pl (.str p.name) :: (bytesC p.key ++ (.pl (.b p.gone) :: pinsC b)) := by
  rw [show p :: b = [p] ++ b from rfl, pinsC_append, pinsC_one]; simp
theorem pinsC_nil : pinsC [] = [] := rfl
theorem pinRows_cells (l : List PinD) : pls (pinRows l).flatten = pinsC l := rfl
theorem pinRows_take (l : List PinD) (n : Nat) : (pinRows l).take n = pinRows (l.take n) := by simp [pinRows, List.map_take]
theorem pinRows_drop (l : List PinD) (n : Nat) : (pinRows l).drop n = pinRows (l.drop n) := by simp [pinRows, List.map_drop]
attribute [go_sem] pinRows_cells pinRows_take pinRows_drop
theorem outV_two (j : Nat) (p q : PinD) : outV j [p, q] = .w (.one (.s j [] 2 34)) := outV_snoc j [p] q
theorem outM_two (j : Nat) (p q : PinD) : outM j [p, q] = [(j, ⟨true, pinsC [p, q]⟩)] := outM_of j (by simp)
def pinsV1 (l : List PinD) (v : V) (m : List (Nat × Ob)) : Prop := v = .w (.one (.pl (.R false 34 (pinRows l)))) ∧ m = []
theorem pins_obj1 {k n : Nat} {m : List (Nat × Ob)} {b : Bool} {l : List PinD} (hk : look m k = some ⟨b, pinsC l⟩) (hl : ∀ p ∈ l, p.ok) (hn : n = l.length) (hlt : k < 500000 := by decide) : Told (pinsV1 l) (.w (.one (.s k [] n 34))) m := by
  refine told_seal k (pinsP l) hk hlt ?_
  simp only [sealV, sealW, pins_seal hl hn]
  exact told_plain rfl ⟨rfl, rfl⟩
theorem pins_nil1 {m : List (Nat × Ob)} {sz : Nat} {ex : Bool} : Told (pinsV1 []) (.w (.one (.pl (.R ex sz [])))) m :=
  told_weak (v' := .w (.one (.pl (.R false 34 (pinRows []))))) (fun d y h => nil_weak d y h) (told_plain rfl ⟨rfl, rfl⟩)
/-- what has come out, a way into the pins -/
def pinnedL (l : List PinD) (q : PinD) (i : Nat) : List PinD := if i ≤ idxP l q.name then l.take i else l.take (idxP l q.name) ++ (q :: (l.take i).drop (idxP l q.name + if hasP l q.name then 1 else 0))
def pinnedF (l : List PinD) (q : PinD) : List PinD := l.take (idxP l q.name) ++ (q :: l.drop (idxP l q.name + if hasP l q.name then 1 else 0))
theorem take_snoc {α : Type} {l : List α} {i : Nat} {p : α} (h : l[i]? = some p) : l.take (i + 1) = l.take i ++ [p] := by
  obtain ⟨hlt, e⟩ := List.getElem?_eq_some_iff.mp h
  rw [List.take_succ_eq_append_getElem hlt, e]
section
variable {l : List PinD} {q p : PinD} {i : Nat}
theorem pinned_le (h : i ≤ idxP l q.name) : pinnedL l q i = l.take i := if_pos h
theorem pinned_over (h : idxP l q.name < i) : pinnedL l q i = l.take (idxP l q.name) ++ (q :: (l.take i).drop (idxP l q.name + if hasP l q.name then 1 else 0)) := if_neg (by omega)
theorem pinned_lt (h : i < idxP l q.name) (hp : l[i]? = some p) : pinnedL l q (i + 1) = pinnedL l q i ++ [p] := by
  rw [pinned_le (by omega), pinned_le (by omega), take_snoc hp]
theorem has_lt {s : List UInt8} (h : hasP l s = true) : idxP l s < l.length := by
  unfold hasP at h
  split at h
  · rename_i p hp; exact (List.getElem?_eq_some_iff.mp hp).1
  · cases h
theorem pinned_has (e : idxP l q.name = i) (h : hasP l q.name = true) : pinnedL l q (i + 1) = pinnedL l q i ++ [q] := by
  subst e
  have := has_lt h
  rw [pinned_over (by omega), pinned_le (Nat.le_refl _), if_pos h, List.drop_of_length_le (by rw [List.length_take]; omega)]
theorem pinned_no (e : idxP l q.name = i) (h : hasP l q.name = false) (hp : l[i]? = some p) : pinnedL l q (i + 1) = pinnedL l q i ++ [q] ++ [p] := by
  subst e
  have := (List.getElem?_eq_some_iff.mp hp).1
  rw [pinned_over (by omega), pinned_le (Nat.le_refl _), h, if_neg (by simp), take_snoc hp, Nat.add_zero, List.drop_append, List.drop_of_length_le (by rw [List.length_take]; omega)]
  have e : idxP l q.name - (l.take (idxP l q.name)).length = 0 := by rw [List.length_take]; omega
  rw [e]; simp
theorem pinned_gt (h : idxP l q.name < i) (hp : l[i]? = some p) : pinnedL l q (i + 1) = pinnedL l q i ++ [p] := by
  have := (List.getElem?_eq_some_iff.mp hp).1
  rw [pinned_over (by omega), pinned_over h, take_snoc hp, List.drop_append]
  have e : (idxP l q.name + if hasP l q.name = true then 1 else 0) - (l.take i).length = 0 := by rw [List.length_take]; split <;> omega
  rw [e]; simp
theorem pinned_all (h : idxP l q.name = l.length) : pinnedF l q = pinnedL l q l.length ++ [q] := by
  rw [pinned_le (by omega), pinnedF, h, List.drop_of_length_le (by omega)]
theorem pinned_end (h : idxP l q.name < l.length) : pinnedF l q = pinnedL l q l.length := by
  rw [pinned_over h, pinnedF, List.take_length]
theorem pinned_ok (hl : ∀ p ∈ l, p.ok) (hq : q.ok) (i : Nat) : ∀ p ∈ pinnedL l q i, p.ok := by
  intro p hp
  unfold pinnedL at hp
  split at hp
  · exact hl p (List.mem_of_mem_take hp)
  · rcases List.mem_append.mp hp with hp | hp
    · exact hl p (List.mem_of_mem_take hp)
    · rcases List.mem_cons.mp hp with rfl | hp
      · exact hq
      · exact hl p (List.mem_of_mem_take (List.mem_of_mem_drop hp))
theorem pinnedF_ok (hl : ∀ p ∈ l, p.ok) (hq : q.ok) : ∀ p ∈ pinnedF l q, p.ok := by
  intro p hp
  rcases List.mem_append.mp hp with hp | hp
  · exact hl p (List.mem_of_mem_take hp)
  · rcases List.mem_cons.mp hp with rfl | hp
    · exact hq
    · exact hl p (List.mem_of_mem_drop hp)
theorem pinned_len (i : Nat) : (pinnedL l q i).length ≤ l.length + 1 := by
  unfold pinnedL
  split
  · rw [List.length_take]; omega
  · rw [List.length_append, List.length_cons, List.length_take, List.length_drop, List.length_take]; split <;> omega
theorem pinned_zero : pinnedL l q 0 = [] := by unfold pinnedL; rw [if_pos (Nat.zero_le _)]; rfl
theorem pinned_ne (h : 0 < i) (hi : i ≤ l.length) : pinnedL l q i ≠ [] := by
  unfold pinnedL
  split
  · intro e
    have : (l.take i).length = 0 := by rw [e]; rfl
    rw [List.length_take] at this; omega
  · simp
theorem cap_le {n : Nat} (h : n ≤ 20) : n * 56 ≤ 140737488355328 := Nat.le_trans (Nat.mul_le_mul_right 56 h) (by decide)
theorem has_name (e : idxP l q.name = i) (hp : l[i]? = some p) : hasP l q.name = decide (p.name = q.name) := by subst e; simp [hasP, hp]
theorem zero_cases (hz : idxP l q.name = 0) (i : Nat) (hi : i ≤ l.length) : (∃ p, l[i]? = some p ∧ i = 0 ∧ p.name = q.name) ∨ (∃ p, l[i]? = some p ∧ i = 0 ∧ ¬ p.name = q.name) ∨ (∃ p, l[i]? = some p ∧ 0 < i) ∨ (i = l.length ∧ i = 0) ∨ (i = l.length ∧ 0 < i) := by
  rcases Nat.lt_or_ge i l.length with h | h
  · obtain ⟨p, hp⟩ := get_lt h
    by_cases h0 : i = 0
    · by_cases hx : p.name = q.name
      · exact .inl ⟨p, hp, h0, hx⟩
      · exact .inr (.inl ⟨p, hp, h0, hx⟩)
    · exact .inr (.inr (.inl ⟨p, hp, by omega⟩))
  · by_cases h0 : i = 0
    · exact .inr (.inr (.inr (.inl ⟨by omega, h0⟩)))
    · exact .inr (.inr (.inr (.inr ⟨by omega, by omega⟩)))
theorem pos_cases (hz : 0 < idxP l q.name) (i : Nat) (hi : i ≤ l.length) : (∃ p, l[i]? = some p ∧ i = 0) ∨ (∃ p, l[i]? = some p ∧ 0 < i ∧ i < idxP l q.name) ∨ (∃ p, l[i]? = some p ∧ idxP l q.name = i ∧ p.name = q.name) ∨ (∃ p, l[i]? = some p ∧ idxP l q.name = i ∧ ¬ p.name = q.name) ∨ (∃ p, l[i]? = some p ∧ idxP l q.name < i) ∨ (i = l.length ∧ idxP l q.name = i) ∨ (i = l.length ∧ idxP l q.name < i) := by
  have := idxP_le l q.name
  rcases Nat.lt_or_ge i l.length with h | h
  · obtain ⟨p, hp⟩ := get_lt h
    by_cases h0 : i = 0
    · exact .inl ⟨p, hp, h0⟩
    · rcases Nat.lt_trichotomy i (idxP l q.name) with h1 | h1 | h1
      · exact .inr (.inl ⟨p, hp, by omega, h1⟩)
      · by_cases hx : p.name = q.name
        · exact .inr (.inr (.inl ⟨p, hp, h1.symm, hx⟩))
        · exact .inr (.inr (.inr (.inl ⟨p, hp, h1.symm, hx⟩)))
      · exact .inr (.inr (.inr (.inr (.inl ⟨p, hp, h1⟩))))
  · by_cases h0 : idxP l q.name = i
    · exact .inr (.inr (.inr (.inr (.inr (.inl ⟨by omega, h0⟩)))))
    · exact .inr (.inr (.inr (.inr (.inr (.inr ⟨by omega, by omega⟩)))))
end
set_option maxHeartbeats 1600000 in
theorem pinned_zero_ (l : List PinD) (hl : ∀ p ∈ l, p.ok) (ex : Bool) (q : PinD) (hq : q.ok) (hs : Srt l) (hz : idxP l q.name = 0) :
    Ct Try.prog 48 [.w (.one (.pl (.R ex 34 (pinRows l)))), .w (.agg (.pl (.str q.name) :: (bytesC q.key ++ [.pl (.b q.gone)])))] (Told (pinsV1 (pinnedF l q))) := by
  have hqk := hq.1
  refine Ct.k Try.func48 rfl Try.ntmps48 (congrArg Array.toList Try.results48) (by simp) fun w0 ro => ?_
  refine seq_k fun N1 M1 hN1 hM1 => ?_
  refine region_k fun K2 hK2 => ?_
  simp only [go_sem, hqk]
  all_goals repeat' (first | apply And.intro | intro _)
  all_goals
    refine hK2 _ ?_
    refine hN1 _ ?_
    refine seq_k fun N3 M3 hN3 hM3 => ?_
    refine region_k fun K4 hK4 => ?_
    simp only [go_sem, hqk]
    all_goals repeat' (first | apply And.intro | intro _)
    all_goals
      refine hK4 _ ?_
      refine hN3 _ ?_
      refine seq_k fun N5 M5 hN5 hM5 => ?_
      refine region_k fun K6 hK6 => ?_
      simp only [go_sem, hqk]
      all_goals repeat' (first | apply And.intro | intro _)
      all_goals
        refine hK6 _ ?_
        refine hN5 _ ?_
        refine seq_k fun N7 M7 hN7 hM7 => ?_
        refine seq_k fun N8 M8 hN8 hM8 => ?_
        refine region_k fun K9 hK9 => ?_
        simp only [go_sem, hqk]
        all_goals repeat' (first | apply And.intro | intro _)
        all_goals
          refine hK9 _ ?_
          refine hN8 _ ?_
          refine block_k fun B10 bn10 bx10 br10 bi10 => ?_
          refine ht_dropE [0, 1] ?_
          simp only [dropE_mk, fgt_nil, fgt_cons, List.contains_cons, List.contains_nil, Nat.reduceBEq, beq_self_eq_true, Bool.or_false, Bool.or_true, Bool.true_or, Bool.false_or, Bool.false_eq_true, reduceIte]
          refine loop_k (fun i => [(11, .w (.one (.pl (.i (i.1 : Nat))))), (5, outV 27 (pinnedL l q i.1)), (6, .w (.one (.pl (.b (decide (idxP l q.name < i.1))))))]) (fun i => outM 27 (pinnedL l q i.1)) (fun i => l.length - i.1) (⟨0, Nat.zero_le _⟩ : {i : Nat // i ≤ l.length}) ?_ ?_ ?_
          · (simp only [go_sem, pinned_zero, outV_nil, leX, List.cons_append, List.nil_append, Nat.not_lt_zero, decide_false]; try simp)
          · (simp only [go_sem, pinned_zero, outM_nil, leX, List.cons_append, List.nil_append]; try simp)
          intro ⟨i, hi⟩ N11 M11 hN11 hM11
          simp only [List.cons_append, List.nil_append]
          rcases zero_cases hz i hi with ⟨p, hp, hi0, hx⟩ | ⟨p, hp, hi0, hx⟩ | ⟨p, hp, hi0⟩ | ⟨hi1, hi0⟩ | ⟨hi1, hi0⟩
          · subst hi0
            have h8 := hs.1
            have hg0 := pinRows_get hp
            have hk := (hl p (List.mem_of_getElem? hp)).1
            have hpl := pinC_length hk
            have hlt := (List.getElem?_eq_some_iff.mp hp).1
            have hlo := pinned_len (l := l) (q := q) 0
            have hna := nameAt_eq hp
            have hii := idx_iff hs q.name hlt
            rw [hna] at hii
            have hc1 : (0 : Int) < ((l.length : Nat) : Int) := by omega
            have hc2 : (0 : Int) ≤ (0 : Int) := by omega
            have hcl := pinsC_length (pinned_ok hl hq 0)
            have hin : decide (idxP l q.name < 0) = false := decide_eq_false (by omega)
            have hin2 : decide (idxP l q.name < 1) = true := decide_eq_true (by omega)
            have hge : (!Op.bytesLess p.name q.name) = true := by rw [hii, decide_eq_false (by omega)]; rfl
            have heq : decide (p.name = q.name) = true := by simpa using hx
            have hnx := pinned_has (i := 0) hz (by rw [has_name hz hp]; exact heq)
            simp only [pinned_zero, outV_nil, outM_nil, List.cons_append, List.nil_append]
            rw [pinned_zero] at hnx
            have hml : ((pinnedL l q 0).length * 34 + 34 = ((pinnedL l q 0).length + 1) * 34) = True := eq_true (by omega)
            obtain ⟨hcap, hcap2, hs1⟩ : ((pinnedL l q 0).length + 1) * 56 ≤ 140737488355328 ∧ ((pinnedL l q 0).length + 1 + 1) * 56 ≤ 140737488355328 ∧ Go.RowKit.wrap64 (0 + 1) = 1 := ⟨cap_le (by omega), cap_le (by omega), w64 (by omega)⟩
            
            refine seq_k fun N12 M12 hN12 hM12 => ?_
            refine region_k fun K13 hK13 => ?_
            simp only [go_sem, hqk, List.length_map, hg0, hk, hqk, hpl, hin, heq, hc1, hc2, hcap, hcap2, hcl, hs1, Int.toNat_natCast, Int.toNat_zero, Int.natCast_zero, Nat.zero_add, List.flatten_nil, decide_false, decide_true, Bool.not_false, Bool.not_true, List.length_append, List.length_cons, List.length_nil, hge, hml]
            all_goals repeat' (first | apply And.intro | intro _)
            all_goals
              refine hK13 _ ?_
              refine hN12 _ ?_
              refine seq_k fun N14 M14 hN14 hM14 => ?_
              refine cond_k rfl (fun hc => ?_) (fun hc => ?_)
              · try simp only [go_sem, hqk, List.length_map, hg0, hk, hqk, hpl, hin, heq, hc1, hc2, hcap, hcap2, hcl, hs1, Int.toNat_natCast, Int.toNat_zero, Int.natCast_zero, Nat.zero_add, List.flatten_nil, decide_false, decide_true, Bool.not_false, Bool.not_true, List.length_append, List.length_cons, List.length_nil, hge, hml] at hc
                all_goals
                  refine skip_k ?_
                  refine hN14 _ ?_
                  refine seq_k fun N15 M15 hN15 hM15 => ?_
                  refine block_k fun B16 bn16 bx16 br16 bi16 => ?_
                  refine seq_k fun N17 M17 hN17 hM17 => ?_
                  refine region_k fun K18 hK18 => ?_
                  simp only [go_sem, hqk, List.length_map, hg0, hk, hqk, hpl, hin, heq, hc1, hc2, hcap, hcap2, hcl, hs1, Int.toNat_natCast, Int.toNat_zero, Int.natCast_zero, Nat.zero_add, List.flatten_nil, decide_false, decide_true, Bool.not_false, Bool.not_true, List.length_append, List.length_cons, List.length_nil, hge, hml]
                  all_goals repeat' (first | apply And.intro | intro _)
                  all_goals
                    refine hK18 _ ?_
                    refine hN17 _ ?_
                    refine seq_k fun N19 M19 hN19 hM19 => ?_
                    refine seq_k fun N20 M20 hN20 hM20 => ?_
                    refine region_k fun K21 hK21 => ?_
                    simp only [go_sem, hqk, List.length_map, hg0, hk, hqk, hpl, hin, heq, hc1, hc2, hcap, hcap2, hcl, hs1, Int.toNat_natCast, Int.toNat_zero, Int.natCast_zero, Nat.zero_add, List.flatten_nil, decide_false, decide_true, Bool.not_false, Bool.not_true, List.length_append, List.length_cons, List.length_nil, hge, hml]
                    all_goals repeat' (first | apply And.intro | intro _)
                    all_goals
                      refine hK21 _ ?_
                      refine hN20 _ ?_
                      refine cond_k rfl (fun hc => ?_) (fun hc => ?_)
                      · try simp only [go_sem, hqk, List.length_map, hg0, hk, hqk, hpl, hin, heq, hc1, hc2, hcap, hcap2, hcl, hs1, Int.toNat_natCast, Int.toNat_zero, Int.natCast_zero, Nat.zero_add, List.flatten_nil, decide_false, decide_true, Bool.not_false, Bool.not_true, List.length_append, List.length_cons, List.length_nil, hge, hml] at hc
                        all_goals
                          refine region_k fun K22 hK22 => ?_
                          simp only [go_sem, hqk, List.length_map, hg0, hk, hqk, hpl, hin, heq, hc1, hc2, hcap, hcap2, hcl, hs1, Int.toNat_natCast, Int.toNat_zero, Int.natCast_zero, Nat.zero_add, List.flatten_nil, decide_false, decide_true, Bool.not_false, Bool.not_true, List.length_append, List.length_cons, List.length_nil, hge, hml]
                          all_goals repeat' (first | apply And.intro | intro _)
                          all_goals
                            refine hK22 _ ?_
                            refine hN19 _ ?_
                            refine seq_k fun N23 M23 hN23 hM23 => ?_
                            refine region_k fun K24 hK24 => ?_
                            simp only [go_sem, hqk, List.length_map, hg0, hk, hqk, hpl, hin, heq, hc1, hc2, hcap, hcap2, hcl, hs1, Int.toNat_natCast, Int.toNat_zero, Int.natCast_zero, Nat.zero_add, List.flatten_nil, decide_false, decide_true, Bool.not_false, Bool.not_true, List.length_append, List.length_cons, List.length_nil, hge, hml]
                            all_goals repeat' (first | apply And.intro | intro _)
                            all_goals
                              refine hK24 _ ?_
                              refine hN23 _ ?_
                              refine cond_k rfl (fun hc => ?_) (fun hc => ?_)
                              · exfalso; revert hc; simp [go_sem, hqk, List.length_map, hg0, hk, hqk, hpl, hin, heq, hc1, hc2, hcap, hcap2, hcl, hs1, Int.toNat_natCast, Int.toNat_zero, Int.natCast_zero, Nat.zero_add, List.flatten_nil, decide_false, decide_true, Bool.not_false, Bool.not_true, List.length_append, List.length_cons, List.length_nil, hge, hml]
                              · try simp only [go_sem, hqk, List.length_map, hg0, hk, hqk, hpl, hin, heq, hc1, hc2, hcap, hcap2, hcl, hs1, Int.toNat_natCast, Int.toNat_zero, Int.natCast_zero, Nat.zero_add, List.flatten_nil, decide_false, decide_true, Bool.not_false, Bool.not_true, List.length_append, List.length_cons, List.length_nil, hge, hml] at hc
                                all_goals
                                  refine skip_k ?_
                                  refine bn16 _ ?_
                                  refine hN15 _ ?_
                                  refine region_k fun K25 hK25 => ?_
                                  simp only [go_sem, hqk, List.length_map, hg0, hk, hqk, hpl, hin, heq, hc1, hc2, hcap, hcap2, hcl, hs1, Int.toNat_natCast, Int.toNat_zero, Int.natCast_zero, Nat.zero_add, List.flatten_nil, decide_false, decide_true, Bool.not_false, Bool.not_true, List.length_append, List.length_cons, List.length_nil, hge, hml]
                                  all_goals repeat' (first | apply And.intro | intro _)
                                  all_goals
                                    refine hK25 _ ?_
                                    refine hN11 ⟨1, hlt⟩ _ ?_ ?_ ?_
                                    · (clear hs1 hcap hcap2; first | (show l.length - (0 + 1) < l.length - 0; omega) | (show l.length - 1 < l.length - 0; omega) | (show l.length - (i + 1) < l.length - i; omega))
                                    · (simp only [go_sem, hnx, hin2, outV_snoc, outV_one, outV_two, leX, List.cons_append, List.nil_append]; try simp [hin2, outV_two])
                                    · (simp only [hnx, outM_snoc, outM_one, pinsC_append, pinsC_one, go_sem, leX, List.cons_append, List.nil_append]; try simp [pls, leX, look, outM_two, outV_two, pinsC_cons, pinsC_nil])
                      · exfalso; revert hc; simp [go_sem, hqk, List.length_map, hg0, hk, hqk, hpl, hin, heq, hc1, hc2, hcap, hcap2, hcl, hs1, Int.toNat_natCast, Int.toNat_zero, Int.natCast_zero, Nat.zero_add, List.flatten_nil, decide_false, decide_true, Bool.not_false, Bool.not_true, List.length_append, List.length_cons, List.length_nil, hge, hml]
              · exfalso; revert hc; simp [go_sem, hqk, List.length_map, hg0, hk, hqk, hpl, hin, heq, hc1, hc2, hcap, hcap2, hcl, hs1, Int.toNat_natCast, Int.toNat_zero, Int.natCast_zero, Nat.zero_add, List.flatten_nil, decide_false, decide_true, Bool.not_false, Bool.not_true, List.length_append, List.length_cons, List.length_nil, hge, hml]
          · subst hi0
            have h8 := hs.1
            have hg0 := pinRows_get hp
            have hk := (hl p (List.mem_of_getElem? hp)).1
            have hpl := pinC_length hk
            have hlt := (List.getElem?_eq_some_iff.mp hp).1
            have hlo := pinned_len (l := l) (q := q) 0
            have hna := nameAt_eq hp
            have hii := idx_iff hs q.name hlt
            rw [hna] at hii
            have hc1 : (0 : Int) < ((l.length : Nat) : Int) := by omega
            have hc2 : (0 : Int) ≤ (0 : Int) := by omega
            have hcl := pinsC_length (pinned_ok hl hq 0)
            have hin : decide (idxP l q.name < 0) = false := decide_eq_false (by omega)
            have hin2 : decide (idxP l q.name < 1) = true := decide_eq_true (by omega)
            have hge : (!Op.bytesLess p.name q.name) = true := by rw [hii, decide_eq_false (by omega)]; rfl
            have heq : decide (p.name = q.name) = false := by simpa using hx
            have hnx := pinned_no (i := 0) hz (by rw [has_name hz hp]; exact heq) hp
            simp only [pinned_zero, outV_nil, outM_nil, List.cons_append, List.nil_append]
            rw [pinned_zero] at hnx
            have hml : ((pinnedL l q 0).length * 34 + 34 = ((pinnedL l q 0).length + 1) * 34) = True := eq_true (by omega)
            obtain ⟨hcap, hcap2, hs1⟩ : ((pinnedL l q 0).length + 1) * 56 ≤ 140737488355328 ∧ ((pinnedL l q 0).length + 1 + 1) * 56 ≤ 140737488355328 ∧ Go.RowKit.wrap64 (0 + 1) = 1 := ⟨cap_le (by omega), cap_le (by omega), w64 (by omega)⟩
            
            refine seq_k fun N26 M26 hN26 hM26 => ?_
            refine region_k fun K27 hK27 => ?_
            simp only [go_sem, hqk, List.length_map, hg0, hk, hqk, hpl, hin, heq, hc1, hc2, hcap, hcap2, hcl, hs1, Int.toNat_natCast, Int.toNat_zero, Int.natCast_zero, Nat.zero_add, List.flatten_nil, decide_false, decide_true, Bool.not_false, Bool.not_true, List.length_append, List.length_cons, List.length_nil, hge, hml]
            all_goals repeat' (first | apply And.intro | intro _)
            all_goals
              refine hK27 _ ?_
              refine hN26 _ ?_
              refine seq_k fun N28 M28 hN28 hM28 => ?_
              refine cond_k rfl (fun hc => ?_) (fun hc => ?_)
              · try simp only [go_sem, hqk, List.length_map, hg0, hk, hqk, hpl, hin, heq, hc1, hc2, hcap, hcap2, hcl, hs1, Int.toNat_natCast, Int.toNat_zero, Int.natCast_zero, Nat.zero_add, List.flatten_nil, decide_false, decide_true, Bool.not_false, Bool.not_true, List.length_append, List.length_cons, List.length_nil, hge, hml] at hc
                all_goals
                  refine skip_k ?_
                  refine hN28 _ ?_
                  refine seq_k fun N29 M29 hN29 hM29 => ?_
                  refine block_k fun B30 bn30 bx30 br30 bi30 => ?_
                  refine seq_k fun N31 M31 hN31 hM31 => ?_
                  refine region_k fun K32 hK32 => ?_
                  simp only [go_sem, hqk, List.length_map, hg0, hk, hqk, hpl, hin, heq, hc1, hc2, hcap, hcap2, hcl, hs1, Int.toNat_natCast, Int.toNat_zero, Int.natCast_zero, Nat.zero_add, List.flatten_nil, decide_false, decide_true, Bool.not_false, Bool.not_true, List.length_append, List.length_cons, List.length_nil, hge, hml]
                  all_goals repeat' (first | apply And.intro | intro _)
                  all_goals
                    refine hK32 _ ?_
                    refine hN31 _ ?_
                    refine seq_k fun N33 M33 hN33 hM33 => ?_
                    refine seq_k fun N34 M34 hN34 hM34 => ?_
                    refine region_k fun K35 hK35 => ?_
                    simp only [go_sem, hqk, List.length_map, hg0, hk, hqk, hpl, hin, heq, hc1, hc2, hcap, hcap2, hcl, hs1, Int.toNat_natCast, Int.toNat_zero, Int.natCast_zero, Nat.zero_add, List.flatten_nil, decide_false, decide_true, Bool.not_false, Bool.not_true, List.length_append, List.length_cons, List.length_nil, hge, hml]
                    all_goals repeat' (first | apply And.intro | intro _)
                    all_goals
                      refine hK35 _ ?_
                      refine hN34 _ ?_
                      refine cond_k rfl (fun hc => ?_) (fun hc => ?_)
                      · try simp only [go_sem, hqk, List.length_map, hg0, hk, hqk, hpl, hin, heq, hc1, hc2, hcap, hcap2, hcl, hs1, Int.toNat_natCast, Int.toNat_zero, Int.natCast_zero, Nat.zero_add, List.flatten_nil, decide_false, decide_true, Bool.not_false, Bool.not_true, List.length_append, List.length_cons, List.length_nil, hge, hml] at hc
                        all_goals
                          refine region_k fun K36 hK36 => ?_
                          simp only [go_sem, hqk, List.length_map, hg0, hk, hqk, hpl, hin, heq, hc1, hc2, hcap, hcap2, hcl, hs1, Int.toNat_natCast, Int.toNat_zero, Int.natCast_zero, Nat.zero_add, List.flatten_nil, decide_false, decide_true, Bool.not_false, Bool.not_true, List.length_append, List.length_cons, List.length_nil, hge, hml]
                          all_goals repeat' (first | apply And.intro | intro _)
                          all_goals
                            refine hK36 _ ?_
                            refine hN33 _ ?_
                            refine seq_k fun N37 M37 hN37 hM37 => ?_
                            refine region_k fun K38 hK38 => ?_
                            simp only [go_sem, hqk, List.length_map, hg0, hk, hqk, hpl, hin, heq, hc1, hc2, hcap, hcap2, hcl, hs1, Int.toNat_natCast, Int.toNat_zero, Int.natCast_zero, Nat.zero_add, List.flatten_nil, decide_false, decide_true, Bool.not_false, Bool.not_true, List.length_append, List.length_cons, List.length_nil, hge, hml]
                            all_goals repeat' (first | apply And.intro | intro _)
                            all_goals
                              refine hK38 _ ?_
                              refine hN37 _ ?_
                              refine cond_k rfl (fun hc => ?_) (fun hc => ?_)
                              · try simp only [go_sem, hqk, List.length_map, hg0, hk, hqk, hpl, hin, heq, hc1, hc2, hcap, hcap2, hcl, hs1, Int.toNat_natCast, Int.toNat_zero, Int.natCast_zero, Nat.zero_add, List.flatten_nil, decide_false, decide_true, Bool.not_false, Bool.not_true, List.length_append, List.length_cons, List.length_nil, hge, hml] at hc
                                all_goals
                                  refine region_k fun K39 hK39 => ?_
                                  simp only [go_sem, hqk, List.length_map, hg0, hk, hqk, hpl, hin, heq, hc1, hc2, hcap, hcap2, hcl, hs1, Int.toNat_natCast, Int.toNat_zero, Int.natCast_zero, Nat.zero_add, List.flatten_nil, decide_false, decide_true, Bool.not_false, Bool.not_true, List.length_append, List.length_cons, List.length_nil, hge, hml]
                                  all_goals repeat' (first | apply And.intro | intro _)
                                  all_goals
                                    refine hK39 _ ?_
                                    refine bn30 _ ?_
                                    refine hN29 _ ?_
                                    refine region_k fun K40 hK40 => ?_
                                    simp only [go_sem, hqk, List.length_map, hg0, hk, hqk, hpl, hin, heq, hc1, hc2, hcap, hcap2, hcl, hs1, Int.toNat_natCast, Int.toNat_zero, Int.natCast_zero, Nat.zero_add, List.flatten_nil, decide_false, decide_true, Bool.not_false, Bool.not_true, List.length_append, List.length_cons, List.length_nil, hge, hml]
                                    all_goals repeat' (first | apply And.intro | intro _)
                                    all_goals
                                      refine hK40 _ ?_
                                      refine hN11 ⟨1, hlt⟩ _ ?_ ?_ ?_
                                      · (clear hs1 hcap hcap2; first | (show l.length - (0 + 1) < l.length - 0; omega) | (show l.length - 1 < l.length - 0; omega) | (show l.length - (i + 1) < l.length - i; omega))
                                      · (simp only [go_sem, hnx, hin2, outV_snoc, outV_one, outV_two, leX, List.cons_append, List.nil_append]; try simp [hin2, outV_two])
                                      · (simp only [hnx, outM_snoc, outM_one, pinsC_append, pinsC_one, go_sem, leX, List.cons_append, List.nil_append]; try simp [pls, leX, look, outM_two, outV_two, pinsC_cons, pinsC_nil])
                              · exfalso; revert hc; simp [go_sem, hqk, List.length_map, hg0, hk, hqk, hpl, hin, heq, hc1, hc2, hcap, hcap2, hcl, hs1, Int.toNat_natCast, Int.toNat_zero, Int.natCast_zero, Nat.zero_add, List.flatten_nil, decide_false, decide_true, Bool.not_false, Bool.not_true, List.length_append, List.length_cons, List.length_nil, hge, hml]
                      · exfalso; revert hc; simp [go_sem, hqk, List.length_map, hg0, hk, hqk, hpl, hin, heq, hc1, hc2, hcap, hcap2, hcl, hs1, Int.toNat_natCast, Int.toNat_zero, Int.natCast_zero, Nat.zero_add, List.flatten_nil, decide_false, decide_true, Bool.not_false, Bool.not_true, List.length_append, List.length_cons, List.length_nil, hge, hml]
              · exfalso; revert hc; simp [go_sem, hqk, List.length_map, hg0, hk, hqk, hpl, hin, heq, hc1, hc2, hcap, hcap2, hcl, hs1, Int.toNat_natCast, Int.toNat_zero, Int.natCast_zero, Nat.zero_add, List.flatten_nil, decide_false, decide_true, Bool.not_false, Bool.not_true, List.length_append, List.length_cons, List.length_nil, hge, hml]
          · have h8 := hs.1
            have hg0 := pinRows_get hp
            have hk := (hl p (List.mem_of_getElem? hp)).1
            have hpl := pinC_length hk
            have hlt := (List.getElem?_eq_some_iff.mp hp).1
            have hlo := pinned_len (l := l) (q := q) i
            have hna := nameAt_eq hp
            have hii := idx_iff hs q.name hlt
            rw [hna] at hii
            have hc1 : ((i : Nat) : Int) < ((l.length : Nat) : Int) := by omega
            have hc2 : (0 : Int) ≤ ((i : Nat) : Int) := by omega
            have hcl := pinsC_length (pinned_ok hl hq i)
            have hin : decide (idxP l q.name < i) = true := decide_eq_true (by omega)
            have hin2 : decide (idxP l q.name < i + 1) = true := decide_eq_true (by omega)
            have hge : (!Op.bytesLess p.name q.name) = true := by rw [hii, decide_eq_false (by omega)]; rfl
            have heq : decide (p.name = q.name) = false := by have := name_ne_of hs (s := q.name) hlt (by omega); rw [hna] at this; simpa using this
            have hnx := pinned_gt (q := q) (by omega) hp
            have hne := pinned_ne (l := l) (q := q) (i := i) (by omega) (by omega)
            simp only [outV_of _ hne, outM_of _ hne, List.cons_append, List.nil_append]
            have hml : ((pinnedL l q i).length * 34 + 34 = ((pinnedL l q i).length + 1) * 34) = True := eq_true (by omega)
            obtain ⟨hcap, hcap2, hs1⟩ : ((pinnedL l q i).length + 1) * 56 ≤ 140737488355328 ∧ ((pinnedL l q i).length + 1 + 1) * 56 ≤ 140737488355328 ∧ Go.RowKit.wrap64 (((i : Nat) : Int) + 1) = ((i + 1 : Nat) : Int) := ⟨cap_le (by omega), cap_le (by omega), wnat (by omega) (by omega)⟩
            
            refine seq_k fun N41 M41 hN41 hM41 => ?_
            refine region_k fun K42 hK42 => ?_
            simp only [go_sem, hqk, List.length_map, hg0, hk, hqk, hpl, hin, heq, hc1, hc2, hcap, hcap2, hcl, hs1, Int.toNat_natCast, Int.toNat_zero, Int.natCast_zero, Nat.zero_add, List.flatten_nil, decide_false, decide_true, Bool.not_false, Bool.not_true, List.length_append, List.length_cons, List.length_nil, hge, hml]
            all_goals repeat' (first | apply And.intro | intro _)
            all_goals
              refine hK42 _ ?_
              refine hN41 _ ?_
              refine seq_k fun N43 M43 hN43 hM43 => ?_
              refine cond_k rfl (fun hc => ?_) (fun hc => ?_)
              · try simp only [go_sem, hqk, List.length_map, hg0, hk, hqk, hpl, hin, heq, hc1, hc2, hcap, hcap2, hcl, hs1, Int.toNat_natCast, Int.toNat_zero, Int.natCast_zero, Nat.zero_add, List.flatten_nil, decide_false, decide_true, Bool.not_false, Bool.not_true, List.length_append, List.length_cons, List.length_nil, hge, hml] at hc
                all_goals
                  refine skip_k ?_
                  refine hN43 _ ?_
                  refine seq_k fun N44 M44 hN44 hM44 => ?_
                  refine block_k fun B45 bn45 bx45 br45 bi45 => ?_
                  refine seq_k fun N46 M46 hN46 hM46 => ?_
                  refine region_k fun K47 hK47 => ?_
                  simp only [go_sem, hqk, List.length_map, hg0, hk, hqk, hpl, hin, heq, hc1, hc2, hcap, hcap2, hcl, hs1, Int.toNat_natCast, Int.toNat_zero, Int.natCast_zero, Nat.zero_add, List.flatten_nil, decide_false, decide_true, Bool.not_false, Bool.not_true, List.length_append, List.length_cons, List.length_nil, hge, hml]
                  all_goals repeat' (first | apply And.intro | intro _)
                  all_goals
                    refine hK47 _ ?_
                    refine hN46 _ ?_
                    refine seq_k fun N48 M48 hN48 hM48 => ?_
                    refine seq_k fun N49 M49 hN49 hM49 => ?_
                    refine region_k fun K50 hK50 => ?_
                    simp only [go_sem, hqk, List.length_map, hg0, hk, hqk, hpl, hin, heq, hc1, hc2, hcap, hcap2, hcl, hs1, Int.toNat_natCast, Int.toNat_zero, Int.natCast_zero, Nat.zero_add, List.flatten_nil, decide_false, decide_true, Bool.not_false, Bool.not_true, List.length_append, List.length_cons, List.length_nil, hge, hml]
                    all_goals repeat' (first | apply And.intro | intro _)
                    all_goals
                      refine hK50 _ ?_
                      refine hN49 _ ?_
                      refine cond_k rfl (fun hc => ?_) (fun hc => ?_)
                      · exfalso; revert hc; simp [go_sem, hqk, List.length_map, hg0, hk, hqk, hpl, hin, heq, hc1, hc2, hcap, hcap2, hcl, hs1, Int.toNat_natCast, Int.toNat_zero, Int.natCast_zero, Nat.zero_add, List.flatten_nil, decide_false, decide_true, Bool.not_false, Bool.not_true, List.length_append, List.length_cons, List.length_nil, hge, hml]
                      · try simp only [go_sem, hqk, List.length_map, hg0, hk, hqk, hpl, hin, heq, hc1, hc2, hcap, hcap2, hcl, hs1, Int.toNat_natCast, Int.toNat_zero, Int.natCast_zero, Nat.zero_add, List.flatten_nil, decide_false, decide_true, Bool.not_false, Bool.not_true, List.length_append, List.length_cons, List.length_nil, hge, hml] at hc
                        all_goals
                          refine skip_k ?_
                          refine hN48 _ ?_
                          refine seq_k fun N51 M51 hN51 hM51 => ?_
                          refine region_k fun K52 hK52 => ?_
                          simp only [go_sem, hqk, List.length_map, hg0, hk, hqk, hpl, hin, heq, hc1, hc2, hcap, hcap2, hcl, hs1, Int.toNat_natCast, Int.toNat_zero, Int.natCast_zero, Nat.zero_add, List.flatten_nil, decide_false, decide_true, Bool.not_false, Bool.not_true, List.length_append, List.length_cons, List.length_nil, hge, hml]
                          all_goals repeat' (first | apply And.intro | intro _)
                          all_goals
                            refine hK52 _ ?_
                            refine hN51 _ ?_
                            refine cond_k rfl (fun hc => ?_) (fun hc => ?_)
                            · try simp only [go_sem, hqk, List.length_map, hg0, hk, hqk, hpl, hin, heq, hc1, hc2, hcap, hcap2, hcl, hs1, Int.toNat_natCast, Int.toNat_zero, Int.natCast_zero, Nat.zero_add, List.flatten_nil, decide_false, decide_true, Bool.not_false, Bool.not_true, List.length_append, List.length_cons, List.length_nil, hge, hml] at hc
                              all_goals
                                refine region_k fun K53 hK53 => ?_
                                simp only [go_sem, hqk, List.length_map, hg0, hk, hqk, hpl, hin, heq, hc1, hc2, hcap, hcap2, hcl, hs1, Int.toNat_natCast, Int.toNat_zero, Int.natCast_zero, Nat.zero_add, List.flatten_nil, decide_false, decide_true, Bool.not_false, Bool.not_true, List.length_append, List.length_cons, List.length_nil, hge, hml]
                                all_goals repeat' (first | apply And.intro | intro _)
                                all_goals
                                  refine hK53 _ ?_
                                  refine bn45 _ ?_
                                  refine hN44 _ ?_
                                  refine region_k fun K54 hK54 => ?_
                                  simp only [go_sem, hqk, List.length_map, hg0, hk, hqk, hpl, hin, heq, hc1, hc2, hcap, hcap2, hcl, hs1, Int.toNat_natCast, Int.toNat_zero, Int.natCast_zero, Nat.zero_add, List.flatten_nil, decide_false, decide_true, Bool.not_false, Bool.not_true, List.length_append, List.length_cons, List.length_nil, hge, hml]
                                  all_goals repeat' (first | apply And.intro | intro _)
                                  all_goals
                                    refine hK54 _ ?_
                                    refine hN11 ⟨i + 1, hlt⟩ _ ?_ ?_ ?_
                                    · (clear hs1 hcap hcap2; first | (show l.length - (0 + 1) < l.length - 0; omega) | (show l.length - 1 < l.length - 0; omega) | (show l.length - (i + 1) < l.length - i; omega))
                                    · (simp only [go_sem, hnx, hin2, outV_snoc, outV_one, outV_two, leX, List.cons_append, List.nil_append]; try simp [hin2, outV_two])
                                    · (simp only [hnx, outM_snoc, outM_one, pinsC_append, pinsC_one, go_sem, leX, List.cons_append, List.nil_append]; try simp [pls, leX, look, outM_two, outV_two, pinsC_cons, pinsC_nil])
                            · exfalso; revert hc; simp [go_sem, hqk, List.length_map, hg0, hk, hqk, hpl, hin, heq, hc1, hc2, hcap, hcap2, hcl, hs1, Int.toNat_natCast, Int.toNat_zero, Int.natCast_zero, Nat.zero_add, List.flatten_nil, decide_false, decide_true, Bool.not_false, Bool.not_true, List.length_append, List.length_cons, List.length_nil, hge, hml]
              · exfalso; revert hc; simp [go_sem, hqk, List.length_map, hg0, hk, hqk, hpl, hin, heq, hc1, hc2, hcap, hcap2, hcl, hs1, Int.toNat_natCast, Int.toNat_zero, Int.natCast_zero, Nat.zero_add, List.flatten_nil, decide_false, decide_true, Bool.not_false, Bool.not_true, List.length_append, List.length_cons, List.length_nil, hge, hml]
          · have hl0 : l = [] := List.eq_nil_of_length_eq_zero (by omega)
            subst hl0
            subst hi0
            have hin : decide (idxP [] q.name < 0) = false := decide_eq_false (by omega)
            simp only [pinned_zero, outV_nil, outM_nil, List.cons_append, List.nil_append]
            have hc9 : ¬ ((0 : Nat) : Int) < (([] : List PinD).length : Int) := by simp
            have hfi := pinned_all (l := []) (q := q) rfl
            rw [show ([] : List PinD).length = 0 from rfl, pinned_zero] at hfi
            refine seq_k fun N55 M55 hN55 hM55 => ?_
            refine region_k fun K56 hK56 => ?_
            simp only [go_sem, hqk, hin, hc9, hqk, List.length_nil, List.length_cons, Int.natCast_zero, Int.lt_irrefl, Bool.not_false, Bool.not_true, decide_false, decide_true]
            all_goals repeat' (first | apply And.intro | intro _)
            all_goals
              refine hK56 _ ?_
              refine hN55 _ ?_
              refine seq_k fun N57 M57 hN57 hM57 => ?_
              refine cond_k rfl (fun hc => ?_) (fun hc => ?_)
              · exfalso; revert hc; simp [go_sem, hqk, hin, hc9, hqk, List.length_nil, List.length_cons, Int.natCast_zero, Int.lt_irrefl, Bool.not_false, Bool.not_true, decide_false, decide_true]
              · try simp only [go_sem, hqk, hin, hc9, hqk, List.length_nil, List.length_cons, Int.natCast_zero, Int.lt_irrefl, Bool.not_false, Bool.not_true, decide_false, decide_true] at hc
                all_goals
                  refine exit_k ?_
                  refine hM57 _ _ ?_
                  refine hM11 _ _ ?_
                  refine bx10 _ ?_
                  refine hN7 _ ?_
                  refine seq_k fun N58 M58 hN58 hM58 => ?_
                  refine seq_k fun N59 M59 hN59 hM59 => ?_
                  refine region_k fun K60 hK60 => ?_
                  simp only [go_sem, hqk, hin, hc9, hqk, List.length_nil, List.length_cons, Int.natCast_zero, Int.lt_irrefl, Bool.not_false, Bool.not_true, decide_false, decide_true]
                  all_goals repeat' (first | apply And.intro | intro _)
                  all_goals
                    refine hK60 _ ?_
                    refine hN59 _ ?_
                    refine cond_k rfl (fun hc => ?_) (fun hc => ?_)
                    · try simp only [go_sem, hqk, hin, hc9, hqk, List.length_nil, List.length_cons, Int.natCast_zero, Int.lt_irrefl, Bool.not_false, Bool.not_true, decide_false, decide_true] at hc
                      all_goals
                        refine region_k fun K61 hK61 => ?_
                        simp only [go_sem, hqk, hin, hc9, hqk, List.length_nil, List.length_cons, Int.natCast_zero, Int.lt_irrefl, Bool.not_false, Bool.not_true, decide_false, decide_true]
                        all_goals repeat' (first | apply And.intro | intro _)
                        all_goals
                          refine hK61 _ ?_
                          refine hN58 _ ?_
                          refine seq_k fun N62 M62 hN62 hM62 => ?_
                          refine region_k fun K63 hK63 => ?_
                          simp only [go_sem, hqk, hin, hc9, hqk, List.length_nil, List.length_cons, Int.natCast_zero, Int.lt_irrefl, Bool.not_false, Bool.not_true, decide_false, decide_true]
                          all_goals repeat' (first | apply And.intro | intro _)
                          all_goals
                            refine hK63 _ ?_
                            refine hN62 _ ?_
                            refine ret_k ?_
                            simp only [go_sem, hqk, hin, hc9, hqk, List.length_nil, List.length_cons, Int.natCast_zero, Int.lt_irrefl, Bool.not_false, Bool.not_true, decide_false, decide_true]
                            all_goals (rw [hfi]; exact pins_obj1 (b := true) (by simp [look, pinsC_one, pls]) (by simpa using hq) rfl)
                    · exfalso; revert hc; simp [go_sem, hqk, hin, hc9, hqk, List.length_nil, List.length_cons, Int.natCast_zero, Int.lt_irrefl, Bool.not_false, Bool.not_true, decide_false, decide_true]
          · subst hi1
            have hin : decide (idxP l q.name < l.length) = true := decide_eq_true (by omega)
            have hne := pinned_ne (l := l) (q := q) (i := l.length) (by omega) (by omega)
            simp only [outV_of _ hne, outM_of _ hne, List.cons_append, List.nil_append]
            have hlo := pinned_len (l := l) (q := q) l.length
            have h8 := hs.1
            have hcl := pinsC_length (pinned_ok hl hq l.length)
            have hc9 : ¬ ((l.length : Nat) : Int) < ((l.length : Nat) : Int) := by omega
            have hfi := pinned_end (l := l) (q := q) (by omega)
            have hok := pinnedF_ok hl hq
            rw [hfi] at hok
            have hcap : ((pinnedL l q l.length).length + 1) * 56 ≤ 140737488355328 := cap_le (by omega)
            refine seq_k fun N64 M64 hN64 hM64 => ?_
            refine region_k fun K65 hK65 => ?_
            simp only [go_sem, hqk, hin, hc9, hcap, hcl, hqk, List.length_nil, List.length_cons, Bool.not_false, Bool.not_true, decide_false, decide_true]
            all_goals repeat' (first | apply And.intro | intro _)
            all_goals
              refine hK65 _ ?_
              refine hN64 _ ?_
              refine seq_k fun N66 M66 hN66 hM66 => ?_
              refine cond_k rfl (fun hc => ?_) (fun hc => ?_)
              · exfalso; revert hc; simp [go_sem, hqk, hin, hc9, hcap, hcl, hqk, List.length_nil, List.length_cons, Bool.not_false, Bool.not_true, decide_false, decide_true]
              · try simp only [go_sem, hqk, hin, hc9, hcap, hcl, hqk, List.length_nil, List.length_cons, Bool.not_false, Bool.not_true, decide_false, decide_true] at hc
                all_goals
                  refine exit_k ?_
                  refine hM66 _ _ ?_
                  refine hM11 _ _ ?_
                  refine bx10 _ ?_
                  refine hN7 _ ?_
                  refine seq_k fun N67 M67 hN67 hM67 => ?_
                  refine seq_k fun N68 M68 hN68 hM68 => ?_
                  refine region_k fun K69 hK69 => ?_
                  simp only [go_sem, hqk, hin, hc9, hcap, hcl, hqk, List.length_nil, List.length_cons, Bool.not_false, Bool.not_true, decide_false, decide_true]
                  all_goals repeat' (first | apply And.intro | intro _)
                  all_goals
                    refine hK69 _ ?_
                    refine hN68 _ ?_
                    refine cond_k rfl (fun hc => ?_) (fun hc => ?_)
                    · exfalso; revert hc; simp [go_sem, hqk, hin, hc9, hcap, hcl, hqk, List.length_nil, List.length_cons, Bool.not_false, Bool.not_true, decide_false, decide_true]
                    · try simp only [go_sem, hqk, hin, hc9, hcap, hcl, hqk, List.length_nil, List.length_cons, Bool.not_false, Bool.not_true, decide_false, decide_true] at hc
                      all_goals
                        refine skip_k ?_
                        refine hN67 _ ?_
                        refine seq_k fun N70 M70 hN70 hM70 => ?_
                        refine region_k fun K71 hK71 => ?_
                        simp only [go_sem, hqk, hin, hc9, hcap, hcl, hqk, List.length_nil, List.length_cons, Bool.not_false, Bool.not_true, decide_false, decide_true]
                        all_goals repeat' (first | apply And.intro | intro _)
                        all_goals
                          refine hK71 _ ?_
                          refine hN70 _ ?_
                          refine ret_k ?_
                          simp only [go_sem, hqk, hin, hc9, hcap, hcl, hqk, List.length_nil, List.length_cons, Bool.not_false, Bool.not_true, decide_false, decide_true]
                          all_goals (rw [hfi]; exact pins_obj1 (b := true) (by simp [look, pinsC_append, pinsC_one]) hok (by simp))
set_option maxHeartbeats 1600000 in
theorem pinned_pos_ (l : List PinD) (hl : ∀ p ∈ l, p.ok) (ex : Bool) (q : PinD) (hq : q.ok) (hs : Srt l) (hz : 0 < idxP l q.name) :
    Ct Try.prog 48 [.w (.one (.pl (.R ex 34 (pinRows l)))), .w (.agg (.pl (.str q.name) :: (bytesC q.key ++ [.pl (.b q.gone)])))] (Told (pinsV1 (pinnedF l q))) := by
  have hqk := hq.1
  refine Ct.k Try.func48 rfl Try.ntmps48 (congrArg Array.toList Try.results48) (by simp) fun w0 ro => ?_
  refine seq_k fun N1 M1 hN1 hM1 => ?_
  refine region_k fun K2 hK2 => ?_
  simp only [go_sem, hqk]
  all_goals repeat' (first | apply And.intro | intro _)
  all_goals
    refine hK2 _ ?_
    refine hN1 _ ?_
    refine seq_k fun N3 M3 hN3 hM3 => ?_
    refine region_k fun K4 hK4 => ?_
    simp only [go_sem, hqk]
    all_goals repeat' (first | apply And.intro | intro _)
    all_goals
      refine hK4 _ ?_
      refine hN3 _ ?_
      refine seq_k fun N5 M5 hN5 hM5 => ?_
      refine region_k fun K6 hK6 => ?_
      simp only [go_sem, hqk]
      all_goals repeat' (first | apply And.intro | intro _)
      all_goals
        refine hK6 _ ?_
        refine hN5 _ ?_
        refine seq_k fun N7 M7 hN7 hM7 => ?_
        refine seq_k fun N8 M8 hN8 hM8 => ?_
        refine region_k fun K9 hK9 => ?_
        simp only [go_sem, hqk]
        all_goals repeat' (first | apply And.intro | intro _)
        all_goals
          refine hK9 _ ?_
          refine hN8 _ ?_
          refine block_k fun B10 bn10 bx10 br10 bi10 => ?_
          refine ht_dropE [0, 1] ?_
          simp only [dropE_mk, fgt_nil, fgt_cons, List.contains_cons, List.contains_nil, Nat.reduceBEq, beq_self_eq_true, Bool.or_false, Bool.or_true, Bool.true_or, Bool.false_or, Bool.false_eq_true, reduceIte]
          refine loop_k (fun i => [(11, .w (.one (.pl (.i (i.1 : Nat))))), (5, outV 36 (pinnedL l q i.1)), (6, .w (.one (.pl (.b (decide (idxP l q.name < i.1))))))]) (fun i => outM 36 (pinnedL l q i.1)) (fun i => l.length - i.1) (⟨0, Nat.zero_le _⟩ : {i : Nat // i ≤ l.length}) ?_ ?_ ?_
          · (simp only [go_sem, pinned_zero, outV_nil, leX, List.cons_append, List.nil_append, Nat.not_lt_zero, decide_false]; try simp)
          · (simp only [go_sem, pinned_zero, outM_nil, leX, List.cons_append, List.nil_append]; try simp)
          intro ⟨i, hi⟩ N11 M11 hN11 hM11
          simp only [List.cons_append, List.nil_append]
          rcases pos_cases hz i hi with ⟨p, hp, hi0⟩ | ⟨p, hp, hi0, hz1⟩ | ⟨p, hp, hz1, hx⟩ | ⟨p, hp, hz1, hx⟩ | ⟨p, hp, hz1⟩ | ⟨hi1, hz1⟩ | ⟨hi1, hz1⟩
          · subst hi0
            have h8 := hs.1
            have hg0 := pinRows_get hp
            have hk := (hl p (List.mem_of_getElem? hp)).1
            have hpl := pinC_length hk
            have hlt := (List.getElem?_eq_some_iff.mp hp).1
            have hlo := pinned_len (l := l) (q := q) 0
            have hna := nameAt_eq hp
            have hii := idx_iff hs q.name hlt
            rw [hna] at hii
            have hc1 : (0 : Int) < ((l.length : Nat) : Int) := by omega
            have hc2 : (0 : Int) ≤ (0 : Int) := by omega
            have hcl := pinsC_length (pinned_ok hl hq 0)
            have hin : decide (idxP l q.name < 0) = false := decide_eq_false (by omega)
            have hin2 : decide (idxP l q.name < 1) = false := decide_eq_false (by omega)
            have hge : (!Op.bytesLess p.name q.name) = false := by rw [hii, decide_eq_true (by omega)]; rfl
            have heq : decide (p.name = q.name) = false := by have := name_ne_of hs (s := q.name) hlt (by omega); rw [hna] at this; simpa using this
            have hnx := pinned_lt (q := q) (i := 0) (by omega) hp
            simp only [pinned_zero, outV_nil, outM_nil, List.cons_append, List.nil_append]
            rw [pinned_zero] at hnx
            have hml : ((pinnedL l q 0).length * 34 + 34 = ((pinnedL l q 0).length + 1) * 34) = True := eq_true (by omega)
            obtain ⟨hcap, hcap2, hs1⟩ : ((pinnedL l q 0).length + 1) * 56 ≤ 140737488355328 ∧ ((pinnedL l q 0).length + 1 + 1) * 56 ≤ 140737488355328 ∧ Go.RowKit.wrap64 (0 + 1) = 1 := ⟨cap_le (by omega), cap_le (by omega), w64 (by omega)⟩
            
            refine seq_k fun N12 M12 hN12 hM12 => ?_
            refine region_k fun K13 hK13 => ?_
            simp only [go_sem, hqk, List.length_map, hg0, hk, hqk, hpl, hin, heq, hc1, hc2, hcap, hcap2, hcl, hs1, Int.toNat_natCast, Int.toNat_zero, Int.natCast_zero, Nat.zero_add, List.flatten_nil, decide_false, decide_true, Bool.not_false, Bool.not_true, List.length_append, List.length_cons, List.length_nil, hge, hml]
            all_goals repeat' (first | apply And.intro | intro _)
            all_goals
              refine hK13 _ ?_
              refine hN12 _ ?_
              refine seq_k fun N14 M14 hN14 hM14 => ?_
              refine cond_k rfl (fun hc => ?_) (fun hc => ?_)
              · try simp only [go_sem, hqk, List.length_map, hg0, hk, hqk, hpl, hin, heq, hc1, hc2, hcap, hcap2, hcl, hs1, Int.toNat_natCast, Int.toNat_zero, Int.natCast_zero, Nat.zero_add, List.flatten_nil, decide_false, decide_true, Bool.not_false, Bool.not_true, List.length_append, List.length_cons, List.length_nil, hge, hml] at hc
                all_goals
                  refine skip_k ?_
                  refine hN14 _ ?_
                  refine seq_k fun N15 M15 hN15 hM15 => ?_
                  refine block_k fun B16 bn16 bx16 br16 bi16 => ?_
                  refine seq_k fun N17 M17 hN17 hM17 => ?_
                  refine region_k fun K18 hK18 => ?_
                  simp only [go_sem, hqk, List.length_map, hg0, hk, hqk, hpl, hin, heq, hc1, hc2, hcap, hcap2, hcl, hs1, Int.toNat_natCast, Int.toNat_zero, Int.natCast_zero, Nat.zero_add, List.flatten_nil, decide_false, decide_true, Bool.not_false, Bool.not_true, List.length_append, List.length_cons, List.length_nil, hge, hml]
                  all_goals repeat' (first | apply And.intro | intro _)
                  all_goals
                    refine hK18 _ ?_
                    refine hN17 _ ?_
                    refine seq_k fun N19 M19 hN19 hM19 => ?_
                    refine seq_k fun N20 M20 hN20 hM20 => ?_
                    refine region_k fun K21 hK21 => ?_
                    simp only [go_sem, hqk, List.length_map, hg0, hk, hqk, hpl, hin, heq, hc1, hc2, hcap, hcap2, hcl, hs1, Int.toNat_natCast, Int.toNat_zero, Int.natCast_zero, Nat.zero_add, List.flatten_nil, decide_false, decide_true, Bool.not_false, Bool.not_true, List.length_append, List.length_cons, List.length_nil, hge, hml]
                    all_goals repeat' (first | apply And.intro | intro _)
                    all_goals
                      refine hK21 _ ?_
                      refine hN20 _ ?_
                      refine cond_k rfl (fun hc => ?_) (fun hc => ?_)
                      · exfalso; revert hc; simp [go_sem, hqk, List.length_map, hg0, hk, hqk, hpl, hin, heq, hc1, hc2, hcap, hcap2, hcl, hs1, Int.toNat_natCast, Int.toNat_zero, Int.natCast_zero, Nat.zero_add, List.flatten_nil, decide_false, decide_true, Bool.not_false, Bool.not_true, List.length_append, List.length_cons, List.length_nil, hge, hml]
                      · try simp only [go_sem, hqk, List.length_map, hg0, hk, hqk, hpl, hin, heq, hc1, hc2, hcap, hcap2, hcl, hs1, Int.toNat_natCast, Int.toNat_zero, Int.natCast_zero, Nat.zero_add, List.flatten_nil, decide_false, decide_true, Bool.not_false, Bool.not_true, List.length_append, List.length_cons, List.length_nil, hge, hml] at hc
                        all_goals
                          refine skip_k ?_
                          refine hN19 _ ?_
                          refine seq_k fun N22 M22 hN22 hM22 => ?_
                          refine region_k fun K23 hK23 => ?_
                          simp only [go_sem, hqk, List.length_map, hg0, hk, hqk, hpl, hin, heq, hc1, hc2, hcap, hcap2, hcl, hs1, Int.toNat_natCast, Int.toNat_zero, Int.natCast_zero, Nat.zero_add, List.flatten_nil, decide_false, decide_true, Bool.not_false, Bool.not_true, List.length_append, List.length_cons, List.length_nil, hge, hml]
                          all_goals repeat' (first | apply And.intro | intro _)
                          all_goals
                            refine hK23 _ ?_
                            refine hN22 _ ?_
                            refine cond_k rfl (fun hc => ?_) (fun hc => ?_)
                            · try simp only [go_sem, hqk, List.length_map, hg0, hk, hqk, hpl, hin, heq, hc1, hc2, hcap, hcap2, hcl, hs1, Int.toNat_natCast, Int.toNat_zero, Int.natCast_zero, Nat.zero_add, List.flatten_nil, decide_false, decide_true, Bool.not_false, Bool.not_true, List.length_append, List.length_cons, List.length_nil, hge, hml] at hc
                              all_goals
                                refine region_k fun K24 hK24 => ?_
                                simp only [go_sem, hqk, List.length_map, hg0, hk, hqk, hpl, hin, heq, hc1, hc2, hcap, hcap2, hcl, hs1, Int.toNat_natCast, Int.toNat_zero, Int.natCast_zero, Nat.zero_add, List.flatten_nil, decide_false, decide_true, Bool.not_false, Bool.not_true, List.length_append, List.length_cons, List.length_nil, hge, hml]
                                all_goals repeat' (first | apply And.intro | intro _)
                                all_goals
                                  refine hK24 _ ?_
                                  refine bn16 _ ?_
                                  refine hN15 _ ?_
                                  refine region_k fun K25 hK25 => ?_
                                  simp only [go_sem, hqk, List.length_map, hg0, hk, hqk, hpl, hin, heq, hc1, hc2, hcap, hcap2, hcl, hs1, Int.toNat_natCast, Int.toNat_zero, Int.natCast_zero, Nat.zero_add, List.flatten_nil, decide_false, decide_true, Bool.not_false, Bool.not_true, List.length_append, List.length_cons, List.length_nil, hge, hml]
                                  all_goals repeat' (first | apply And.intro | intro _)
                                  all_goals
                                    refine hK25 _ ?_
                                    refine hN11 ⟨1, hlt⟩ _ ?_ ?_ ?_
                                    · (clear hs1 hcap hcap2; first | (show l.length - (0 + 1) < l.length - 0; omega) | (show l.length - 1 < l.length - 0; omega) | (show l.length - (i + 1) < l.length - i; omega))
                                    · (simp only [go_sem, hnx, hin2, outV_snoc, outV_one, outV_two, leX, List.cons_append, List.nil_append]; try simp [hin2, outV_two])
                                    · (simp only [hnx, outM_snoc, outM_one, pinsC_append, pinsC_one, go_sem, leX, List.cons_append, List.nil_append]; try simp [pls, leX, look, outM_two, outV_two, pinsC_cons, pinsC_nil])
                            · exfalso; revert hc; simp [go_sem, hqk, List.length_map, hg0, hk, hqk, hpl, hin, heq, hc1, hc2, hcap, hcap2, hcl, hs1, Int.toNat_natCast, Int.toNat_zero, Int.natCast_zero, Nat.zero_add, List.flatten_nil, decide_false, decide_true, Bool.not_false, Bool.not_true, List.length_append, List.length_cons, List.length_nil, hge, hml]
              · exfalso; revert hc; simp [go_sem, hqk, List.length_map, hg0, hk, hqk, hpl, hin, heq, hc1, hc2, hcap, hcap2, hcl, hs1, Int.toNat_natCast, Int.toNat_zero, Int.natCast_zero, Nat.zero_add, List.flatten_nil, decide_false, decide_true, Bool.not_false, Bool.not_true, List.length_append, List.length_cons, List.length_nil, hge, hml]
          · have h8 := hs.1
            have hg0 := pinRows_get hp
            have hk := (hl p (List.mem_of_getElem? hp)).1
            have hpl := pinC_length hk
            have hlt := (List.getElem?_eq_some_iff.mp hp).1
            have hlo := pinned_len (l := l) (q := q) i
            have hna := nameAt_eq hp
            have hii := idx_iff hs q.name hlt
            rw [hna] at hii
            have hc1 : ((i : Nat) : Int) < ((l.length : Nat) : Int) := by omega
            have hc2 : (0 : Int) ≤ ((i : Nat) : Int) := by omega
            have hcl := pinsC_length (pinned_ok hl hq i)
            have hin : decide (idxP l q.name < i) = false := decide_eq_false (by omega)
            have hin2 : decide (idxP l q.name < i + 1) = false := decide_eq_false (by omega)
            have hge : (!Op.bytesLess p.name q.name) = false := by rw [hii, decide_eq_true (by omega)]; rfl
            have heq : decide (p.name = q.name) = false := by have := name_ne_of hs (s := q.name) hlt (by omega); rw [hna] at this; simpa using this
            have hnx := pinned_lt (q := q) (by omega) hp
            have hne := pinned_ne (l := l) (q := q) (i := i) (by omega) (by omega)
            simp only [outV_of _ hne, outM_of _ hne, List.cons_append, List.nil_append]
            have hml : ((pinnedL l q i).length * 34 + 34 = ((pinnedL l q i).length + 1) * 34) = True := eq_true (by omega)
            obtain ⟨hcap, hcap2, hs1⟩ : ((pinnedL l q i).length + 1) * 56 ≤ 140737488355328 ∧ ((pinnedL l q i).length + 1 + 1) * 56 ≤ 140737488355328 ∧ Go.RowKit.wrap64 (((i : Nat) : Int) + 1) = ((i + 1 : Nat) : Int) := ⟨cap_le (by omega), cap_le (by omega), wnat (by omega) (by omega)⟩
            
            refine seq_k fun N26 M26 hN26 hM26 => ?_
            refine region_k fun K27 hK27 => ?_
            simp only [go_sem, hqk, List.length_map, hg0, hk, hqk, hpl, hin, heq, hc1, hc2, hcap, hcap2, hcl, hs1, Int.toNat_natCast, Int.toNat_zero, Int.natCast_zero, Nat.zero_add, List.flatten_nil, decide_false, decide_true, Bool.not_false, Bool.not_true, List.length_append, List.length_cons, List.length_nil, hge, hml]
            all_goals repeat' (first | apply And.intro | intro _)
            all_goals
              refine hK27 _ ?_
              refine hN26 _ ?_
              refine seq_k fun N28 M28 hN28 hM28 => ?_
              refine cond_k rfl (fun hc => ?_) (fun hc => ?_)
              · try simp only [go_sem, hqk, List.length_map, hg0, hk, hqk, hpl, hin, heq, hc1, hc2, hcap, hcap2, hcl, hs1, Int.toNat_natCast, Int.toNat_zero, Int.natCast_zero, Nat.zero_add, List.flatten_nil, decide_false, decide_true, Bool.not_false, Bool.not_true, List.length_append, List.length_cons, List.length_nil, hge, hml] at hc
                all_goals
                  refine skip_k ?_
                  refine hN28 _ ?_
                  refine seq_k fun N29 M29 hN29 hM29 => ?_
                  refine block_k fun B30 bn30 bx30 br30 bi30 => ?_
                  refine seq_k fun N31 M31 hN31 hM31 => ?_
                  refine region_k fun K32 hK32 => ?_
                  simp only [go_sem, hqk, List.length_map, hg0, hk, hqk, hpl, hin, heq, hc1, hc2, hcap, hcap2, hcl, hs1, Int.toNat_natCast, Int.toNat_zero, Int.natCast_zero, Nat.zero_add, List.flatten_nil, decide_false, decide_true, Bool.not_false, Bool.not_true, List.length_append, List.length_cons, List.length_nil, hge, hml]
                  all_goals repeat' (first | apply And.intro | intro _)
                  all_goals
                    refine hK32 _ ?_
                    refine hN31 _ ?_
                    refine seq_k fun N33 M33 hN33 hM33 => ?_
                    refine seq_k fun N34 M34 hN34 hM34 => ?_
                    refine region_k fun K35 hK35 => ?_
                    simp only [go_sem, hqk, List.length_map, hg0, hk, hqk, hpl, hin, heq, hc1, hc2, hcap, hcap2, hcl, hs1, Int.toNat_natCast, Int.toNat_zero, Int.natCast_zero, Nat.zero_add, List.flatten_nil, decide_false, decide_true, Bool.not_false, Bool.not_true, List.length_append, List.length_cons, List.length_nil, hge, hml]
                    all_goals repeat' (first | apply And.intro | intro _)
                    all_goals
                      refine hK35 _ ?_
                      refine hN34 _ ?_
                      refine cond_k rfl (fun hc => ?_) (fun hc => ?_)
                      · exfalso; revert hc; simp [go_sem, hqk, List.length_map, hg0, hk, hqk, hpl, hin, heq, hc1, hc2, hcap, hcap2, hcl, hs1, Int.toNat_natCast, Int.toNat_zero, Int.natCast_zero, Nat.zero_add, List.flatten_nil, decide_false, decide_true, Bool.not_false, Bool.not_true, List.length_append, List.length_cons, List.length_nil, hge, hml]
                      · try simp only [go_sem, hqk, List.length_map, hg0, hk, hqk, hpl, hin, heq, hc1, hc2, hcap, hcap2, hcl, hs1, Int.toNat_natCast, Int.toNat_zero, Int.natCast_zero, Nat.zero_add, List.flatten_nil, decide_false, decide_true, Bool.not_false, Bool.not_true, List.length_append, List.length_cons, List.length_nil, hge, hml] at hc
                        all_goals
                          refine skip_k ?_
                          refine hN33 _ ?_
                          refine seq_k fun N36 M36 hN36 hM36 => ?_
                          refine region_k fun K37 hK37 => ?_
                          simp only [go_sem, hqk, List.length_map, hg0, hk, hqk, hpl, hin, heq, hc1, hc2, hcap, hcap2, hcl, hs1, Int.toNat_natCast, Int.toNat_zero, Int.natCast_zero, Nat.zero_add, List.flatten_nil, decide_false, decide_true, Bool.not_false, Bool.not_true, List.length_append, List.length_cons, List.length_nil, hge, hml]
                          all_goals repeat' (first | apply And.intro | intro _)
                          all_goals
                            refine hK37 _ ?_
                            refine hN36 _ ?_
                            refine cond_k rfl (fun hc => ?_) (fun hc => ?_)
                            · try simp only [go_sem, hqk, List.length_map, hg0, hk, hqk, hpl, hin, heq, hc1, hc2, hcap, hcap2, hcl, hs1, Int.toNat_natCast, Int.toNat_zero, Int.natCast_zero, Nat.zero_add, List.flatten_nil, decide_false, decide_true, Bool.not_false, Bool.not_true, List.length_append, List.length_cons, List.length_nil, hge, hml] at hc
                              all_goals
                                refine region_k fun K38 hK38 => ?_
                                simp only [go_sem, hqk, List.length_map, hg0, hk, hqk, hpl, hin, heq, hc1, hc2, hcap, hcap2, hcl, hs1, Int.toNat_natCast, Int.toNat_zero, Int.natCast_zero, Nat.zero_add, List.flatten_nil, decide_false, decide_true, Bool.not_false, Bool.not_true, List.length_append, List.length_cons, List.length_nil, hge, hml]
                                all_goals repeat' (first | apply And.intro | intro _)
                                all_goals
                                  refine hK38 _ ?_
                                  refine bn30 _ ?_
                                  refine hN29 _ ?_
                                  refine region_k fun K39 hK39 => ?_
                                  simp only [go_sem, hqk, List.length_map, hg0, hk, hqk, hpl, hin, heq, hc1, hc2, hcap, hcap2, hcl, hs1, Int.toNat_natCast, Int.toNat_zero, Int.natCast_zero, Nat.zero_add, List.flatten_nil, decide_false, decide_true, Bool.not_false, Bool.not_true, List.length_append, List.length_cons, List.length_nil, hge, hml]
                                  all_goals repeat' (first | apply And.intro | intro _)
                                  all_goals
                                    refine hK39 _ ?_
                                    refine hN11 ⟨i + 1, hlt⟩ _ ?_ ?_ ?_
                                    · (clear hs1 hcap hcap2; first | (show l.length - (0 + 1) < l.length - 0; omega) | (show l.length - 1 < l.length - 0; omega) | (show l.length - (i + 1) < l.length - i; omega))
                                    · (simp only [go_sem, hnx, hin2, outV_snoc, outV_one, outV_two, leX, List.cons_append, List.nil_append]; try simp [hin2, outV_two])
                                    · (simp only [hnx, outM_snoc, outM_one, pinsC_append, pinsC_one, go_sem, leX, List.cons_append, List.nil_append]; try simp [pls, leX, look, outM_two, outV_two, pinsC_cons, pinsC_nil])
                            · exfalso; revert hc; simp [go_sem, hqk, List.length_map, hg0, hk, hqk, hpl, hin, heq, hc1, hc2, hcap, hcap2, hcl, hs1, Int.toNat_natCast, Int.toNat_zero, Int.natCast_zero, Nat.zero_add, List.flatten_nil, decide_false, decide_true, Bool.not_false, Bool.not_true, List.length_append, List.length_cons, List.length_nil, hge, hml]
              · exfalso; revert hc; simp [go_sem, hqk, List.length_map, hg0, hk, hqk, hpl, hin, heq, hc1, hc2, hcap, hcap2, hcl, hs1, Int.toNat_natCast, Int.toNat_zero, Int.natCast_zero, Nat.zero_add, List.flatten_nil, decide_false, decide_true, Bool.not_false, Bool.not_true, List.length_append, List.length_cons, List.length_nil, hge, hml]
          · have h8 := hs.1
            have hg0 := pinRows_get hp
            have hk := (hl p (List.mem_of_getElem? hp)).1
            have hpl := pinC_length hk
            have hlt := (List.getElem?_eq_some_iff.mp hp).1
            have hlo := pinned_len (l := l) (q := q) i
            have hna := nameAt_eq hp
            have hii := idx_iff hs q.name hlt
            rw [hna] at hii
            have hc1 : ((i : Nat) : Int) < ((l.length : Nat) : Int) := by omega
            have hc2 : (0 : Int) ≤ ((i : Nat) : Int) := by omega
            have hcl := pinsC_length (pinned_ok hl hq i)
            have hin : decide (idxP l q.name < i) = false := decide_eq_false (by omega)
            have hin2 : decide (idxP l q.name < i + 1) = true := decide_eq_true (by omega)
            have hge : (!Op.bytesLess p.name q.name) = true := by rw [hii, decide_eq_false (by omega)]; rfl
            have heq : decide (p.name = q.name) = true := by simpa using hx
            have hnx := pinned_has hz1 (by rw [has_name hz1 hp]; exact heq)
            have hne := pinned_ne (l := l) (q := q) (i := i) (by omega) (by omega)
            simp only [outV_of _ hne, outM_of _ hne, List.cons_append, List.nil_append]
            have hml : ((pinnedL l q i).length * 34 + 34 = ((pinnedL l q i).length + 1) * 34) = True := eq_true (by omega)
            obtain ⟨hcap, hcap2, hs1⟩ : ((pinnedL l q i).length + 1) * 56 ≤ 140737488355328 ∧ ((pinnedL l q i).length + 1 + 1) * 56 ≤ 140737488355328 ∧ Go.RowKit.wrap64 (((i : Nat) : Int) + 1) = ((i + 1 : Nat) : Int) := ⟨cap_le (by omega), cap_le (by omega), wnat (by omega) (by omega)⟩
            
            refine seq_k fun N40 M40 hN40 hM40 => ?_
            refine region_k fun K41 hK41 => ?_
            simp only [go_sem, hqk, List.length_map, hg0, hk, hqk, hpl, hin, heq, hc1, hc2, hcap, hcap2, hcl, hs1, Int.toNat_natCast, Int.toNat_zero, Int.natCast_zero, Nat.zero_add, List.flatten_nil, decide_false, decide_true, Bool.not_false, Bool.not_true, List.length_append, List.length_cons, List.length_nil, hge, hml]
            all_goals repeat' (first | apply And.intro | intro _)
            all_goals
              refine hK41 _ ?_
              refine hN40 _ ?_
              refine seq_k fun N42 M42 hN42 hM42 => ?_
              refine cond_k rfl (fun hc => ?_) (fun hc => ?_)
              · try simp only [go_sem, hqk, List.length_map, hg0, hk, hqk, hpl, hin, heq, hc1, hc2, hcap, hcap2, hcl, hs1, Int.toNat_natCast, Int.toNat_zero, Int.natCast_zero, Nat.zero_add, List.flatten_nil, decide_false, decide_true, Bool.not_false, Bool.not_true, List.length_append, List.length_cons, List.length_nil, hge, hml] at hc
                all_goals
                  refine skip_k ?_
                  refine hN42 _ ?_
                  refine seq_k fun N43 M43 hN43 hM43 => ?_
                  refine block_k fun B44 bn44 bx44 br44 bi44 => ?_
                  refine seq_k fun N45 M45 hN45 hM45 => ?_
                  refine region_k fun K46 hK46 => ?_
                  simp only [go_sem, hqk, List.length_map, hg0, hk, hqk, hpl, hin, heq, hc1, hc2, hcap, hcap2, hcl, hs1, Int.toNat_natCast, Int.toNat_zero, Int.natCast_zero, Nat.zero_add, List.flatten_nil, decide_false, decide_true, Bool.not_false, Bool.not_true, List.length_append, List.length_cons, List.length_nil, hge, hml]
                  all_goals repeat' (first | apply And.intro | intro _)
                  all_goals
                    refine hK46 _ ?_
                    refine hN45 _ ?_
                    refine seq_k fun N47 M47 hN47 hM47 => ?_
                    refine seq_k fun N48 M48 hN48 hM48 => ?_
                    refine region_k fun K49 hK49 => ?_
                    simp only [go_sem, hqk, List.length_map, hg0, hk, hqk, hpl, hin, heq, hc1, hc2, hcap, hcap2, hcl, hs1, Int.toNat_natCast, Int.toNat_zero, Int.natCast_zero, Nat.zero_add, List.flatten_nil, decide_false, decide_true, Bool.not_false, Bool.not_true, List.length_append, List.length_cons, List.length_nil, hge, hml]
                    all_goals repeat' (first | apply And.intro | intro _)
                    all_goals
                      refine hK49 _ ?_
                      refine hN48 _ ?_
                      refine cond_k rfl (fun hc => ?_) (fun hc => ?_)
                      · try simp only [go_sem, hqk, List.length_map, hg0, hk, hqk, hpl, hin, heq, hc1, hc2, hcap, hcap2, hcl, hs1, Int.toNat_natCast, Int.toNat_zero, Int.natCast_zero, Nat.zero_add, List.flatten_nil, decide_false, decide_true, Bool.not_false, Bool.not_true, List.length_append, List.length_cons, List.length_nil, hge, hml] at hc
                        all_goals
                          refine region_k fun K50 hK50 => ?_
                          simp only [go_sem, hqk, List.length_map, hg0, hk, hqk, hpl, hin, heq, hc1, hc2, hcap, hcap2, hcl, hs1, Int.toNat_natCast, Int.toNat_zero, Int.natCast_zero, Nat.zero_add, List.flatten_nil, decide_false, decide_true, Bool.not_false, Bool.not_true, List.length_append, List.length_cons, List.length_nil, hge, hml]
                          all_goals repeat' (first | apply And.intro | intro _)
                          all_goals
                            refine hK50 _ ?_
                            refine hN47 _ ?_
                            refine seq_k fun N51 M51 hN51 hM51 => ?_
                            refine region_k fun K52 hK52 => ?_
                            simp only [go_sem, hqk, List.length_map, hg0, hk, hqk, hpl, hin, heq, hc1, hc2, hcap, hcap2, hcl, hs1, Int.toNat_natCast, Int.toNat_zero, Int.natCast_zero, Nat.zero_add, List.flatten_nil, decide_false, decide_true, Bool.not_false, Bool.not_true, List.length_append, List.length_cons, List.length_nil, hge, hml]
                            all_goals repeat' (first | apply And.intro | intro _)
                            all_goals
                              refine hK52 _ ?_
                              refine hN51 _ ?_
                              refine cond_k rfl (fun hc => ?_) (fun hc => ?_)
                              · exfalso; revert hc; simp [go_sem, hqk, List.length_map, hg0, hk, hqk, hpl, hin, heq, hc1, hc2, hcap, hcap2, hcl, hs1, Int.toNat_natCast, Int.toNat_zero, Int.natCast_zero, Nat.zero_add, List.flatten_nil, decide_false, decide_true, Bool.not_false, Bool.not_true, List.length_append, List.length_cons, List.length_nil, hge, hml]
                              · try simp only [go_sem, hqk, List.length_map, hg0, hk, hqk, hpl, hin, heq, hc1, hc2, hcap, hcap2, hcl, hs1, Int.toNat_natCast, Int.toNat_zero, Int.natCast_zero, Nat.zero_add, List.flatten_nil, decide_false, decide_true, Bool.not_false, Bool.not_true, List.length_append, List.length_cons, List.length_nil, hge, hml] at hc
                                all_goals
                                  refine skip_k ?_
                                  refine bn44 _ ?_
                                  refine hN43 _ ?_
                                  refine region_k fun K53 hK53 => ?_
                                  simp only [go_sem, hqk, List.length_map, hg0, hk, hqk, hpl, hin, heq, hc1, hc2, hcap, hcap2, hcl, hs1, Int.toNat_natCast, Int.toNat_zero, Int.natCast_zero, Nat.zero_add, List.flatten_nil, decide_false, decide_true, Bool.not_false, Bool.not_true, List.length_append, List.length_cons, List.length_nil, hge, hml]
                                  all_goals repeat' (first | apply And.intro | intro _)
                                  all_goals
                                    refine hK53 _ ?_
                                    refine hN11 ⟨i + 1, hlt⟩ _ ?_ ?_ ?_
                                    · (clear hs1 hcap hcap2; first | (show l.length - (0 + 1) < l.length - 0; omega) | (show l.length - 1 < l.length - 0; omega) | (show l.length - (i + 1) < l.length - i; omega))
                                    · (simp only [go_sem, hnx, hin2, outV_snoc, outV_one, outV_two, leX, List.cons_append, List.nil_append]; try simp [hin2, outV_two])
                                    · (simp only [hnx, outM_snoc, outM_one, pinsC_append, pinsC_one, go_sem, leX, List.cons_append, List.nil_append]; try simp [pls, leX, look, outM_two, outV_two, pinsC_cons, pinsC_nil])
                      · exfalso; revert hc; simp [go_sem, hqk, List.length_map, hg0, hk, hqk, hpl, hin, heq, hc1, hc2, hcap, hcap2, hcl, hs1, Int.toNat_natCast, Int.toNat_zero, Int.natCast_zero, Nat.zero_add, List.flatten_nil, decide_false, decide_true, Bool.not_false, Bool.not_true, List.length_append, List.length_cons, List.length_nil, hge, hml]
              · exfalso; revert hc; simp [go_sem, hqk, List.length_map, hg0, hk, hqk, hpl, hin, heq, hc1, hc2, hcap, hcap2, hcl, hs1, Int.toNat_natCast, Int.toNat_zero, Int.natCast_zero, Nat.zero_add, List.flatten_nil, decide_false, decide_true, Bool.not_false, Bool.not_true, List.length_append, List.length_cons, List.length_nil, hge, hml]
          · have h8 := hs.1
            have hg0 := pinRows_get hp
            have hk := (hl p (List.mem_of_getElem? hp)).1
            have hpl := pinC_length hk
            have hlt := (List.getElem?_eq_some_iff.mp hp).1
            have hlo := pinned_len (l := l) (q := q) i
            have hna := nameAt_eq hp
            have hii := idx_iff hs q.name hlt
            rw [hna] at hii
            have hc1 : ((i : Nat) : Int) < ((l.length : Nat) : Int) := by omega
            have hc2 : (0 : Int) ≤ ((i : Nat) : Int) := by omega
            have hcl := pinsC_length (pinned_ok hl hq i)
            have hin : decide (idxP l q.name < i) = false := decide_eq_false (by omega)
            have hin2 : decide (idxP l q.name < i + 1) = true := decide_eq_true (by omega)
            have hge : (!Op.bytesLess p.name q.name) = true := by rw [hii, decide_eq_false (by omega)]; rfl
            have heq : decide (p.name = q.name) = false := by simpa using hx
            have hnx := pinned_no hz1 (by rw [has_name hz1 hp]; exact heq) hp
            have hne := pinned_ne (l := l) (q := q) (i := i) (by omega) (by omega)
            simp only [outV_of _ hne, outM_of _ hne, List.cons_append, List.nil_append]
            have hml : ((pinnedL l q i).length * 34 + 34 = ((pinnedL l q i).length + 1) * 34) = True := eq_true (by omega)
            obtain ⟨hcap, hcap2, hs1⟩ : ((pinnedL l q i).length + 1) * 56 ≤ 140737488355328 ∧ ((pinnedL l q i).length + 1 + 1) * 56 ≤ 140737488355328 ∧ Go.RowKit.wrap64 (((i : Nat) : Int) + 1) = ((i + 1 : Nat) : Int) := ⟨cap_le (by omega), cap_le (by omega), wnat (by omega) (by omega)⟩
            
            refine seq_k fun N54 M54 hN54 hM54 => ?_
            refine region_k fun K55 hK55 => ?_
            simp only [go_sem, hqk, List.length_map, hg0, hk, hqk, hpl, hin, heq, hc1, hc2, hcap, hcap2, hcl, hs1, Int.toNat_natCast, Int.toNat_zero, Int.natCast_zero, Nat.zero_add, List.flatten_nil, decide_false, decide_true, Bool.not_false, Bool.not_true, List.length_append, List.length_cons, List.length_nil, hge, hml]
            all_goals repeat' (first | apply And.intro | intro _)
            all_goals
              refine hK55 _ ?_
              refine hN54 _ ?_
              refine seq_k fun N56 M56 hN56 hM56 => ?_
              refine cond_k rfl (fun hc => ?_) (fun hc => ?_)
              · try simp only [go_sem, hqk, List.length_map, hg0, hk, hqk, hpl, hin, heq, hc1, hc2, hcap, hcap2, hcl, hs1, Int.toNat_natCast, Int.toNat_zero, Int.natCast_zero, Nat.zero_add, List.flatten_nil, decide_false, decide_true, Bool.not_false, Bool.not_true, List.length_append, List.length_cons, List.length_nil, hge, hml] at hc
                all_goals
                  refine skip_k ?_
                  refine hN56 _ ?_
                  refine seq_k fun N57 M57 hN57 hM57 => ?_
                  refine block_k fun B58 bn58 bx58 br58 bi58 => ?_
                  refine seq_k fun N59 M59 hN59 hM59 => ?_
                  refine region_k fun K60 hK60 => ?_
                  simp only [go_sem, hqk, List.length_map, hg0, hk, hqk, hpl, hin, heq, hc1, hc2, hcap, hcap2, hcl, hs1, Int.toNat_natCast, Int.toNat_zero, Int.natCast_zero, Nat.zero_add, List.flatten_nil, decide_false, decide_true, Bool.not_false, Bool.not_true, List.length_append, List.length_cons, List.length_nil, hge, hml]
                  all_goals repeat' (first | apply And.intro | intro _)
                  all_goals
                    refine hK60 _ ?_
                    refine hN59 _ ?_
                    refine seq_k fun N61 M61 hN61 hM61 => ?_
                    refine seq_k fun N62 M62 hN62 hM62 => ?_
                    refine region_k fun K63 hK63 => ?_
                    simp only [go_sem, hqk, List.length_map, hg0, hk, hqk, hpl, hin, heq, hc1, hc2, hcap, hcap2, hcl, hs1, Int.toNat_natCast, Int.toNat_zero, Int.natCast_zero, Nat.zero_add, List.flatten_nil, decide_false, decide_true, Bool.not_false, Bool.not_true, List.length_append, List.length_cons, List.length_nil, hge, hml]
                    all_goals repeat' (first | apply And.intro | intro _)
                    all_goals
                      refine hK63 _ ?_
                      refine hN62 _ ?_
                      refine cond_k rfl (fun hc => ?_) (fun hc => ?_)
                      · try simp only [go_sem, hqk, List.length_map, hg0, hk, hqk, hpl, hin, heq, hc1, hc2, hcap, hcap2, hcl, hs1, Int.toNat_natCast, Int.toNat_zero, Int.natCast_zero, Nat.zero_add, List.flatten_nil, decide_false, decide_true, Bool.not_false, Bool.not_true, List.length_append, List.length_cons, List.length_nil, hge, hml] at hc
                        all_goals
                          refine region_k fun K64 hK64 => ?_
                          simp only [go_sem, hqk, List.length_map, hg0, hk, hqk, hpl, hin, heq, hc1, hc2, hcap, hcap2, hcl, hs1, Int.toNat_natCast, Int.toNat_zero, Int.natCast_zero, Nat.zero_add, List.flatten_nil, decide_false, decide_true, Bool.not_false, Bool.not_true, List.length_append, List.length_cons, List.length_nil, hge, hml]
                          all_goals repeat' (first | apply And.intro | intro _)
                          all_goals
                            refine hK64 _ ?_
                            refine hN61 _ ?_
                            refine seq_k fun N65 M65 hN65 hM65 => ?_
                            refine region_k fun K66 hK66 => ?_
                            simp only [go_sem, hqk, List.length_map, hg0, hk, hqk, hpl, hin, heq, hc1, hc2, hcap, hcap2, hcl, hs1, Int.toNat_natCast, Int.toNat_zero, Int.natCast_zero, Nat.zero_add, List.flatten_nil, decide_false, decide_true, Bool.not_false, Bool.not_true, List.length_append, List.length_cons, List.length_nil, hge, hml]
                            all_goals repeat' (first | apply And.intro | intro _)
                            all_goals
                              refine hK66 _ ?_
                              refine hN65 _ ?_
                              refine cond_k rfl (fun hc => ?_) (fun hc => ?_)
                              · try simp only [go_sem, hqk, List.length_map, hg0, hk, hqk, hpl, hin, heq, hc1, hc2, hcap, hcap2, hcl, hs1, Int.toNat_natCast, Int.toNat_zero, Int.natCast_zero, Nat.zero_add, List.flatten_nil, decide_false, decide_true, Bool.not_false, Bool.not_true, List.length_append, List.length_cons, List.length_nil, hge, hml] at hc
                                all_goals
                                  refine region_k fun K67 hK67 => ?_
                                  simp only [go_sem, hqk, List.length_map, hg0, hk, hqk, hpl, hin, heq, hc1, hc2, hcap, hcap2, hcl, hs1, Int.toNat_natCast, Int.toNat_zero, Int.natCast_zero, Nat.zero_add, List.flatten_nil, decide_false, decide_true, Bool.not_false, Bool.not_true, List.length_append, List.length_cons, List.length_nil, hge, hml]
                                  all_goals repeat' (first | apply And.intro | intro _)
                                  all_goals
                                    refine hK67 _ ?_
                                    refine bn58 _ ?_
                                    refine hN57 _ ?_
                                    refine region_k fun K68 hK68 => ?_
                                    simp only [go_sem, hqk, List.length_map, hg0, hk, hqk, hpl, hin, heq, hc1, hc2, hcap, hcap2, hcl, hs1, Int.toNat_natCast, Int.toNat_zero, Int.natCast_zero, Nat.zero_add, List.flatten_nil, decide_false, decide_true, Bool.not_false, Bool.not_true, List.length_append, List.length_cons, List.length_nil, hge, hml]
                                    all_goals repeat' (first | apply And.intro | intro _)
                                    all_goals
                                      refine hK68 _ ?_
                                      refine hN11 ⟨i + 1, hlt⟩ _ ?_ ?_ ?_
                                      · (clear hs1 hcap hcap2; first | (show l.length - (0 + 1) < l.length - 0; omega) | (show l.length - 1 < l.length - 0; omega) | (show l.length - (i + 1) < l.length - i; omega))
                                      · (simp only [go_sem, hnx, hin2, outV_snoc, outV_one, outV_two, leX, List.cons_append, List.nil_append]; try simp [hin2, outV_two])
                                      · (simp only [hnx, outM_snoc, outM_one, pinsC_append, pinsC_one, go_sem, leX, List.cons_append, List.nil_append]; try simp [pls, leX, look, outM_two, outV_two, pinsC_cons, pinsC_nil])
                              · exfalso; revert hc; simp [go_sem, hqk, List.length_map, hg0, hk, hqk, hpl, hin, heq, hc1, hc2, hcap, hcap2, hcl, hs1, Int.toNat_natCast, Int.toNat_zero, Int.natCast_zero, Nat.zero_add, List.flatten_nil, decide_false, decide_true, Bool.not_false, Bool.not_true, List.length_append, List.length_cons, List.length_nil, hge, hml]
                      · exfalso; revert hc; simp [go_sem, hqk, List.length_map, hg0, hk, hqk, hpl, hin, heq, hc1, hc2, hcap, hcap2, hcl, hs1, Int.toNat_natCast, Int.toNat_zero, Int.natCast_zero, Nat.zero_add, List.flatten_nil, decide_false, decide_true, Bool.not_false, Bool.not_true, List.length_append, List.length_cons, List.length_nil, hge, hml]
              · exfalso; revert hc; simp [go_sem, hqk, List.length_map, hg0, hk, hqk, hpl, hin, heq, hc1, hc2, hcap, hcap2, hcl, hs1, Int.toNat_natCast, Int.toNat_zero, Int.natCast_zero, Nat.zero_add, List.flatten_nil, decide_false, decide_true, Bool.not_false, Bool.not_true, List.length_append, List.length_cons, List.length_nil, hge, hml]
          · have h8 := hs.1
            have hg0 := pinRows_get hp
            have hk := (hl p (List.mem_of_getElem? hp)).1
            have hpl := pinC_length hk
            have hlt := (List.getElem?_eq_some_iff.mp hp).1
            have hlo := pinned_len (l := l) (q := q) i
            have hna := nameAt_eq hp
            have hii := idx_iff hs q.name hlt
            rw [hna] at hii
            have hc1 : ((i : Nat) : Int) < ((l.length : Nat) : Int) := by omega
            have hc2 : (0 : Int) ≤ ((i : Nat) : Int) := by omega
            have hcl := pinsC_length (pinned_ok hl hq i)
            have hin : decide (idxP l q.name < i) = true := decide_eq_true (by omega)
            have hin2 : decide (idxP l q.name < i + 1) = true := decide_eq_true (by omega)
            have hge : (!Op.bytesLess p.name q.name) = true := by rw [hii, decide_eq_false (by omega)]; rfl
            have heq : decide (p.name = q.name) = false := by have := name_ne_of hs (s := q.name) hlt (by omega); rw [hna] at this; simpa using this
            have hnx := pinned_gt (q := q) (by omega) hp
            have hne := pinned_ne (l := l) (q := q) (i := i) (by omega) (by omega)
            simp only [outV_of _ hne, outM_of _ hne, List.cons_append, List.nil_append]
            have hml : ((pinnedL l q i).length * 34 + 34 = ((pinnedL l q i).length + 1) * 34) = True := eq_true (by omega)
            obtain ⟨hcap, hcap2, hs1⟩ : ((pinnedL l q i).length + 1) * 56 ≤ 140737488355328 ∧ ((pinnedL l q i).length + 1 + 1) * 56 ≤ 140737488355328 ∧ Go.RowKit.wrap64 (((i : Nat) : Int) + 1) = ((i + 1 : Nat) : Int) := ⟨cap_le (by omega), cap_le (by omega), wnat (by omega) (by omega)⟩
            
            refine seq_k fun N69 M69 hN69 hM69 => ?_
            refine region_k fun K70 hK70 => ?_
            simp only [go_sem, hqk, List.length_map, hg0, hk, hqk, hpl, hin, heq, hc1, hc2, hcap, hcap2, hcl, hs1, Int.toNat_natCast, Int.toNat_zero, Int.natCast_zero, Nat.zero_add, List.flatten_nil, decide_false, decide_true, Bool.not_false, Bool.not_true, List.length_append, List.length_cons, List.length_nil, hge, hml]
            all_goals repeat' (first | apply And.intro | intro _)
            all_goals
              refine hK70 _ ?_
              refine hN69 _ ?_
              refine seq_k fun N71 M71 hN71 hM71 => ?_
              refine cond_k rfl (fun hc => ?_) (fun hc => ?_)
              · try simp only [go_sem, hqk, List.length_map, hg0, hk, hqk, hpl, hin, heq, hc1, hc2, hcap, hcap2, hcl, hs1, Int.toNat_natCast, Int.toNat_zero, Int.natCast_zero, Nat.zero_add, List.flatten_nil, decide_false, decide_true, Bool.not_false, Bool.not_true, List.length_append, List.length_cons, List.length_nil, hge, hml] at hc
                all_goals
                  refine skip_k ?_
                  refine hN71 _ ?_
                  refine seq_k fun N72 M72 hN72 hM72 => ?_
                  refine block_k fun B73 bn73 bx73 br73 bi73 => ?_
                  refine seq_k fun N74 M74 hN74 hM74 => ?_
                  refine region_k fun K75 hK75 => ?_
                  simp only [go_sem, hqk, List.length_map, hg0, hk, hqk, hpl, hin, heq, hc1, hc2, hcap, hcap2, hcl, hs1, Int.toNat_natCast, Int.toNat_zero, Int.natCast_zero, Nat.zero_add, List.flatten_nil, decide_false, decide_true, Bool.not_false, Bool.not_true, List.length_append, List.length_cons, List.length_nil, hge, hml]
                  all_goals repeat' (first | apply And.intro | intro _)
                  all_goals
                    refine hK75 _ ?_
                    refine hN74 _ ?_
                    refine seq_k fun N76 M76 hN76 hM76 => ?_
                    refine seq_k fun N77 M77 hN77 hM77 => ?_
                    refine region_k fun K78 hK78 => ?_
                    simp only [go_sem, hqk, List.length_map, hg0, hk, hqk, hpl, hin, heq, hc1, hc2, hcap, hcap2, hcl, hs1, Int.toNat_natCast, Int.toNat_zero, Int.natCast_zero, Nat.zero_add, List.flatten_nil, decide_false, decide_true, Bool.not_false, Bool.not_true, List.length_append, List.length_cons, List.length_nil, hge, hml]
                    all_goals repeat' (first | apply And.intro | intro _)
                    all_goals
                      refine hK78 _ ?_
                      refine hN77 _ ?_
                      refine cond_k rfl (fun hc => ?_) (fun hc => ?_)
                      · exfalso; revert hc; simp [go_sem, hqk, List.length_map, hg0, hk, hqk, hpl, hin, heq, hc1, hc2, hcap, hcap2, hcl, hs1, Int.toNat_natCast, Int.toNat_zero, Int.natCast_zero, Nat.zero_add, List.flatten_nil, decide_false, decide_true, Bool.not_false, Bool.not_true, List.length_append, List.length_cons, List.length_nil, hge, hml]
                      · try simp only [go_sem, hqk, List.length_map, hg0, hk, hqk, hpl, hin, heq, hc1, hc2, hcap, hcap2, hcl, hs1, Int.toNat_natCast, Int.toNat_zero, Int.natCast_zero, Nat.zero_add, List.flatten_nil, decide_false, decide_true, Bool.not_false, Bool.not_true, List.length_append, List.length_cons, List.length_nil, hge, hml] at hc
                        all_goals
                          refine skip_k ?_
                          refine hN76 _ ?_
                          refine seq_k fun N79 M79 hN79 hM79 => ?_
                          refine region_k fun K80 hK80 => ?_
                          simp only [go_sem, hqk, List.length_map, hg0, hk, hqk, hpl, hin, heq, hc1, hc2, hcap, hcap2, hcl, hs1, Int.toNat_natCast, Int.toNat_zero, Int.natCast_zero, Nat.zero_add, List.flatten_nil, decide_false, decide_true, Bool.not_false, Bool.not_true, List.length_append, List.length_cons, List.length_nil, hge, hml]
                          all_goals repeat' (first | apply And.intro | intro _)
                          all_goals
                            refine hK80 _ ?_
                            refine hN79 _ ?_
                            refine cond_k rfl (fun hc => ?_) (fun hc => ?_)
                            · try simp only [go_sem, hqk, List.length_map, hg0, hk, hqk, hpl, hin, heq, hc1, hc2, hcap, hcap2, hcl, hs1, Int.toNat_natCast, Int.toNat_zero, Int.natCast_zero, Nat.zero_add, List.flatten_nil, decide_false, decide_true, Bool.not_false, Bool.not_true, List.length_append, List.length_cons, List.length_nil, hge, hml] at hc
                              all_goals
                                refine region_k fun K81 hK81 => ?_
                                simp only [go_sem, hqk, List.length_map, hg0, hk, hqk, hpl, hin, heq, hc1, hc2, hcap, hcap2, hcl, hs1, Int.toNat_natCast, Int.toNat_zero, Int.natCast_zero, Nat.zero_add, List.flatten_nil, decide_false, decide_true, Bool.not_false, Bool.not_true, List.length_append, List.length_cons, List.length_nil, hge, hml]
                                all_goals repeat' (first | apply And.intro | intro _)
                                all_goals
                                  refine hK81 _ ?_
                                  refine bn73 _ ?_
                                  refine hN72 _ ?_
                                  refine region_k fun K82 hK82 => ?_
                                  simp only [go_sem, hqk, List.length_map, hg0, hk, hqk, hpl, hin, heq, hc1, hc2, hcap, hcap2, hcl, hs1, Int.toNat_natCast, Int.toNat_zero, Int.natCast_zero, Nat.zero_add, List.flatten_nil, decide_false, decide_true, Bool.not_false, Bool.not_true, List.length_append, List.length_cons, List.length_nil, hge, hml]
                                  all_goals repeat' (first | apply And.intro | intro _)
                                  all_goals
                                    refine hK82 _ ?_
                                    refine hN11 ⟨i + 1, hlt⟩ _ ?_ ?_ ?_
                                    · (clear hs1 hcap hcap2; first | (show l.length - (0 + 1) < l.length - 0; omega) | (show l.length - 1 < l.length - 0; omega) | (show l.length - (i + 1) < l.length - i; omega))
                                    · (simp only [go_sem, hnx, hin2, outV_snoc, outV_one, outV_two, leX, List.cons_append, List.nil_append]; try simp [hin2, outV_two])
                                    · (simp only [hnx, outM_snoc, outM_one, pinsC_append, pinsC_one, go_sem, leX, List.cons_append, List.nil_append]; try simp [pls, leX, look, outM_two, outV_two, pinsC_cons, pinsC_nil])
                            · exfalso; revert hc; simp [go_sem, hqk, List.length_map, hg0, hk, hqk, hpl, hin, heq, hc1, hc2, hcap, hcap2, hcl, hs1, Int.toNat_natCast, Int.toNat_zero, Int.natCast_zero, Nat.zero_add, List.flatten_nil, decide_false, decide_true, Bool.not_false, Bool.not_true, List.length_append, List.length_cons, List.length_nil, hge, hml]
              · exfalso; revert hc; simp [go_sem, hqk, List.length_map, hg0, hk, hqk, hpl, hin, heq, hc1, hc2, hcap, hcap2, hcl, hs1, Int.toNat_natCast, Int.toNat_zero, Int.natCast_zero, Nat.zero_add, List.flatten_nil, decide_false, decide_true, Bool.not_false, Bool.not_true, List.length_append, List.length_cons, List.length_nil, hge, hml]
          · subst hi1
            have hin : decide (idxP l q.name < l.length) = false := decide_eq_false (by omega)
            have hne := pinned_ne (l := l) (q := q) (i := l.length) (by omega) (by omega)
            simp only [outV_of _ hne, outM_of _ hne, List.cons_append, List.nil_append]
            have hlo := pinned_len (l := l) (q := q) l.length
            have h8 := hs.1
            have hcl := pinsC_length (pinned_ok hl hq l.length)
            have hc9 : ¬ ((l.length : Nat) : Int) < ((l.length : Nat) : Int) := by omega
            have hfi := pinned_all (l := l) (q := q) (by omega)
            have hok := pinnedF_ok hl hq
            rw [hfi] at hok
            have hcap : ((pinnedL l q l.length).length + 1) * 56 ≤ 140737488355328 := cap_le (by omega)
            refine seq_k fun N83 M83 hN83 hM83 => ?_
            refine region_k fun K84 hK84 => ?_
            simp only [go_sem, hqk, hin, hc9, hcap, hcl, hqk, List.length_nil, List.length_cons, Bool.not_false, Bool.not_true, decide_false, decide_true]
            all_goals repeat' (first | apply And.intro | intro _)
            all_goals
              refine hK84 _ ?_
              refine hN83 _ ?_
              refine seq_k fun N85 M85 hN85 hM85 => ?_
              refine cond_k rfl (fun hc => ?_) (fun hc => ?_)
              · exfalso; revert hc; simp [go_sem, hqk, hin, hc9, hcap, hcl, hqk, List.length_nil, List.length_cons, Bool.not_false, Bool.not_true, decide_false, decide_true]
              · try simp only [go_sem, hqk, hin, hc9, hcap, hcl, hqk, List.length_nil, List.length_cons, Bool.not_false, Bool.not_true, decide_false, decide_true] at hc
                all_goals
                  refine exit_k ?_
                  refine hM85 _ _ ?_
                  refine hM11 _ _ ?_
                  refine bx10 _ ?_
                  refine hN7 _ ?_
                  refine seq_k fun N86 M86 hN86 hM86 => ?_
                  refine seq_k fun N87 M87 hN87 hM87 => ?_
                  refine region_k fun K88 hK88 => ?_
                  simp only [go_sem, hqk, hin, hc9, hcap, hcl, hqk, List.length_nil, List.length_cons, Bool.not_false, Bool.not_true, decide_false, decide_true]
                  all_goals repeat' (first | apply And.intro | intro _)
                  all_goals
                    refine hK88 _ ?_
                    refine hN87 _ ?_
                    refine cond_k rfl (fun hc => ?_) (fun hc => ?_)
                    · try simp only [go_sem, hqk, hin, hc9, hcap, hcl, hqk, List.length_nil, List.length_cons, Bool.not_false, Bool.not_true, decide_false, decide_true] at hc
                      all_goals
                        refine region_k fun K89 hK89 => ?_
                        simp only [go_sem, hqk, hin, hc9, hcap, hcl, hqk, List.length_nil, List.length_cons, Bool.not_false, Bool.not_true, decide_false, decide_true]
                        all_goals repeat' (first | apply And.intro | intro _)
                        all_goals
                          refine hK89 _ ?_
                          refine hN86 _ ?_
                          refine seq_k fun N90 M90 hN90 hM90 => ?_
                          refine region_k fun K91 hK91 => ?_
                          simp only [go_sem, hqk, hin, hc9, hcap, hcl, hqk, List.length_nil, List.length_cons, Bool.not_false, Bool.not_true, decide_false, decide_true]
                          all_goals repeat' (first | apply And.intro | intro _)
                          all_goals
                            refine hK91 _ ?_
                            refine hN90 _ ?_
                            refine ret_k ?_
                            simp only [go_sem, hqk, hin, hc9, hcap, hcl, hqk, List.length_nil, List.length_cons, Bool.not_false, Bool.not_true, decide_false, decide_true]
                            all_goals (rw [hfi]; exact pins_obj1 (b := true) (by simp [look, pinsC_append, pinsC_one]) hok (by simp))
                    · exfalso; revert hc; simp [go_sem, hqk, hin, hc9, hcap, hcl, hqk, List.length_nil, List.length_cons, Bool.not_false, Bool.not_true, decide_false, decide_true]
          · subst hi1
            have hin : decide (idxP l q.name < l.length) = true := decide_eq_true (by omega)
            have hne := pinned_ne (l := l) (q := q) (i := l.length) (by omega) (by omega)
            simp only [outV_of _ hne, outM_of _ hne, List.cons_append, List.nil_append]
            have hlo := pinned_len (l := l) (q := q) l.length
            have h8 := hs.1
            have hcl := pinsC_length (pinned_ok hl hq l.length)
            have hc9 : ¬ ((l.length : Nat) : Int) < ((l.length : Nat) : Int) := by omega
            have hfi := pinned_end (l := l) (q := q) (by omega)
            have hok := pinnedF_ok hl hq
            rw [hfi] at hok
            have hcap : ((pinnedL l q l.length).length + 1) * 56 ≤ 140737488355328 := cap_le (by omega)
            refine seq_k fun N92 M92 hN92 hM92 => ?_
            refine region_k fun K93 hK93 => ?_
            simp only [go_sem, hqk, hin, hc9, hcap, hcl, hqk, List.length_nil, List.length_cons, Bool.not_false, Bool.not_true, decide_false, decide_true]
            all_goals repeat' (first | apply And.intro | intro _)
            all_goals
              refine hK93 _ ?_
              refine hN92 _ ?_
              refine seq_k fun N94 M94 hN94 hM94 => ?_
              refine cond_k rfl (fun hc => ?_) (fun hc => ?_)
              · exfalso; revert hc; simp [go_sem, hqk, hin, hc9, hcap, hcl, hqk, List.length_nil, List.length_cons, Bool.not_false, Bool.not_true, decide_false, decide_true]
              · try simp only [go_sem, hqk, hin, hc9, hcap, hcl, hqk, List.length_nil, List.length_cons, Bool.not_false, Bool.not_true, decide_false, decide_true] at hc
                all_goals
                  refine exit_k ?_
                  refine hM94 _ _ ?_
                  refine hM11 _ _ ?_
                  refine bx10 _ ?_
                  refine hN7 _ ?_
                  refine seq_k fun N95 M95 hN95 hM95 => ?_
                  refine seq_k fun N96 M96 hN96 hM96 => ?_
                  refine region_k fun K97 hK97 => ?_
                  simp only [go_sem, hqk, hin, hc9, hcap, hcl, hqk, List.length_nil, List.length_cons, Bool.not_false, Bool.not_true, decide_false, decide_true]
                  all_goals repeat' (first | apply And.intro | intro _)
                  all_goals
                    refine hK97 _ ?_
                    refine hN96 _ ?_
                    refine cond_k rfl (fun hc => ?_) (fun hc => ?_)
                    · exfalso; revert hc; simp [go_sem, hqk, hin, hc9, hcap, hcl, hqk, List.length_nil, List.length_cons, Bool.not_false, Bool.not_true, decide_false, decide_true]
                    · try simp only [go_sem, hqk, hin, hc9, hcap, hcl, hqk, List.length_nil, List.length_cons, Bool.not_false, Bool.not_true, decide_false, decide_true] at hc
                      all_goals
                        refine skip_k ?_
                        refine hN95 _ ?_
                        refine seq_k fun N98 M98 hN98 hM98 => ?_
                        refine region_k fun K99 hK99 => ?_
                        simp only [go_sem, hqk, hin, hc9, hcap, hcl, hqk, List.length_nil, List.length_cons, Bool.not_false, Bool.not_true, decide_false, decide_true]
                        all_goals repeat' (first | apply And.intro | intro _)
                        all_goals
                          refine hK99 _ ?_
                          refine hN98 _ ?_
                          refine ret_k ?_
                          simp only [go_sem, hqk, hin, hc9, hcap, hcl, hqk, List.length_nil, List.length_cons, Bool.not_false, Bool.not_true, decide_false, decide_true]
                          all_goals (rw [hfi]; exact pins_obj1 (b := true) (by simp [look, pinsC_append, pinsC_one]) hok (by simp))
theorem pinned_ (l : List PinD) (hl : ∀ p ∈ l, p.ok) (ex : Bool) (q : PinD) (hq : q.ok) (hs : Srt l) : Ct Try.prog 48 [.w (.one (.pl (.R ex 34 (pinRows l)))), .w (.agg (.pl (.str q.name) :: (bytesC q.key ++ [.pl (.b q.gone)])))] (pinsV1 (pinnedF l q)) := by
  by_cases hz : idxP l q.name = 0
  · exact (pinned_zero_ l hl ex q hq hs hz).told
  · exact (pinned_pos_ l hl ex q hq hs (by omega)).told
end Go.Sy
