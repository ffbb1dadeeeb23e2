/- Pins, in their order: where a name stands; walks: the search for it. -/
import Derived.Test.YtmopmlnpoeeomaavaA5
import Derived.Test.YtmopmlnpoeeomaavE3
set_option linter.unusedVariables false
set_option linter.unusedSimpArgs false
namespace Go.Sy
open Go.Proofs
attribute [local irreducible] atCall HT runOps runD onC onE onO onG goV goA goS onSt onGuard
attribute [go_sem] capsV
theorem less_irrefl : ∀ x : List UInt8, Op.bytesLess x x = false
  | [] => rfl
  | a :: x => by
    have h : ¬ a < a := UInt8.lt_irrefl a
    simp [Op.bytesLess, h, less_irrefl x]
theorem less_trans : ∀ {x y z : List UInt8}, Op.bytesLess x y = true → Op.bytesLess y z = true → Op.bytesLess x z = true
  | _, _, [], _, h => by rw [less_nil] at h; cases h
  | _, [], _ :: _, h, _ => by rw [less_nil] at h; cases h
  | [], _ :: _, _ :: _, _, _ => rfl
  | a :: x, b :: y, c :: z, h1, h2 => by
    simp only [Op.bytesLess, Bool.or_eq_true, decide_eq_true_eq, Bool.and_eq_true, beq_iff_eq] at h1 h2 ⊢
    rcases h1 with h1 | ⟨rfl, h1⟩ <;> rcases h2 with h2 | ⟨rfl, h2⟩
    · exact .inl (UInt8.lt_trans h1 h2)
    · exact .inl h1
    · exact .inl h2
    · exact .inr ⟨rfl, less_trans h1 h2⟩
/-- pins that pass the check -/
def Srt (l : List PinD) : Prop := l.length ≤ 8 ∧ ∀ i j, i < j → j < l.length → Op.bytesLess (nameAt l i) (nameAt l j) = true
theorem srt_of {l : List PinD} (h : pinsFault l = 0) : Srt l := by
  obtain ⟨h8, hg⟩ := pinsFault_zero h
  have step : ∀ i, i + 1 < l.length → Op.bytesLess (nameAt l i) (nameAt l (i + 1)) = true := by
    intro i hi
    have := hg (i + 1) hi
    simp only [good, Bool.and_eq_true] at this; exact this.2
  refine ⟨h8, fun i j hij hj => ?_⟩
  induction j with
  | zero => omega
  | succ j ih =>
    by_cases e : i = j
    · subst e; exact step i hj
    · exact less_trans (ih (by omega) (by omega)) (step j hj)
/-- where a name stands, or would stand -/
def idxP (l : List PinD) (s : List UInt8) : Nat := (l.takeWhile fun p => Op.bytesLess p.name s).length
theorem idxP_le (l : List PinD) (s : List UInt8) : idxP l s ≤ l.length := List.Sublist.length_le (List.takeWhile_sublist _)
theorem idx_at : ∀ (l : List PinD) (s : List UInt8) (h : Nat), h < idxP l s → Op.bytesLess (nameAt l h) s = true
  | [], s, h, hh => by simp [idxP] at hh
  | p :: l, s, h, hh => by
    unfold idxP at hh
    rw [List.takeWhile_cons] at hh
    split at hh
    · rename_i hp
      cases h with
      | zero => simpa [nameAt] using hp
      | succ h =>
        have := idx_at l s h (by simpa [idxP] using hh)
        simpa [nameAt] using this
    · simp at hh
theorem idx_not : ∀ (l : List PinD) (s : List UInt8), idxP l s < l.length → Op.bytesLess (nameAt l (idxP l s)) s = false
  | [], s, hh => by simp at hh
  | p :: l, s, hh => by
    unfold idxP at hh ⊢
    rw [List.takeWhile_cons] at hh ⊢
    split
    · rename_i hp
      rw [if_pos hp] at hh
      have := idx_not l s (by simpa [idxP] using hh)
      simpa [nameAt, idxP] using this
    · rename_i hp
      simpa [nameAt] using hp
theorem idx_iff {l : List PinD} (hs : Srt l) (s : List UInt8) {h : Nat} (hh : h < l.length) : Op.bytesLess (nameAt l h) s = decide (h < idxP l s) := by
  by_cases h1 : h < idxP l s
  · rw [idx_at l s h h1]; simp [h1]
  · have hi : idxP l s < l.length := by omega
    have h0 := idx_not l s hi
    have h2 : decide (h < idxP l s) = false := by simpa using h1
    rw [h2]
    by_cases e : h = idxP l s
    · rw [e]; exact h0
    · cases h3 : Op.bytesLess (nameAt l h) s with
      | false => rfl
      | true =>
        have := less_trans (hs.2 (idxP l s) h (by omega) hh) h3
        rw [h0] at this; cases this
def hasP (l : List PinD) (s : List UInt8) : Bool := match l[idxP l s]? with
  | some p => decide (p.name = s)
  | none => false
def zeroPin : PinD := ⟨[], List.replicate 32 0, false⟩
def findP (l : List PinD) (s : List UInt8) : Int × PinD := if pinsFault l = 0 then match l.find? (fun p => decide (p.name = s)) with
  | some p => (0, p)
  | none => (5, zeroPin) else (pinsFault l, zeroPin)
theorem zeroPin_ok : zeroPin.ok := ⟨rfl, by decide⟩
theorem find_some {l : List PinD} {s : List UInt8} {i : Nat} {p : PinD} (hp : l[i]? = some p) (hs : p.name = s) (h : ∀ k, k < i → nameAt l k ≠ s) : l.find? (fun p => decide (p.name = s)) = some p := by
  induction l generalizing i with
  | nil => simp at hp
  | cons q l ih =>
    cases i with
    | zero => simp only [List.getElem?_cons_zero, Option.some.injEq] at hp; subst hp; simp [List.find?_cons, hs]
    | succ i =>
      have h0 := h 0 (by omega)
      simp only [nameAt, List.getElem?_cons_zero] at h0
      rw [List.find?_cons]
      simp only [h0, decide_false]
      exact ih (by simpa using hp) fun k hk => by have := h (k + 1) (by omega); simpa [nameAt] using this
theorem find_none {l : List PinD} {s : List UInt8} (h : ∀ k, k < l.length → nameAt l k ≠ s) : l.find? (fun p => decide (p.name = s)) = none := by
  rw [List.find?_eq_none]
  intro p hp
  obtain ⟨i, hi, e⟩ := List.mem_iff_getElem.mp hp
  have := h i hi
  rw [nameAt_eq (List.getElem?_eq_getElem hi), e] at this
  simpa using this
theorem name_ne_of {l : List PinD} (hs : Srt l) {s : List UInt8} {k : Nat} (hk : k < l.length) (h : k ≠ idxP l s) : nameAt l k ≠ s := by
  intro e
  rcases Nat.lt_or_gt_of_ne h with h1 | h1
  · have := idx_at l s k h1
    rw [e, less_irrefl] at this; cases this
  · have h2 := hs.2 (idxP l s) k h1 hk
    rw [e, idx_not l s (by omega)] at h2; cases h2
theorem find_has {l : List PinD} (hs : Srt l) {s : List UInt8} (h : hasP l s = true) : ∃ p, l[idxP l s]? = some p ∧ p.name = s ∧ idxP l s < l.length ∧ l.find? (fun p => decide (p.name = s)) = some p := by
  unfold hasP at h
  split at h
  · rename_i p hp
    have hlt := (List.getElem?_eq_some_iff.mp hp).1
    exact ⟨p, hp, by simpa using h, hlt, find_some hp (by simpa using h) fun k hk => name_ne_of hs (by omega) (by omega)⟩
  · cases h
theorem find_hasnt {l : List PinD} (hs : Srt l) {s : List UInt8} (h : hasP l s = false) : l.find? (fun p => decide (p.name = s)) = none := by
  refine find_none fun k hk => ?_
  by_cases e : k = idxP l s
  · subst e
    unfold hasP at h
    rw [List.getElem?_eq_getElem hk] at h
    rw [nameAt_eq (List.getElem?_eq_getElem hk)]
    simpa using h
  · exact name_ne_of hs hk e
theorem find_ok {l : List PinD} (hl : ∀ p ∈ l, p.ok) (s : List UInt8) : (findP l s).2.ok := by
  unfold findP
  split
  · split
    · rename_i p hp; exact hl p (List.mem_of_find?_eq_some hp)
    · exact zeroPin_ok
  · exact zeroPin_ok
theorem conv_half {i j : Nat} (h : i + j ≤ 16) : Go.RowKit.wrap64 ((shr64 (UInt64.ofNat (((i : Int) + (j : Int)) % 18446744073709551616).toNat) (UInt64.toNat 1)).toNat : Int) = (((i + j) / 2 : Nat) : Int) := by
  have e1 : UInt64.toNat 1 = 1 := rfl
  rw [e1]
  have : (((i : Int) + (j : Int)) % 18446744073709551616).toNat = i + j := by omega
  rw [this]
  have h2 : (shr64 (UInt64.ofNat (i + j)) 1).toNat = (i + j) / 2 := by
    unfold shr64
    have e : (UInt64.ofNat (i + j)).toNat = i + j := by rw [UInt64.toNat_ofNat']; omega
    rw [e, UInt64.toNat_ofNat']; omega
  rw [h2]
  exact w64 (by omega)
set_option maxHeartbeats 400000 in
theorem find_1 (l : List PinD) (hl : ∀ p ∈ l, p.ok) (ex : Bool) (s : List UInt8) (h : Nat) (hh : h < l.length) :
    Ct Try.prog 58 [.w (.one (.pl (.i (h : Int)))), .w (.one (.pl (.q [.R ex 34 (pinRows l)] []))), .w (.one (.pl (.q [.str s] [])))] (fun v m => v = .w (.one (.pl (.b (!Op.bytesLess (nameAt l h) s))))) := by
  obtain ⟨p, hp⟩ := get_lt hh
  have hg0 := pinRows_get hp
  have hpl := pinC_length (hl p (List.mem_of_getElem? hp)).1
  have hk := (hl p (List.mem_of_getElem? hp)).1
  have hna := nameAt_eq hp
  have hc1 : ((h : Nat) : Int) < ((l.length : Nat) : Int) := by omega
  have hc2 : (0 : Int) ≤ ((h : Nat) : Int) := by omega
  refine Ct.k Try.func58 rfl Try.ntmps58 (congrArg Array.toList Try.results58) (by simp) fun w0 ro => ?_
  refine seq_k fun N1 M1 hN1 hM1 => ?_
  refine region_k fun K2 hK2 => ?_
  simp only [go_sem, hg0, hk, hpl, hna, hc1, hc2, Int.toNat_natCast]
  all_goals repeat' (first | apply And.intro | intro _)
  all_goals
    refine hK2 _ ?_
    refine hN1 _ ?_
    refine seq_k fun N3 M3 hN3 hM3 => ?_
    refine draw_k [5, 6, 7, 8, 9, 10, 11, 4] [0, 0, 3, 7, 15, 0, 63, 127] [] mixed (by kernel_rfl) (by simp only [go_sem]) fun K4 hK4 => ?_
    simp only [go_sem, hg0, hk, hpl, hna, hc1, hc2, Int.toNat_natCast]
    all_goals repeat' (first | apply And.intro | intro _)
    all_goals
      refine hK4 _ _ ?_ ?_
      · first | trivial | (simp only [go_sem]; done) | (simp only [go_sem]; simp; done) | (simp only [go_sem]; simp; simp only [go_sem])
      refine hN3 _ ?_
      refine ret_k ?_
      simp only [go_sem, hg0, hk, hpl, hna, hc1, hc2, Int.toNat_natCast]
      all_goals rfl
set_option maxHeartbeats 800000 in
theorem search_ (l : List PinD) (hl : ∀ p ∈ l, p.ok) (ex : Bool) (s : List UInt8) (hs : Srt l) :
    CtM Try.prog 57 [.w (.one (.pl (.i (l.length : Int)))), .w (.one (.fn 58 [500000, 500001]))] [(500000, ⟨false, [.pl (.R ex 34 (pinRows l))]⟩), (500001, ⟨false, [.pl (.str s)]⟩)] (fun v m => v = .w (.one (.pl (.i (idxP l s : Nat)))) ∧ m = [(500000, ⟨false, [.pl (.R ex 34 (pinRows l))]⟩), (500001, ⟨false, [.pl (.str s)]⟩)]) := by
  refine CtM.k Try.func57 rfl Try.ntmps57 (congrArg Array.toList Try.results57) (by simp) fun w0 ro may fx => ?_
  refine seq_k fun N1 M1 hN1 hM1 => ?_
  refine region_k fun K2 hK2 => ?_
  simp only [go_sem]
  all_goals repeat' (first | apply And.intro | intro _)
  all_goals
    refine hK2 _ ?_
    refine hN1 _ ?_
    refine seq_k fun N3 M3 hN3 hM3 => ?_
    refine region_k fun K4 hK4 => ?_
    simp only [go_sem]
    all_goals repeat' (first | apply And.intro | intro _)
    all_goals
      refine hK4 _ ?_
      refine hN3 _ ?_
      refine seq_k fun N5 M5 hN5 hM5 => ?_
      refine block_k fun B6 bn6 bx6 br6 bi6 => ?_
      refine ht_dropE [0, 8] ?_
      simp only [dropE_mk, fgt_nil, fgt_cons, List.contains_cons, List.contains_nil, Nat.reduceBEq, beq_self_eq_true, Bool.or_false, Bool.or_true, Bool.true_or, Bool.false_or, Bool.false_eq_true, reduceIte]
      refine loop_k (fun y => [(5, .w (.one (.pl (.i (y.1.1 : Nat))))), (6, .w (.one (.pl (.i (y.1.2 : Nat)))))]) (fun _ => []) (fun y => y.1.2 - y.1.1) (⟨(0, l.length), Nat.zero_le _, idxP_le l s, Nat.le_refl _⟩ : {y : Nat × Nat // y.1 ≤ idxP l s ∧ idxP l s ≤ y.2 ∧ y.2 ≤ l.length}) ?_ ?_ ?_
      · (simp only [go_sem, leX, List.cons_append, List.nil_append]; try simp)
      · (simp only [go_sem, leX, List.cons_append, List.nil_append]; try simp)
      intro ⟨y, hy⟩ N7 M7 hN7 hM7
      simp only [List.cons_append, List.nil_append]
      obtain ⟨i, j⟩ := y
      dsimp only at hy
      have hd : (i < j ∧ (i + j) / 2 < idxP l s) ∨ (i < j ∧ ¬ (i + j) / 2 < idxP l s) ∨ i = j := by omega
      rcases hd with ⟨hij, hle⟩ | ⟨hij, hle⟩ | rfl
      · have h8 := hs.1
        have hmid : (i + j) / 2 < l.length := by omega
        have hlt : ((i : Nat) : Int) < ((j : Nat) : Int) := by omega
        have hi := idx_iff hs s hmid
        have hch := conv_half (i := i) (j := j) (by omega)
        obtain ⟨m, hm⟩ : ∃ m, (i + j) / 2 = m := ⟨_, rfl⟩
        rw [hm] at hch hmid hle hi
        have hi2 : Op.bytesLess (nameAt l m) s = true := by rw [hi]; simp [hle]
        obtain ⟨hw1, hw2⟩ : Go.RowKit.wrap64 (((i : Nat) : Int) + ((j : Nat) : Int)) = ((i : Nat) : Int) + ((j : Nat) : Int) ∧ Go.RowKit.wrap64 (((m : Nat) : Int) + 1) = ((m + 1 : Nat) : Int) := ⟨w64 (by omega), wnat (by omega) (by omega)⟩
        
        refine seq_k fun N8 M8 hN8 hM8 => ?_
        refine seq_k fun N9 M9 hN9 hM9 => ?_
        refine region_k fun K10 hK10 => ?_
        simp only [go_sem, hlt, hch, hi2, hw1, hw2, Bool.not_true, Bool.not_false]
        all_goals repeat' (first | apply And.intro | intro _)
        all_goals
          refine hK10 _ ?_
          refine hN9 _ ?_
          refine cond_k rfl (fun hc => ?_) (fun hc => ?_)
          · try simp only [go_sem, hlt, hch, hi2, hw1, hw2, Bool.not_true, Bool.not_false] at hc
            all_goals
              refine skip_k ?_
              refine hN8 _ ?_
              refine block_k fun B11 bn11 bx11 br11 bi11 => ?_
              refine seq_k fun N12 M12 hN12 hM12 => ?_
              refine region_k fun K13 hK13 => ?_
              simp only [go_sem, hlt, hch, hi2, hw1, hw2, Bool.not_true, Bool.not_false]
              all_goals repeat' (first | apply And.intro | intro _)
              all_goals
                refine hK13 _ ?_
                refine hN12 _ ?_
                refine seq_k fun N14 M14 hN14 hM14 => ?_
                refine region_k fun K15 hK15 => ?_
                simp only [go_sem, hlt, hch, hi2, hw1, hw2, Bool.not_true, Bool.not_false]
                all_goals repeat' (first | apply And.intro | intro _)
                all_goals refine call_viewfn (fun k => k) (by first | rfl | simp only [go_sem, hlt, hch, hi2, hw1, hw2, Bool.not_true, Bool.not_false]) (by first | rfl | (simp only [go_sem, viewC, hlt, hch, hi2, hw1, hw2, Bool.not_true, Bool.not_false]; rfl) | simp only [go_sem, viewC, hlt, hch, hi2, hw1, hw2, Bool.not_true, Bool.not_false]) (fun _ _ => rfl) (by first | rfl | (simp only [go_sem, hlt, hch, hi2, hw1, hw2, Bool.not_true, Bool.not_false]; rfl) | simp only [go_sem, hlt, hch, hi2, hw1, hw2, Bool.not_true, Bool.not_false]) ((find_1 l hl ex s m hmid).plain fun _ _ h => h) ?_
                all_goals (rintro v m ⟨hR, hm⟩; subst hR; subst hm)
                all_goals refine And.intro (by first | rfl | simp only [go_sem]) (And.intro (by first | rfl | simp only [go_sem]) ?_)
                all_goals simp only [go_sem, hlt, hch, hi2, hw1, hw2, Bool.not_true, Bool.not_false]
                all_goals repeat' (first | apply And.intro | intro _)
                all_goals
                  refine hK15 _ ?_
                  refine hN14 _ ?_
                  refine cond_k rfl (fun hc => ?_) (fun hc => ?_)
                  · try simp only [go_sem, hlt, hch, hi2, hw1, hw2, Bool.not_true, Bool.not_false] at hc
                    all_goals
                      refine region_k fun K16 hK16 => ?_
                      simp only [go_sem, hlt, hch, hi2, hw1, hw2, Bool.not_true, Bool.not_false]
                      all_goals repeat' (first | apply And.intro | intro _)
                      all_goals
                        refine hK16 _ ?_
                        refine bn11 _ ?_
                        refine hN7 ⟨(m + 1, j), by refine ⟨?_, ?_, ?_⟩ <;> dsimp only <;> omega⟩ _ ?_ ?_ ?_
                        · (dsimp only; clear hw1 hw2 hch; omega)
                        · (simp only [go_sem, leX, List.cons_append, List.nil_append]; try simp)
                        · (simp only [go_sem, leX, List.cons_append, List.nil_append]; try simp)
                  · exfalso; revert hc; simp [go_sem, hlt, hch, hi2, hw1, hw2, Bool.not_true, Bool.not_false]
          · exfalso; revert hc; simp [go_sem, hlt, hch, hi2, hw1, hw2, Bool.not_true, Bool.not_false]
      · have h8 := hs.1
        have hmid : (i + j) / 2 < l.length := by omega
        have hlt : ((i : Nat) : Int) < ((j : Nat) : Int) := by omega
        have hi := idx_iff hs s hmid
        have hch := conv_half (i := i) (j := j) (by omega)
        obtain ⟨m, hm⟩ : ∃ m, (i + j) / 2 = m := ⟨_, rfl⟩
        rw [hm] at hch hmid hle hi
        have hi2 : Op.bytesLess (nameAt l m) s = false := by rw [hi]; simp [hle]
        obtain ⟨hw1, hw2⟩ : Go.RowKit.wrap64 (((i : Nat) : Int) + ((j : Nat) : Int)) = ((i : Nat) : Int) + ((j : Nat) : Int) ∧ Go.RowKit.wrap64 (((m : Nat) : Int) + 1) = ((m + 1 : Nat) : Int) := ⟨w64 (by omega), wnat (by omega) (by omega)⟩
        
        refine seq_k fun N17 M17 hN17 hM17 => ?_
        refine seq_k fun N18 M18 hN18 hM18 => ?_
        refine region_k fun K19 hK19 => ?_
        simp only [go_sem, hlt, hch, hi2, hw1, hw2, Bool.not_true, Bool.not_false]
        all_goals repeat' (first | apply And.intro | intro _)
        all_goals
          refine hK19 _ ?_
          refine hN18 _ ?_
          refine cond_k rfl (fun hc => ?_) (fun hc => ?_)
          · try simp only [go_sem, hlt, hch, hi2, hw1, hw2, Bool.not_true, Bool.not_false] at hc
            all_goals
              refine skip_k ?_
              refine hN17 _ ?_
              refine block_k fun B20 bn20 bx20 br20 bi20 => ?_
              refine seq_k fun N21 M21 hN21 hM21 => ?_
              refine region_k fun K22 hK22 => ?_
              simp only [go_sem, hlt, hch, hi2, hw1, hw2, Bool.not_true, Bool.not_false]
              all_goals repeat' (first | apply And.intro | intro _)
              all_goals
                refine hK22 _ ?_
                refine hN21 _ ?_
                refine seq_k fun N23 M23 hN23 hM23 => ?_
                refine region_k fun K24 hK24 => ?_
                simp only [go_sem, hlt, hch, hi2, hw1, hw2, Bool.not_true, Bool.not_false]
                all_goals repeat' (first | apply And.intro | intro _)
                all_goals refine call_viewfn (fun k => k) (by first | rfl | simp only [go_sem, hlt, hch, hi2, hw1, hw2, Bool.not_true, Bool.not_false]) (by first | rfl | (simp only [go_sem, viewC, hlt, hch, hi2, hw1, hw2, Bool.not_true, Bool.not_false]; rfl) | simp only [go_sem, viewC, hlt, hch, hi2, hw1, hw2, Bool.not_true, Bool.not_false]) (fun _ _ => rfl) (by first | rfl | (simp only [go_sem, hlt, hch, hi2, hw1, hw2, Bool.not_true, Bool.not_false]; rfl) | simp only [go_sem, hlt, hch, hi2, hw1, hw2, Bool.not_true, Bool.not_false]) ((find_1 l hl ex s m hmid).plain fun _ _ h => h) ?_
                all_goals (rintro v m ⟨hR, hm⟩; subst hR; subst hm)
                all_goals refine And.intro (by first | rfl | simp only [go_sem]) (And.intro (by first | rfl | simp only [go_sem]) ?_)
                all_goals simp only [go_sem, hlt, hch, hi2, hw1, hw2, Bool.not_true, Bool.not_false]
                all_goals repeat' (first | apply And.intro | intro _)
                all_goals
                  refine hK24 _ ?_
                  refine hN23 _ ?_
                  refine cond_k rfl (fun hc => ?_) (fun hc => ?_)
                  · exfalso; revert hc; simp [go_sem, hlt, hch, hi2, hw1, hw2, Bool.not_true, Bool.not_false]
                  · try simp only [go_sem, hlt, hch, hi2, hw1, hw2, Bool.not_true, Bool.not_false] at hc
                    all_goals
                      refine region_k fun K25 hK25 => ?_
                      simp only [go_sem, hlt, hch, hi2, hw1, hw2, Bool.not_true, Bool.not_false]
                      all_goals repeat' (first | apply And.intro | intro _)
                      all_goals
                        refine hK25 _ ?_
                        refine bn20 _ ?_
                        refine hN7 ⟨(i, m), by refine ⟨?_, ?_, ?_⟩ <;> dsimp only <;> omega⟩ _ ?_ ?_ ?_
                        · (dsimp only; clear hw1 hw2 hch; omega)
                        · (simp only [go_sem, leX, List.cons_append, List.nil_append]; try simp)
                        · (simp only [go_sem, leX, List.cons_append, List.nil_append]; try simp)
          · exfalso; revert hc; simp [go_sem, hlt, hch, hi2, hw1, hw2, Bool.not_true, Bool.not_false]
      · have hlt : ¬ ((i : Nat) : Int) < ((i : Nat) : Int) := by omega
        have hfin : i = idxP l s := by omega
        refine seq_k fun N26 M26 hN26 hM26 => ?_
        refine seq_k fun N27 M27 hN27 hM27 => ?_
        refine region_k fun K28 hK28 => ?_
        simp only [go_sem, hlt]
        all_goals repeat' (first | apply And.intro | intro _)
        all_goals
          refine hK28 _ ?_
          refine hN27 _ ?_
          refine cond_k rfl (fun hc => ?_) (fun hc => ?_)
          · exfalso; revert hc; simp [go_sem, hlt]
          · try simp only [go_sem, hlt] at hc
            all_goals
              refine exit_k ?_
              refine hM26 _ _ ?_
              refine hM7 _ _ ?_
              refine bx6 _ ?_
              refine hN5 _ ?_
              refine seq_k fun N29 M29 hN29 hM29 => ?_
              refine region_k fun K30 hK30 => ?_
              simp only [go_sem, hlt]
              all_goals repeat' (first | apply And.intro | intro _)
              all_goals
                refine hK30 _ ?_
                refine hN29 _ ?_
                refine ret_k ?_
                simp only [go_sem, hlt]
                all_goals (rw [hfin]; try exact ⟨rfl, rfl⟩)
set_option maxHeartbeats 800000 in
theorem find_has_ (l : List PinD) (hl : ∀ p ∈ l, p.ok) (ex : Bool) (s : List UInt8) (hs : Srt l) (p : PinD) (hp : l[idxP l s]? = some p) (hx : p.name = s) :
    Ct Try.prog 45 [.w (.one (.pl (.R ex 34 (pinRows l)))), .w (.one (.pl (.str s)))] (fun v m => v = .tup [.one (.pl (.i (idxP l s : Nat))), .one (.pl (.b true))]) := by
  have hlt := (List.getElem?_eq_some_iff.mp hp).1
  have hg0 := pinRows_get hp
  have hk := (hl p (List.mem_of_getElem? hp)).1
  have hpl := pinC_length hk
  have hc1 : ((idxP l s : Nat) : Int) < ((l.length : Nat) : Int) := by omega
  have hc2 : (0 : Int) ≤ ((idxP l s : Nat) : Int) := by omega
  refine Ct.k Try.func45 rfl Try.ntmps45 (congrArg Array.toList Try.results45) (by simp) fun w0 ro => ?_
  refine seq_k fun N1 M1 hN1 hM1 => ?_
  refine region_k fun K2 hK2 => ?_
  simp only [go_sem, hg0, hk, hpl, hc1, hc2, Int.toNat_natCast, hx, decide_true, decide_false]
  all_goals repeat' (first | apply And.intro | intro _)
  all_goals
    refine hK2 _ ?_
    refine hN1 _ ?_
    refine seq_k fun N3 M3 hN3 hM3 => ?_
    refine region_k fun K4 hK4 => ?_
    simp only [go_sem, hg0, hk, hpl, hc1, hc2, Int.toNat_natCast, hx, decide_true, decide_false]
    all_goals repeat' (first | apply And.intro | intro _)
    all_goals (refine call_hand false [(500000, 2), (500001, 3)] (fun k => k) (fun _ _ => rfl) ?_ (by decide) ?_ (search_ l hl ex s hs) ?_; (focus ( first | rfl | (simp only [go_sem, valsIn, valIn, leafIn, leavesIn, nameIn, capsIn, handOk, hg0, hk, hpl, hc1, hc2, Int.toNat_natCast, hx, decide_true, decide_false] <;> done) | (simp only [go_sem, valsIn, valIn, leafIn, leavesIn, nameIn, capsIn, handOk, hg0, hk, hpl, hc1, hc2, Int.toNat_natCast, hx, decide_true, decide_false] <;> rfl) | (simp only [go_sem, valsIn, valIn, leafIn, leavesIn, nameIn, capsIn, handOk, hg0, hk, hpl, hc1, hc2, Int.toNat_natCast, hx, decide_true, decide_false] <;> simp))); (focus ( first | rfl | (simp only [go_sem, valsIn, valIn, leafIn, leavesIn, nameIn, capsIn, handOk, hg0, hk, hpl, hc1, hc2, Int.toNat_natCast, hx, decide_true, decide_false] <;> done) | (simp only [go_sem, valsIn, valIn, leafIn, leavesIn, nameIn, capsIn, handOk, hg0, hk, hpl, hc1, hc2, Int.toNat_natCast, hx, decide_true, decide_false] <;> rfl) | (simp only [go_sem, valsIn, valIn, leafIn, leavesIn, nameIn, capsIn, handOk, hg0, hk, hpl, hc1, hc2, Int.toNat_natCast, hx, decide_true, decide_false] <;> simp))))
    all_goals (rintro v m ⟨hR, hm⟩; subst hR; subst hm)
    all_goals refine And.intro (by (first | rfl | (simp only [go_sem, leafOutV, leafOutW, leafOut, okN, outOk, inv, hg0, hk, hpl, hc1, hc2, Int.toNat_natCast, hx, decide_true, decide_false]; done) | (simp [go_sem, leafOutV, leafOutW, leafOut, okN, outOk, inv, look, hg0, hk, hpl, hc1, hc2, Int.toNat_natCast, hx, decide_true, decide_false]; done))) (And.intro (by (first | rfl | (simp only [go_sem, leafOutV, leafOutW, leafOut, okN, outOk, inv, hg0, hk, hpl, hc1, hc2, Int.toNat_natCast, hx, decide_true, decide_false]; done) | (simp [go_sem, leafOutV, leafOutW, leafOut, okN, outOk, inv, look, hg0, hk, hpl, hc1, hc2, Int.toNat_natCast, hx, decide_true, decide_false]; done))) (And.intro (by (first | rfl | (simp only [go_sem, leafOutV, leafOutW, leafOut, okN, outOk, inv, hg0, hk, hpl, hc1, hc2, Int.toNat_natCast, hx, decide_true, decide_false]; done) | (simp [go_sem, leafOutV, leafOutW, leafOut, okN, outOk, inv, look, hg0, hk, hpl, hc1, hc2, Int.toNat_natCast, hx, decide_true, decide_false]; done))) ?_))
    all_goals (try simp only [go_sem, backM, outN, nameOut, Ob.ren, V.ren, W.ren, L.ren, setM, hg0, hk, hpl, hc1, hc2, Int.toNat_natCast, hx, decide_true, decide_false])
    all_goals (try simp only [go_sem, hg0, hk, hpl, hc1, hc2, Int.toNat_natCast, hx, decide_true, decide_false])
    all_goals repeat' (first | apply And.intro | intro _)
    all_goals
      refine hK4 _ ?_
      refine hN3 _ ?_
      refine seq_k fun N5 M5 hN5 hM5 => ?_
      refine draw_k [11, 12, 13, 14, 15, 16, 17, 18, 19, 20, 21, 22, 23, 24, 4, 5] [0, 0, 0, 4, 14, 30, 62, 62, 254, 510, 1022, 62, 4094, 8190, 63, 32767] [] mixed (by kernel_rfl) (by simp only [go_sem]) fun K6 hK6 => ?_
      simp only [go_sem, hg0, hk, hpl, hc1, hc2, Int.toNat_natCast, hx, decide_true, decide_false]
      all_goals repeat' (first | apply And.intro | intro _)
      all_goals
        refine hK6 _ _ ?_ ?_
        · first | trivial | (simp only [go_sem]; done) | (simp only [go_sem]; simp; done) | (simp only [go_sem]; simp; simp only [go_sem])
        refine hN5 _ ?_
        refine ret_k ?_
        simp only [go_sem, hg0, hk, hpl, hc1, hc2, Int.toNat_natCast, hx, decide_true, decide_false]
        all_goals rfl
set_option maxHeartbeats 800000 in
theorem find_no_ (l : List PinD) (hl : ∀ p ∈ l, p.ok) (ex : Bool) (s : List UInt8) (hs : Srt l) (p : PinD) (hp : l[idxP l s]? = some p) (hx : ¬ p.name = s) :
    Ct Try.prog 45 [.w (.one (.pl (.R ex 34 (pinRows l)))), .w (.one (.pl (.str s)))] (fun v m => v = .tup [.one (.pl (.i (idxP l s : Nat))), .one (.pl (.b false))]) := by
  have hlt := (List.getElem?_eq_some_iff.mp hp).1
  have hg0 := pinRows_get hp
  have hk := (hl p (List.mem_of_getElem? hp)).1
  have hpl := pinC_length hk
  have hc1 : ((idxP l s : Nat) : Int) < ((l.length : Nat) : Int) := by omega
  have hc2 : (0 : Int) ≤ ((idxP l s : Nat) : Int) := by omega
  refine Ct.k Try.func45 rfl Try.ntmps45 (congrArg Array.toList Try.results45) (by simp) fun w0 ro => ?_
  refine seq_k fun N1 M1 hN1 hM1 => ?_
  refine region_k fun K2 hK2 => ?_
  simp only [go_sem, hg0, hk, hpl, hc1, hc2, Int.toNat_natCast, hx, decide_true, decide_false]
  all_goals repeat' (first | apply And.intro | intro _)
  all_goals
    refine hK2 _ ?_
    refine hN1 _ ?_
    refine seq_k fun N3 M3 hN3 hM3 => ?_
    refine region_k fun K4 hK4 => ?_
    simp only [go_sem, hg0, hk, hpl, hc1, hc2, Int.toNat_natCast, hx, decide_true, decide_false]
    all_goals repeat' (first | apply And.intro | intro _)
    all_goals (refine call_hand false [(500000, 2), (500001, 3)] (fun k => k) (fun _ _ => rfl) ?_ (by decide) ?_ (search_ l hl ex s hs) ?_; (focus ( first | rfl | (simp only [go_sem, valsIn, valIn, leafIn, leavesIn, nameIn, capsIn, handOk, hg0, hk, hpl, hc1, hc2, Int.toNat_natCast, hx, decide_true, decide_false] <;> done) | (simp only [go_sem, valsIn, valIn, leafIn, leavesIn, nameIn, capsIn, handOk, hg0, hk, hpl, hc1, hc2, Int.toNat_natCast, hx, decide_true, decide_false] <;> rfl) | (simp only [go_sem, valsIn, valIn, leafIn, leavesIn, nameIn, capsIn, handOk, hg0, hk, hpl, hc1, hc2, Int.toNat_natCast, hx, decide_true, decide_false] <;> simp))); (focus ( first | rfl | (simp only [go_sem, valsIn, valIn, leafIn, leavesIn, nameIn, capsIn, handOk, hg0, hk, hpl, hc1, hc2, Int.toNat_natCast, hx, decide_true, decide_false] <;> done) | (simp only [go_sem, valsIn, valIn, leafIn, leavesIn, nameIn, capsIn, handOk, hg0, hk, hpl, hc1, hc2, Int.toNat_natCast, hx, decide_true, decide_false] <;> rfl) | (simp only [go_sem, valsIn, valIn, leafIn, leavesIn, nameIn, capsIn, handOk, hg0, hk, hpl, hc1, hc2, Int.toNat_natCast, hx, decide_true, decide_false] <;> simp))))
    all_goals (rintro v m ⟨hR, hm⟩; subst hR; subst hm)
    all_goals refine And.intro (by (first | rfl | (simp only [go_sem, leafOutV, leafOutW, leafOut, okN, outOk, inv, hg0, hk, hpl, hc1, hc2, Int.toNat_natCast, hx, decide_true, decide_false]; done) | (simp [go_sem, leafOutV, leafOutW, leafOut, okN, outOk, inv, look, hg0, hk, hpl, hc1, hc2, Int.toNat_natCast, hx, decide_true, decide_false]; done))) (And.intro (by (first | rfl | (simp only [go_sem, leafOutV, leafOutW, leafOut, okN, outOk, inv, hg0, hk, hpl, hc1, hc2, Int.toNat_natCast, hx, decide_true, decide_false]; done) | (simp [go_sem, leafOutV, leafOutW, leafOut, okN, outOk, inv, look, hg0, hk, hpl, hc1, hc2, Int.toNat_natCast, hx, decide_true, decide_false]; done))) (And.intro (by (first | rfl | (simp only [go_sem, leafOutV, leafOutW, leafOut, okN, outOk, inv, hg0, hk, hpl, hc1, hc2, Int.toNat_natCast, hx, decide_true, decide_false]; done) | (simp [go_sem, leafOutV, leafOutW, leafOut, okN, outOk, inv, look, hg0, hk, hpl, hc1, hc2, Int.toNat_natCast, hx, decide_true, decide_false]; done))) ?_))
    all_goals (try simp only [go_sem, backM, outN, nameOut, Ob.ren, V.ren, W.ren, L.ren, setM, hg0, hk, hpl, hc1, hc2, Int.toNat_natCast, hx, decide_true, decide_false])
    all_goals (try simp only [go_sem, hg0, hk, hpl, hc1, hc2, Int.toNat_natCast, hx, decide_true, decide_false])
    all_goals repeat' (first | apply And.intro | intro _)
    all_goals
      refine hK4 _ ?_
      refine hN3 _ ?_
      refine seq_k fun N5 M5 hN5 hM5 => ?_
      refine draw_k [11, 12, 13, 14, 15, 16, 17, 18, 19, 20, 21, 22, 23, 24, 4, 5] [0, 0, 0, 4, 14, 30, 62, 62, 254, 510, 1022, 62, 4094, 8190, 63, 32767] [] mixed (by kernel_rfl) (by simp only [go_sem]) fun K6 hK6 => ?_
      simp only [go_sem, hg0, hk, hpl, hc1, hc2, Int.toNat_natCast, hx, decide_true, decide_false]
      all_goals repeat' (first | apply And.intro | intro _)
      all_goals
        refine hK6 _ _ ?_ ?_
        · first | trivial | (simp only [go_sem]; done) | (simp only [go_sem]; simp; done) | (simp only [go_sem]; simp; simp only [go_sem])
        refine hN5 _ ?_
        refine ret_k ?_
        simp only [go_sem, hg0, hk, hpl, hc1, hc2, Int.toNat_natCast, hx, decide_true, decide_false]
        all_goals rfl
set_option maxHeartbeats 800000 in
theorem find_end_ (l : List PinD) (hl : ∀ p ∈ l, p.ok) (ex : Bool) (s : List UInt8) (hs : Srt l) (hx : idxP l s = l.length) :
    Ct Try.prog 45 [.w (.one (.pl (.R ex 34 (pinRows l)))), .w (.one (.pl (.str s)))] (fun v m => v = .tup [.one (.pl (.i (idxP l s : Nat))), .one (.pl (.b false))]) := by
  have hc1 : ¬ ((l.length : Nat) : Int) < ((l.length : Nat) : Int) := by omega
  refine Ct.k Try.func45 rfl Try.ntmps45 (congrArg Array.toList Try.results45) (by simp) fun w0 ro => ?_
  refine seq_k fun N1 M1 hN1 hM1 => ?_
  refine region_k fun K2 hK2 => ?_
  simp only [go_sem, hc1, hx, decide_true, decide_false]
  all_goals repeat' (first | apply And.intro | intro _)
  all_goals
    refine hK2 _ ?_
    refine hN1 _ ?_
    refine seq_k fun N3 M3 hN3 hM3 => ?_
    refine region_k fun K4 hK4 => ?_
    simp only [go_sem, hc1, hx, decide_true, decide_false]
    all_goals repeat' (first | apply And.intro | intro _)
    all_goals (refine call_hand false [(500000, 2), (500001, 3)] (fun k => k) (fun _ _ => rfl) ?_ (by decide) ?_ (search_ l hl ex s hs) ?_; (focus ( first | rfl | (simp only [go_sem, valsIn, valIn, leafIn, leavesIn, nameIn, capsIn, handOk, hc1, hx, decide_true, decide_false] <;> done) | (simp only [go_sem, valsIn, valIn, leafIn, leavesIn, nameIn, capsIn, handOk, hc1, hx, decide_true, decide_false] <;> rfl) | (simp only [go_sem, valsIn, valIn, leafIn, leavesIn, nameIn, capsIn, handOk, hc1, hx, decide_true, decide_false] <;> simp))); (focus ( first | rfl | (simp only [go_sem, valsIn, valIn, leafIn, leavesIn, nameIn, capsIn, handOk, hc1, hx, decide_true, decide_false] <;> done) | (simp only [go_sem, valsIn, valIn, leafIn, leavesIn, nameIn, capsIn, handOk, hc1, hx, decide_true, decide_false] <;> rfl) | (simp only [go_sem, valsIn, valIn, leafIn, leavesIn, nameIn, capsIn, handOk, hc1, hx, decide_true, decide_false] <;> simp))))
    all_goals (rintro v m ⟨hR, hm⟩; subst hR; subst hm)
    all_goals refine And.intro (by (first | rfl | (simp only [go_sem, leafOutV, leafOutW, leafOut, okN, outOk, inv, hc1, hx, decide_true, decide_false]; done) | (simp [go_sem, leafOutV, leafOutW, leafOut, okN, outOk, inv, look, hc1, hx, decide_true, decide_false]; done))) (And.intro (by (first | rfl | (simp only [go_sem, leafOutV, leafOutW, leafOut, okN, outOk, inv, hc1, hx, decide_true, decide_false]; done) | (simp [go_sem, leafOutV, leafOutW, leafOut, okN, outOk, inv, look, hc1, hx, decide_true, decide_false]; done))) (And.intro (by (first | rfl | (simp only [go_sem, leafOutV, leafOutW, leafOut, okN, outOk, inv, hc1, hx, decide_true, decide_false]; done) | (simp [go_sem, leafOutV, leafOutW, leafOut, okN, outOk, inv, look, hc1, hx, decide_true, decide_false]; done))) ?_))
    all_goals (try simp only [go_sem, backM, outN, nameOut, Ob.ren, V.ren, W.ren, L.ren, setM, hc1, hx, decide_true, decide_false])
    all_goals (try simp only [go_sem, hc1, hx, decide_true, decide_false])
    all_goals repeat' (first | apply And.intro | intro _)
    all_goals
      refine hK4 _ ?_
      refine hN3 _ ?_
      refine seq_k fun N5 M5 hN5 hM5 => ?_
      refine draw_k [11, 12, 13, 14, 15, 16, 17, 18, 19, 20, 21, 22, 23, 24, 4, 5] [0, 0, 0, 4, 14, 30, 62, 62, 254, 510, 1022, 62, 4094, 8190, 63, 32767] [] mixed (by kernel_rfl) (by simp only [go_sem]) fun K6 hK6 => ?_
      simp only [go_sem, hc1, hx, decide_true, decide_false]
      all_goals repeat' (first | apply And.intro | intro _)
      all_goals
        refine hK6 _ _ ?_ ?_
        · first | trivial | (simp only [go_sem]; done) | (simp only [go_sem]; simp; done) | (simp only [go_sem]; simp; simp only [go_sem])
        refine hN5 _ ?_
        refine ret_k ?_
        simp only [go_sem, hc1, hx, decide_true, decide_false]
        all_goals rfl
theorem find_ (l : List PinD) (hl : ∀ p ∈ l, p.ok) (ex : Bool) (s : List UInt8) (hs : Srt l) : Ct Try.prog 45 [.w (.one (.pl (.R ex 34 (pinRows l)))), .w (.one (.pl (.str s)))] (fun v m => v = .tup [.one (.pl (.i (idxP l s : Nat))), .one (.pl (.b (hasP l s)))]) := by
  rcases Nat.lt_or_ge (idxP l s) l.length with h | h
  · obtain ⟨p, hp⟩ := get_lt h
    by_cases hx : p.name = s
    · have e : hasP l s = true := by simp [hasP, hp, hx]
      rw [e]; exact find_has_ l hl ex s hs p hp hx
    · have e : hasP l s = false := by simp [hasP, hp, hx]
      rw [e]; exact find_no_ l hl ex s hs p hp hx
  · have hx : idxP l s = l.length := Nat.le_antisymm (idxP_le l s) h
    have e : hasP l s = false := by simp [hasP, hx]
    rw [e]; exact find_end_ l hl ex s hs hx
end Go.Sy
