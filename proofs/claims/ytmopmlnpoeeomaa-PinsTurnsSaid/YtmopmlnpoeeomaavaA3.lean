/- Pins, in plain lists; walks: names, the check of pins. -/
import Derived.Test.YtmopmlnpoeeomaavaT
import Derived.Test.YtmopmlnpoeeomaavE3
set_option linter.unusedVariables false
set_option linter.unusedSimpArgs false
namespace Go.Sy
open Go.Proofs
attribute [local irreducible] atCall HT runOps runD onC onE onO onG goV goA goS onSt onGuard
structure PinD where
  name : List UInt8
  key : List UInt8
  gone : Bool
  deriving DecidableEq
def PinD.ok (p : PinD) : Prop := p.key.length = 32 ∧ p.name.length ≤ 9223372036854775807
def pinC (p : PinD) : List PL := .str p.name :: (p.key.map .u8 ++ [.b p.gone])
theorem pls_pinC (p : PinD) : pls (pinC p) = .pl (.str p.name) :: (bytesC p.key ++ [.pl (.b p.gone)]) := by simp [pls, pinC, bytesC]
theorem pinC_length {p : PinD} (h : p.key.length = 32) : (pinC p).length = 34 := by simp [pinC, h]
theorem getD_map {α β : Type} {f : α → β} {l : List α} {i : Nat} {p : α} {d : β} (h : l[i]? = some p) : (l.map f).getD i d = f p := by
  rw [List.getD_eq_getElem?_getD, List.getElem?_map, h]; rfl
def nameOk (s : List UInt8) : Bool := decide (1 ≤ s.length ∧ s.length ≤ 16)
def nameAt (l : List PinD) (i : Nat) : List UInt8 := match l[i]? with
  | some p => p.name
  | none => []
def good (l : List PinD) : Nat → Bool
  | 0 => nameOk (nameAt l 0)
  | i + 1 => nameOk (nameAt l (i + 1)) && Op.bytesLess (nameAt l i) (nameAt l (i + 1))
def pinsOk (l : List PinD) : Bool := (List.range l.length).all (good l)
def pinsFault (l : List PinD) : Int := if 8 < l.length then 1 else if pinsOk l = true then 0 else 9
theorem nameAt_eq {l : List PinD} {i : Nat} {p : PinD} (h : l[i]? = some p) : nameAt l i = p.name := by simp [nameAt, h]
theorem pinsFault_size {l : List PinD} (h : 8 < l.length) : pinsFault l = 1 := if_pos h
theorem pinsFault_ok {l : List PinD} (h : ¬ 8 < l.length) (hg : ∀ j, j < l.length → good l j = true) : pinsFault l = 0 := by
  unfold pinsFault
  rw [if_neg h, if_pos]
  simp only [pinsOk, List.all_eq_true, List.mem_range]; exact hg
theorem pinsFault_bad {l : List PinD} {i : Nat} (h : ¬ 8 < l.length) (hi : i < l.length) (hg : good l i = false) : pinsFault l = 9 := by
  unfold pinsFault
  rw [if_neg h, if_neg]
  intro hc
  simp only [pinsOk, List.all_eq_true, List.mem_range] at hc
  rw [hc i hi] at hg; cases hg
theorem pinsFault_zero {l : List PinD} (h : pinsFault l = 0) : l.length ≤ 8 ∧ ∀ j, j < l.length → good l j = true := by
  unfold pinsFault at h
  split at h
  · cases h
  · rename_i h8
    split at h
    · rename_i hc
      simp only [pinsOk, List.all_eq_true, List.mem_range] at hc
      exact ⟨by omega, hc⟩
    · cases h
theorem good_name {l : List PinD} {i : Nat} {p : PinD} (h : l[i]? = some p) (hg : good l i = true) : nameOk p.name = true := by
  cases i with
  | zero => simpa [good, nameAt_eq h] using hg
  | succ i => simp only [good, nameAt_eq h, Bool.and_eq_true] at hg; exact hg.1
theorem get_lt {α : Type} {l : List α} {i : Nat} (h : i < l.length) : ∃ p, l[i]? = some p := ⟨_, List.getElem?_eq_getElem h⟩
theorem less_nil (x : List UInt8) : Op.bytesLess x [] = false := by cases x <;> rfl
theorem less_total : ∀ x y : List UInt8, (Op.bytesLess x y || decide (x = y)) = !Op.bytesLess y x
  | [], [] => by simp [Op.bytesLess]
  | [], _ :: _ => by simp [Op.bytesLess]
  | _ :: _, [] => by simp [Op.bytesLess]
  | a :: x, b :: y => by
    have ih := less_total x y
    simp only [Op.bytesLess]
    by_cases h1 : a < b
    · have h2 : ¬ b < a := UInt8.lt_asymm h1
      have h3 : ¬ b = a := fun e => by subst e; exact h2 h1
      simp [h1, h2, h3]
    · by_cases h2 : b < a
      · have h3 : ¬ a = b := fun e => by subst e; exact h1 h2
        simp [h1, h2, h3]
      · have h3 : a = b := UInt8.le_antisymm (UInt8.not_lt.mp h2) (UInt8.not_lt.mp h1)
        subst h3
        simp only [h1, decide_false, Bool.false_or, beq_self_eq_true, Bool.true_and, List.cons.injEq, true_and]
        exact ih
attribute [go_sem] pinC less_nil
set_option maxHeartbeats 400000 in
theorem name_ (s : List UInt8) :
    Ct Try.prog 44 [.w (.one (.pl (.str s)))] (fun v m => v = .w (.one (.pl (.b (nameOk s))))) := by
  refine Ct.k Try.func44 rfl Try.ntmps44 (congrArg Array.toList Try.results44) (by simp) fun w0 ro => ?_
  refine seq_k fun N1 M1 hN1 hM1 => ?_
  refine region_k fun K2 hK2 => ?_
  simp only [go_sem]
  all_goals repeat' (first | apply And.intro | intro _)
  all_goals
    refine hK2 _ ?_
    refine hN1 _ ?_
    refine seq_k fun N3 M3 hN3 hM3 => ?_
    refine region_k fun K4 hK4 => ?_
    simp only [go_sem]
    all_goals repeat' (first | apply And.intro | intro _)
    all_goals
      refine hK4 _ ?_
      refine hN3 _ ?_
      refine ret_k ?_
      simp only [go_sem]
      all_goals (refine congrArg (fun x => V.w (W.one (L.pl (PL.b x)))) ?_; rw [Bool.eq_iff_iff]; simp [nameOk]; omega)
set_option maxHeartbeats 400000 in
theorem up_to3 (a b : Int) :
    Ct Try.prog 40 [.w (.one (.pl (.i a))), .w (.one (.pl (.i b)))] (fun v m => v = .w (.one (.pl (.b (decide (0 ≤ a ∧ a ≤ b)))))) := by
  refine Ct.k Try.func40 rfl Try.ntmps40 (congrArg Array.toList Try.results40) (by simp) fun w0 ro => ?_
  refine seq_k fun N1 M1 hN1 hM1 => ?_
  refine region_k fun K2 hK2 => ?_
  simp only [go_sem]
  all_goals repeat' (first | apply And.intro | intro _)
  all_goals
    refine hK2 _ ?_
    refine hN1 _ ?_
    refine seq_k fun N3 M3 hN3 hM3 => ?_
    refine region_k fun K4 hK4 => ?_
    simp only [go_sem]
    all_goals repeat' (first | apply And.intro | intro _)
    all_goals
      refine hK4 _ ?_
      refine hN3 _ ?_
      refine ret_k ?_
      simp only [go_sem]
      all_goals (refine congrArg (fun x => V.w (W.one (L.pl (PL.b x)))) ?_; simp; try omega)
set_option maxHeartbeats 400000 in
theorem is_name (s : List UInt8) (hs : s.length ≤ 9223372036854775807) :
    Ct Try.prog 46 [.w (.one (.pl (.str s)))] (fun v m => v = .w (.one (.pl (.b (nameOk s))))) := by
  refine Ct.k Try.func46 rfl Try.ntmps46 (congrArg Array.toList Try.results46) (by simp) fun w0 ro => ?_
  refine seq_k fun N1 M1 hN1 hM1 => ?_
  refine region_k fun K2 hK2 => ?_
  (try simp only [go_sem]); (repeat (simp (disch := (first | omega | (simp only [List.length_append, List.length_cons, List.length_nil, List.length_map, bytesC_length]; omega))) only [w64, ipos, ineg, bin_add_str2]; try simp only [go_sem]))
  all_goals repeat' (first | apply And.intro | intro _)
  all_goals
    refine hK2 _ ?_
    refine hN1 _ ?_
    refine seq_k fun N3 M3 hN3 hM3 => ?_
    refine region_k fun K4 hK4 => ?_
    (try simp only [go_sem]); (repeat (simp (disch := (first | omega | (simp only [List.length_append, List.length_cons, List.length_nil, List.length_map, bytesC_length]; omega))) only [w64, ipos, ineg, bin_add_str2]; try simp only [go_sem]))
    all_goals repeat' (first | apply And.intro | intro _)
    all_goals refine call_view (fun k => k) (fun _ _ => rfl) (by first | rfl | (simp only [go_sem]; rfl) | simp only [go_sem]) ((up_to3 _ _).plain fun _ _ h => h) ?_
    all_goals (rintro v m ⟨hR, hm⟩; subst hR; subst hm)
    all_goals refine And.intro (by first | rfl | simp only [go_sem]) (And.intro (by first | rfl | simp only [go_sem]) ?_)
    all_goals (try simp only [go_sem]); (repeat (simp (disch := (first | omega | (simp only [List.length_append, List.length_cons, List.length_nil, List.length_map, bytesC_length]; omega))) only [w64, ipos, ineg, bin_add_str2]; try simp only [go_sem]))
    all_goals repeat' (first | apply And.intro | intro _)
    all_goals
      refine hK4 _ ?_
      refine hN3 _ ?_
      refine ret_k ?_
      (try simp only [go_sem]); (repeat (simp (disch := (first | omega | (simp only [List.length_append, List.length_cons, List.length_nil, List.length_map, bytesC_length]; omega))) only [w64, ipos, ineg, bin_add_str2]; try simp only [go_sem]))
      all_goals (refine congrArg (fun x => V.w (W.one (L.pl (PL.b x)))) ?_; rw [Bool.eq_iff_iff]; simp [nameOk]; omega)
theorem pin_cases (l : List PinD) (i : Nat) : (∃ p, i = 0 ∧ l[0]? = some p ∧ (0 < l.length) ∧ nameOk p.name = false) ∨ (∃ p, i = 0 ∧ l[0]? = some p ∧ (0 < l.length) ∧ nameOk p.name = true) ∨
    (∃ j p q, i = j + 1 ∧ l[j + 1]? = some p ∧ l[j]? = some q ∧ j + 1 < l.length ∧ nameOk p.name = false) ∨ (∃ j p q, i = j + 1 ∧ l[j + 1]? = some p ∧ l[j]? = some q ∧ j + 1 < l.length ∧ nameOk p.name = true ∧ Op.bytesLess q.name p.name = false) ∨
    (∃ j p q, i = j + 1 ∧ l[j + 1]? = some p ∧ l[j]? = some q ∧ j + 1 < l.length ∧ nameOk p.name = true ∧ Op.bytesLess q.name p.name = true) ∨ l.length ≤ i := by
  rcases Nat.lt_or_ge i l.length with hlt | hge
  · obtain ⟨p, hp⟩ := get_lt hlt
    rcases i with _ | j
    · cases hn : nameOk p.name with
      | false => exact .inl ⟨p, rfl, hp, hlt, hn⟩
      | true => exact .inr (.inl ⟨p, rfl, hp, hlt, hn⟩)
    · obtain ⟨q, hq⟩ := get_lt (l := l) (i := j) (by omega)
      cases hn : nameOk p.name with
      | false => exact .inr (.inr (.inl ⟨j, p, q, rfl, hp, hq, hlt, hn⟩))
      | true =>
        cases hb : Op.bytesLess q.name p.name with
        | false => exact .inr (.inr (.inr (.inl ⟨j, p, q, rfl, hp, hq, hlt, hn, hb⟩)))
        | true => exact .inr (.inr (.inr (.inr (.inl ⟨j, p, q, rfl, hp, hq, hlt, hn, hb⟩))))
  · exact .inr (.inr (.inr (.inr (.inr hge))))
theorem name_ne {s : List UInt8} (h : nameOk s = true) : decide (s = []) = false := by
  simp only [nameOk, decide_eq_true_eq] at h
  simp only [decide_eq_false_iff_not]
  intro e; subst e; simp at h
set_option maxHeartbeats 400000 in
theorem pins_check_big (l : List PinD) (hl : ∀ p ∈ l, p.ok) (ex : Bool) (h8 : 8 < l.length) :
    Ct Try.prog 23 [.w (.one (.pl (.R ex 34 (l.map pinC))))] (fun v m => v = .w (.one (.pl (.i (pinsFault l))))) := by
  have hc8 : (8 : Int) < ((l.length : Nat) : Int) := by omega
  refine Ct.k Try.func23 rfl Try.ntmps23 (congrArg Array.toList Try.results23) (by simp) fun w0 ro => ?_
  refine seq_k fun N1 M1 hN1 hM1 => ?_
  refine region_k fun K2 hK2 => ?_
  simp only [go_sem, hc8, List.length_map]
  all_goals repeat' (first | apply And.intro | intro _)
  all_goals
    refine hK2 _ ?_
    refine hN1 _ ?_
    refine seq_k fun N3 M3 hN3 hM3 => ?_
    refine seq_k fun N4 M4 hN4 hM4 => ?_
    refine region_k fun K5 hK5 => ?_
    simp only [go_sem, hc8, List.length_map]
    all_goals repeat' (first | apply And.intro | intro _)
    all_goals
      refine hK5 _ ?_
      refine hN4 _ ?_
      refine cond_k rfl (fun hc => ?_) (fun hc => ?_)
      · try simp only [go_sem, hc8, List.length_map] at hc
        all_goals
          refine seq_k fun N6 M6 hN6 hM6 => ?_
          refine region_k fun K7 hK7 => ?_
          simp only [go_sem, hc8, List.length_map]
          all_goals repeat' (first | apply And.intro | intro _)
          all_goals
            refine hK7 _ ?_
            refine hN6 _ ?_
            refine ret_k ?_
            refine hM3 _ _ ?_
            simp only [go_sem, hc8, List.length_map]
            all_goals (rw [pinsFault_size h8])
      · exfalso; revert hc; simp [go_sem, hc8, List.length_map]
set_option maxHeartbeats 1600000 in
theorem pins_check_small (l : List PinD) (hl : ∀ p ∈ l, p.ok) (ex : Bool) (h8 : ¬ 8 < l.length) :
    Ct Try.prog 23 [.w (.one (.pl (.R ex 34 (l.map pinC))))] (fun v m => v = .w (.one (.pl (.i (pinsFault l))))) := by
  have hc8 : ¬ (8 : Int) < ((l.length : Nat) : Int) := by omega
  refine Ct.k Try.func23 rfl Try.ntmps23 (congrArg Array.toList Try.results23) (by simp) fun w0 ro => ?_
  refine seq_k fun N1 M1 hN1 hM1 => ?_
  refine region_k fun K2 hK2 => ?_
  simp only [go_sem, hc8, List.length_map]
  all_goals repeat' (first | apply And.intro | intro _)
  all_goals
    refine hK2 _ ?_
    refine hN1 _ ?_
    refine seq_k fun N3 M3 hN3 hM3 => ?_
    refine seq_k fun N4 M4 hN4 hM4 => ?_
    refine region_k fun K5 hK5 => ?_
    simp only [go_sem, hc8, List.length_map]
    all_goals repeat' (first | apply And.intro | intro _)
    all_goals
      refine hK5 _ ?_
      refine hN4 _ ?_
      refine cond_k rfl (fun hc => ?_) (fun hc => ?_)
      · exfalso; revert hc; simp [go_sem, hc8, List.length_map]
      · try simp only [go_sem, hc8, List.length_map] at hc
        all_goals
          refine skip_k ?_
          refine hN3 _ ?_
          refine seq_k fun N6 M6 hN6 hM6 => ?_
          refine seq_k fun N7 M7 hN7 hM7 => ?_
          refine region_k fun K8 hK8 => ?_
          simp only [go_sem, hc8, List.length_map]
          all_goals repeat' (first | apply And.intro | intro _)
          all_goals
            refine hK8 _ ?_
            refine hN7 _ ?_
            refine block_k fun B9 bn9 bx9 br9 bi9 => ?_
            refine ht_dropE [5, 6, 7] ?_
            simp only [dropE_mk, fgt_nil, fgt_cons, List.contains_cons, List.contains_nil, Nat.reduceBEq, beq_self_eq_true, Bool.or_false, Bool.or_true, Bool.true_or, Bool.false_or, Bool.false_eq_true, reduceIte]
            refine loop_k (fun i => [(10, .w (.one (.pl (.i (i.1 : Nat)))))]) (fun _ => []) (fun i => l.length - i.1) (⟨0, Nat.zero_le _, fun j hj => absurd hj (Nat.not_lt_zero j)⟩ : {i : Nat // i ≤ l.length ∧ ∀ k, k < i → good l k = true}) ?_ ?_ ?_
            · (simp only [go_sem, leX, List.cons_append, List.nil_append]; try simp [nameAt])
            · (simp only [go_sem, leX, List.cons_append, List.nil_append]; try simp)
            intro ⟨i, hi, hg⟩ N10 M10 hN10 hM10
            simp only [List.cons_append, List.nil_append]
            have hsplit : (∃ p, i = 0 ∧ l[0]? = some p ∧ (0 < l.length) ∧ nameOk p.name = false) ∨ (∃ p, i = 0 ∧ l[0]? = some p ∧ (0 < l.length) ∧ nameOk p.name = true) ∨
                (∃ j p q, i = j + 1 ∧ l[j + 1]? = some p ∧ l[j]? = some q ∧ j + 1 < l.length ∧ nameOk p.name = false) ∨ (∃ j p q, i = j + 1 ∧ l[j + 1]? = some p ∧ l[j]? = some q ∧ j + 1 < l.length ∧ nameOk p.name = true ∧ Op.bytesLess q.name p.name = false) ∨
                (∃ j p q, i = j + 1 ∧ l[j + 1]? = some p ∧ l[j]? = some q ∧ j + 1 < l.length ∧ nameOk p.name = true ∧ Op.bytesLess q.name p.name = true) ∨ l.length ≤ i := pin_cases l i
            rcases hsplit with ⟨p, rfl, hp, hlt, hn⟩ | ⟨p, rfl, hp, hlt, hn⟩ | ⟨j, p, q, rfl, hp, hq, hlt, hn⟩ | ⟨j, p, q, rfl, hp, hq, hlt, hn, hles⟩ | ⟨j, p, q, rfl, hp, hq, hlt, hn, hles⟩ | hge
            · have hg0 := getD_map (f := pinC) (d := ([] : List PL)) hp
              have hpo := hl p (List.mem_of_getElem? hp)
              have hk := hpo.1
              have hnl := hpo.2
              have hpl := pinC_length hk
              have hc0 : (0 : Int) < ((l.length : Nat) : Int) := by omega
              have hw : Go.RowKit.wrap64 (0 + 1) = 1 := by unfold Go.RowKit.wrap64; omega
              have hne : 1 ≤ p.name.length → ¬ p.name = [] := fun h e => by rw [e] at h; simp at h
              have hfa := pinsFault_bad h8 hlt (show good l 0 = false by simp [good, nameAt_eq hp, hn])
              refine seq_k fun N11 M11 hN11 hM11 => ?_
              refine region_k fun K12 hK12 => ?_
              simp only [go_sem, hc8, List.length_map, List.length_map, hk, hg0, Int.toNat_natCast, Int.toNat_zero, hc0, hw, hn]
              all_goals repeat' (first | apply And.intro | intro _)
              all_goals
                refine hK12 _ ?_
                refine hN11 _ ?_
                refine seq_k fun N13 M13 hN13 hM13 => ?_
                refine cond_k rfl (fun hc => ?_) (fun hc => ?_)
                · try simp only [go_sem, hc8, List.length_map, List.length_map, hk, hg0, Int.toNat_natCast, Int.toNat_zero, hc0, hw, hn] at hc
                  all_goals
                    refine skip_k ?_
                    refine hN13 _ ?_
                    refine seq_k fun N14 M14 hN14 hM14 => ?_
                    refine block_k fun B15 bn15 bx15 br15 bi15 => ?_
                    refine seq_k fun N16 M16 hN16 hM16 => ?_
                    refine region_k fun K17 hK17 => ?_
                    simp only [go_sem, hc8, List.length_map, List.length_map, hk, hg0, Int.toNat_natCast, Int.toNat_zero, hc0, hw, hn]
                    all_goals repeat' (first | apply And.intro | intro _)
                    all_goals
                      refine hK17 _ ?_
                      refine hN16 _ ?_
                      refine seq_k fun N18 M18 hN18 hM18 => ?_
                      refine draw_k [15, 16, 17, 18, 19, 20, 21, 22, 23, 24, 25, 26, 27, 28, 29, 30, 31, 32, 33] [0, 1, 3, 7, 15, 31, 63, 127, 255, 255, 767, 2047, 4095, 8191, 255, 16639, 65535, 131071, 262143] [] mixed (by kernel_rfl) (by simp only [go_sem]) fun K19 hK19 => ?_
                      simp only [go_sem, hc8, List.length_map, List.length_map, hk, hg0, Int.toNat_natCast, Int.toNat_zero, hc0, hw, hn]
                      all_goals repeat' (first | apply And.intro | intro _)
                      all_goals refine call_draw (fun k => k) _ [] (fun _ _ => rfl) (by first | rfl | (simp only [go_sem, hc8, List.length_map, List.length_map, hk, hg0, Int.toNat_natCast, Int.toNat_zero, hc0, hw, hn]; rfl) | simp only [go_sem, hc8, List.length_map, List.length_map, hk, hg0, Int.toNat_natCast, Int.toNat_zero, hc0, hw, hn]) ((name_ p.name).plain fun _ _ h => h) ?_ ?_
                      all_goals try (refine And.intro ?_ (And.intro ?_ (And.intro ?_ ?_)) <;> first | rfl | simp only [go_sem])
                      all_goals simp only [go_sem, hc8, List.length_map, List.length_map, hk, hg0, Int.toNat_natCast, Int.toNat_zero, hc0, hw, hn]
                      all_goals repeat' (first | apply And.intro | intro _)
                      all_goals
                        refine hK19 _ _ ?_ ?_
                        · first | trivial | (simp only [go_sem]; done) | (simp only [go_sem]; simp; done) | (simp only [go_sem]; simp; simp only [go_sem])
                        refine hN18 _ ?_
                        refine cond_k rfl (fun hc => ?_) (fun hc => ?_)
                        · try simp only [go_sem, hc8, List.length_map, List.length_map, hk, hg0, Int.toNat_natCast, Int.toNat_zero, hc0, hw, hn] at hc
                          all_goals
                            refine seq_k fun N20 M20 hN20 hM20 => ?_
                            refine region_k fun K21 hK21 => ?_
                            simp only [go_sem, hc8, List.length_map, List.length_map, hk, hg0, Int.toNat_natCast, Int.toNat_zero, hc0, hw, hn]
                            all_goals repeat' (first | apply And.intro | intro _)
                            all_goals
                              refine hK21 _ ?_
                              refine hN20 _ ?_
                              refine ret_k ?_
                              refine br15 _ ?_
                              refine hM14 _ _ ?_
                              refine hM10 _ _ ?_
                              refine br9 _ ?_
                              refine hM6 _ _ ?_
                              simp only [go_sem, hc8, List.length_map, List.length_map, hk, hg0, Int.toNat_natCast, Int.toNat_zero, hc0, hw, hn]
                              all_goals (rw [hfa])
                        · exfalso; revert hc; simp [go_sem, hc8, List.length_map, List.length_map, hk, hg0, Int.toNat_natCast, Int.toNat_zero, hc0, hw, hn]
                · exfalso; revert hc; simp [go_sem, hc8, List.length_map, List.length_map, hk, hg0, Int.toNat_natCast, Int.toNat_zero, hc0, hw, hn]
            · have hg0 := getD_map (f := pinC) (d := ([] : List PL)) hp
              have hpo := hl p (List.mem_of_getElem? hp)
              have hk := hpo.1
              have hnl := hpo.2
              have hpl := pinC_length hk
              have hc0 : (0 : Int) < ((l.length : Nat) : Int) := by omega
              have hw : Go.RowKit.wrap64 (0 + 1) = 1 := by unfold Go.RowKit.wrap64; omega
              have hne : 1 ≤ p.name.length → ¬ p.name = [] := fun h e => by rw [e] at h; simp at h
              have hgood : good l 0 = true := by simp [good, nameAt_eq hp, hn]
              have hne1 := name_ne hn
              refine seq_k fun N22 M22 hN22 hM22 => ?_
              refine region_k fun K23 hK23 => ?_
              simp only [go_sem, hc8, List.length_map, List.length_map, hk, hg0, Int.toNat_natCast, Int.toNat_zero, hc0, hw, hn, hne1]
              all_goals repeat' (first | apply And.intro | intro _)
              all_goals
                refine hK23 _ ?_
                refine hN22 _ ?_
                refine seq_k fun N24 M24 hN24 hM24 => ?_
                refine cond_k rfl (fun hc => ?_) (fun hc => ?_)
                · try simp only [go_sem, hc8, List.length_map, List.length_map, hk, hg0, Int.toNat_natCast, Int.toNat_zero, hc0, hw, hn, hne1] at hc
                  all_goals
                    refine skip_k ?_
                    refine hN24 _ ?_
                    refine seq_k fun N25 M25 hN25 hM25 => ?_
                    refine block_k fun B26 bn26 bx26 br26 bi26 => ?_
                    refine seq_k fun N27 M27 hN27 hM27 => ?_
                    refine region_k fun K28 hK28 => ?_
                    simp only [go_sem, hc8, List.length_map, List.length_map, hk, hg0, Int.toNat_natCast, Int.toNat_zero, hc0, hw, hn, hne1]
                    all_goals repeat' (first | apply And.intro | intro _)
                    all_goals
                      refine hK28 _ ?_
                      refine hN27 _ ?_
                      refine seq_k fun N29 M29 hN29 hM29 => ?_
                      refine draw_k [15, 16, 17, 18, 19, 20, 21, 22, 23, 24, 25, 26, 27, 28, 29, 30, 31, 32, 33] [0, 1, 3, 7, 15, 31, 63, 127, 255, 255, 767, 2047, 4095, 8191, 255, 16639, 65535, 131071, 262143] [] mixed (by kernel_rfl) (by simp only [go_sem]) fun K30 hK30 => ?_
                      simp only [go_sem, hc8, List.length_map, List.length_map, hk, hg0, Int.toNat_natCast, Int.toNat_zero, hc0, hw, hn, hne1]
                      all_goals repeat' (first | apply And.intro | intro _)
                      all_goals refine call_draw (fun k => k) _ [] (fun _ _ => rfl) (by first | rfl | (simp only [go_sem, hc8, List.length_map, List.length_map, hk, hg0, Int.toNat_natCast, Int.toNat_zero, hc0, hw, hn, hne1]; rfl) | simp only [go_sem, hc8, List.length_map, List.length_map, hk, hg0, Int.toNat_natCast, Int.toNat_zero, hc0, hw, hn, hne1]) ((name_ p.name).plain fun _ _ h => h) ?_ ?_
                      all_goals try (refine And.intro ?_ (And.intro ?_ (And.intro ?_ ?_)) <;> first | rfl | simp only [go_sem])
                      all_goals simp only [go_sem, hc8, List.length_map, List.length_map, hk, hg0, Int.toNat_natCast, Int.toNat_zero, hc0, hw, hn, hne1]
                      all_goals repeat' (first | apply And.intro | intro _)
                      all_goals
                        refine hK30 _ _ ?_ ?_
                        · first | trivial | (simp only [go_sem]; done) | (simp only [go_sem]; simp; done) | (simp only [go_sem]; simp; simp only [go_sem])
                        refine hN29 _ ?_
                        refine cond_k rfl (fun hc => ?_) (fun hc => ?_)
                        · exfalso; revert hc; simp [go_sem, hc8, List.length_map, List.length_map, hk, hg0, Int.toNat_natCast, Int.toNat_zero, hc0, hw, hn, hne1]
                        · try simp only [go_sem, hc8, List.length_map, List.length_map, hk, hg0, Int.toNat_natCast, Int.toNat_zero, hc0, hw, hn, hne1] at hc
                          all_goals
                            refine skip_k ?_
                            refine bn26 _ ?_
                            refine hN25 _ ?_
                            refine region_k fun K31 hK31 => ?_
                            simp only [go_sem, hc8, List.length_map, List.length_map, hk, hg0, Int.toNat_natCast, Int.toNat_zero, hc0, hw, hn, hne1]
                            all_goals repeat' (first | apply And.intro | intro _)
                            all_goals
                              refine hK31 _ ?_
                              refine hN10 ⟨1, by omega, fun k hk => by rcases Nat.lt_succ_iff_lt_or_eq.mp hk with h | rfl; exact hg k h; exact hgood⟩ _ ?_ ?_ ?_
                              · (dsimp only; omega)
                              · (simp only [go_sem, leX, List.cons_append, List.nil_append]; try simp [hp, nameAt])
                              · (simp only [go_sem, leX, List.cons_append, List.nil_append]; try simp)
                · exfalso; revert hc; simp [go_sem, hc8, List.length_map, List.length_map, hk, hg0, Int.toNat_natCast, Int.toNat_zero, hc0, hw, hn, hne1]
            · have hg0 := getD_map (f := pinC) (d := ([] : List PL)) hp
              have hpo := hl p (List.mem_of_getElem? hp)
              have hk := hpo.1
              have hnl := hpo.2
              have hpl := pinC_length hk
              have hgq := getD_map (f := pinC) (d := ([] : List PL)) hq
              have hqo := hl q (List.mem_of_getElem? hq)
              have hq34 := pinC_length hqo.1
              have hqk := hqo.1
              have hc1 : ((j + 1 : Nat) : Int) < ((l.length : Nat) : Int) := by omega
              have hi1 : (0 : Int) ≤ ((j + 1 : Nat) : Int) := by omega
              have hp0 : (0 : Int) < ((j + 1 : Nat) : Int) := by omega
              have hj0 : Go.RowKit.wrap64 (((j + 1 : Nat) : Int) - 1) = ((j : Nat) : Int) := by unfold Go.RowKit.wrap64; omega
              have hj1 : (0 : Int) ≤ ((j : Nat) : Int) := by omega
              have hj2 : ((j : Nat) : Int) < ((l.length : Nat) : Int) := by omega
              have hs1 : Go.RowKit.wrap64 (((j + 1 : Nat) : Int) + 1) = ((j + 2 : Nat) : Int) := by unfold Go.RowKit.wrap64; omega
              have hfa := pinsFault_bad h8 hlt (show good l (j + 1) = false by simp [good, nameAt_eq hp, hn])
              refine seq_k fun N32 M32 hN32 hM32 => ?_
              refine region_k fun K33 hK33 => ?_
              simp only [go_sem, hc8, List.length_map, List.length_map, hk, hg0, Int.toNat_natCast, Int.toNat_zero, hc1, hi1, hp0, hj0, hj1, hj2, hgq, hqk, hn]
              all_goals repeat' (first | apply And.intro | intro _)
              all_goals
                refine hK33 _ ?_
                refine hN32 _ ?_
                refine seq_k fun N34 M34 hN34 hM34 => ?_
                refine cond_k rfl (fun hc => ?_) (fun hc => ?_)
                · try simp only [go_sem, hc8, List.length_map, List.length_map, hk, hg0, Int.toNat_natCast, Int.toNat_zero, hc1, hi1, hp0, hj0, hj1, hj2, hgq, hqk, hn] at hc
                  all_goals
                    refine skip_k ?_
                    refine hN34 _ ?_
                    refine seq_k fun N35 M35 hN35 hM35 => ?_
                    refine block_k fun B36 bn36 bx36 br36 bi36 => ?_
                    refine seq_k fun N37 M37 hN37 hM37 => ?_
                    refine region_k fun K38 hK38 => ?_
                    simp only [go_sem, hc8, List.length_map, List.length_map, hk, hg0, Int.toNat_natCast, Int.toNat_zero, hc1, hi1, hp0, hj0, hj1, hj2, hgq, hqk, hn]
                    all_goals repeat' (first | apply And.intro | intro _)
                    all_goals
                      refine hK38 _ ?_
                      refine hN37 _ ?_
                      refine seq_k fun N39 M39 hN39 hM39 => ?_
                      refine draw_k [15, 16, 17, 18, 19, 20, 21, 22, 23, 24, 25, 26, 27, 28, 29, 30, 31, 32, 33] [0, 1, 3, 7, 15, 31, 63, 127, 255, 255, 767, 2047, 4095, 8191, 255, 16639, 65535, 131071, 262143] [] mixed (by kernel_rfl) (by simp only [go_sem]) fun K40 hK40 => ?_
                      simp only [go_sem, hc8, List.length_map, List.length_map, hk, hg0, Int.toNat_natCast, Int.toNat_zero, hc1, hi1, hp0, hj0, hj1, hj2, hgq, hqk, hn]
                      all_goals repeat' (first | apply And.intro | intro _)
                      all_goals refine call_draw (fun k => k) _ [] (fun _ _ => rfl) (by first | rfl | (simp only [go_sem, hc8, List.length_map, List.length_map, hk, hg0, Int.toNat_natCast, Int.toNat_zero, hc1, hi1, hp0, hj0, hj1, hj2, hgq, hqk, hn]; rfl) | simp only [go_sem, hc8, List.length_map, List.length_map, hk, hg0, Int.toNat_natCast, Int.toNat_zero, hc1, hi1, hp0, hj0, hj1, hj2, hgq, hqk, hn]) ((name_ p.name).plain fun _ _ h => h) ?_ ?_
                      all_goals try (refine And.intro ?_ (And.intro ?_ (And.intro ?_ ?_)) <;> first | rfl | simp only [go_sem])
                      all_goals simp only [go_sem, hc8, List.length_map, List.length_map, hk, hg0, Int.toNat_natCast, Int.toNat_zero, hc1, hi1, hp0, hj0, hj1, hj2, hgq, hqk, hn]
                      all_goals repeat' (first | apply And.intro | intro _)
                      all_goals
                        refine hK40 _ _ ?_ ?_
                        · first | trivial | (simp only [go_sem]; done) | (simp only [go_sem]; simp; done) | (simp only [go_sem]; simp; simp only [go_sem])
                        refine hN39 _ ?_
                        refine cond_k rfl (fun hc => ?_) (fun hc => ?_)
                        · try simp only [go_sem, hc8, List.length_map, List.length_map, hk, hg0, Int.toNat_natCast, Int.toNat_zero, hc1, hi1, hp0, hj0, hj1, hj2, hgq, hqk, hn] at hc
                          all_goals
                            refine seq_k fun N41 M41 hN41 hM41 => ?_
                            refine region_k fun K42 hK42 => ?_
                            simp only [go_sem, hc8, List.length_map, List.length_map, hk, hg0, Int.toNat_natCast, Int.toNat_zero, hc1, hi1, hp0, hj0, hj1, hj2, hgq, hqk, hn]
                            all_goals repeat' (first | apply And.intro | intro _)
                            all_goals
                              refine hK42 _ ?_
                              refine hN41 _ ?_
                              refine ret_k ?_
                              refine br36 _ ?_
                              refine hM35 _ _ ?_
                              refine hM10 _ _ ?_
                              refine br9 _ ?_
                              refine hM6 _ _ ?_
                              simp only [go_sem, hc8, List.length_map, List.length_map, hk, hg0, Int.toNat_natCast, Int.toNat_zero, hc1, hi1, hp0, hj0, hj1, hj2, hgq, hqk, hn]
                              all_goals (rw [hfa])
                        · exfalso; revert hc; simp [go_sem, hc8, List.length_map, List.length_map, hk, hg0, Int.toNat_natCast, Int.toNat_zero, hc1, hi1, hp0, hj0, hj1, hj2, hgq, hqk, hn]
                · exfalso; revert hc; simp [go_sem, hc8, List.length_map, List.length_map, hk, hg0, Int.toNat_natCast, Int.toNat_zero, hc1, hi1, hp0, hj0, hj1, hj2, hgq, hqk, hn]
            · have hg0 := getD_map (f := pinC) (d := ([] : List PL)) hp
              have hpo := hl p (List.mem_of_getElem? hp)
              have hk := hpo.1
              have hnl := hpo.2
              have hpl := pinC_length hk
              have hgq := getD_map (f := pinC) (d := ([] : List PL)) hq
              have hqo := hl q (List.mem_of_getElem? hq)
              have hq34 := pinC_length hqo.1
              have hqk := hqo.1
              have hc1 : ((j + 1 : Nat) : Int) < ((l.length : Nat) : Int) := by omega
              have hi1 : (0 : Int) ≤ ((j + 1 : Nat) : Int) := by omega
              have hp0 : (0 : Int) < ((j + 1 : Nat) : Int) := by omega
              have hj0 : Go.RowKit.wrap64 (((j + 1 : Nat) : Int) - 1) = ((j : Nat) : Int) := by unfold Go.RowKit.wrap64; omega
              have hj1 : (0 : Int) ≤ ((j : Nat) : Int) := by omega
              have hj2 : ((j : Nat) : Int) < ((l.length : Nat) : Int) := by omega
              have hs1 : Go.RowKit.wrap64 (((j + 1 : Nat) : Int) + 1) = ((j + 2 : Nat) : Int) := by unfold Go.RowKit.wrap64; omega
              have hfa := pinsFault_bad h8 hlt (show good l (j + 1) = false by simp [good, nameAt_eq hp, nameAt_eq hq, hles])
              refine seq_k fun N43 M43 hN43 hM43 => ?_
              refine region_k fun K44 hK44 => ?_
              simp only [go_sem, hc8, List.length_map, List.length_map, hk, hg0, Int.toNat_natCast, Int.toNat_zero, hc1, hi1, hp0, hj0, hj1, hj2, hgq, hqk, hn, hles]
              all_goals repeat' (first | apply And.intro | intro _)
              all_goals
                refine hK44 _ ?_
                refine hN43 _ ?_
                refine seq_k fun N45 M45 hN45 hM45 => ?_
                refine cond_k rfl (fun hc => ?_) (fun hc => ?_)
                · try simp only [go_sem, hc8, List.length_map, List.length_map, hk, hg0, Int.toNat_natCast, Int.toNat_zero, hc1, hi1, hp0, hj0, hj1, hj2, hgq, hqk, hn, hles] at hc
                  all_goals
                    refine skip_k ?_
                    refine hN45 _ ?_
                    refine seq_k fun N46 M46 hN46 hM46 => ?_
                    refine block_k fun B47 bn47 bx47 br47 bi47 => ?_
                    refine seq_k fun N48 M48 hN48 hM48 => ?_
                    refine region_k fun K49 hK49 => ?_
                    simp only [go_sem, hc8, List.length_map, List.length_map, hk, hg0, Int.toNat_natCast, Int.toNat_zero, hc1, hi1, hp0, hj0, hj1, hj2, hgq, hqk, hn, hles]
                    all_goals repeat' (first | apply And.intro | intro _)
                    all_goals
                      refine hK49 _ ?_
                      refine hN48 _ ?_
                      refine seq_k fun N50 M50 hN50 hM50 => ?_
                      refine draw_k [15, 16, 17, 18, 19, 20, 21, 22, 23, 24, 25, 26, 27, 28, 29, 30, 31, 32, 33] [0, 1, 3, 7, 15, 31, 63, 127, 255, 255, 767, 2047, 4095, 8191, 255, 16639, 65535, 131071, 262143] [] mixed (by kernel_rfl) (by simp only [go_sem]) fun K51 hK51 => ?_
                      simp only [go_sem, hc8, List.length_map, List.length_map, hk, hg0, Int.toNat_natCast, Int.toNat_zero, hc1, hi1, hp0, hj0, hj1, hj2, hgq, hqk, hn, hles]
                      all_goals repeat' (first | apply And.intro | intro _)
                      all_goals refine call_draw (fun k => k) _ [] (fun _ _ => rfl) (by first | rfl | (simp only [go_sem, hc8, List.length_map, List.length_map, hk, hg0, Int.toNat_natCast, Int.toNat_zero, hc1, hi1, hp0, hj0, hj1, hj2, hgq, hqk, hn, hles]; rfl) | simp only [go_sem, hc8, List.length_map, List.length_map, hk, hg0, Int.toNat_natCast, Int.toNat_zero, hc1, hi1, hp0, hj0, hj1, hj2, hgq, hqk, hn, hles]) ((name_ p.name).plain fun _ _ h => h) ?_ ?_
                      all_goals try (refine And.intro ?_ (And.intro ?_ (And.intro ?_ ?_)) <;> first | rfl | simp only [go_sem])
                      all_goals simp only [go_sem, hc8, List.length_map, List.length_map, hk, hg0, Int.toNat_natCast, Int.toNat_zero, hc1, hi1, hp0, hj0, hj1, hj2, hgq, hqk, hn, hles]
                      all_goals repeat' (first | apply And.intro | intro _)
                      all_goals
                        refine hK51 _ _ ?_ ?_
                        · first | trivial | (simp only [go_sem]; done) | (simp only [go_sem]; simp; done) | (simp only [go_sem]; simp; simp only [go_sem])
                        refine hN50 _ ?_
                        refine cond_k rfl (fun hc => ?_) (fun hc => ?_)
                        · try simp only [go_sem, hc8, List.length_map, List.length_map, hk, hg0, Int.toNat_natCast, Int.toNat_zero, hc1, hi1, hp0, hj0, hj1, hj2, hgq, hqk, hn, hles] at hc
                          all_goals
                            refine seq_k fun N52 M52 hN52 hM52 => ?_
                            refine region_k fun K53 hK53 => ?_
                            simp only [go_sem, hc8, List.length_map, List.length_map, hk, hg0, Int.toNat_natCast, Int.toNat_zero, hc1, hi1, hp0, hj0, hj1, hj2, hgq, hqk, hn, hles]
                            all_goals repeat' (first | apply And.intro | intro _)
                            all_goals
                              refine hK53 _ ?_
                              refine hN52 _ ?_
                              refine ret_k ?_
                              refine br47 _ ?_
                              refine hM46 _ _ ?_
                              refine hM10 _ _ ?_
                              refine br9 _ ?_
                              refine hM6 _ _ ?_
                              simp only [go_sem, hc8, List.length_map, List.length_map, hk, hg0, Int.toNat_natCast, Int.toNat_zero, hc1, hi1, hp0, hj0, hj1, hj2, hgq, hqk, hn, hles]
                              all_goals (rw [hfa])
                        · exfalso; revert hc; simp [go_sem, hc8, List.length_map, List.length_map, hk, hg0, Int.toNat_natCast, Int.toNat_zero, hc1, hi1, hp0, hj0, hj1, hj2, hgq, hqk, hn, hles]
                · exfalso; revert hc; simp [go_sem, hc8, List.length_map, List.length_map, hk, hg0, Int.toNat_natCast, Int.toNat_zero, hc1, hi1, hp0, hj0, hj1, hj2, hgq, hqk, hn, hles]
            · have hg0 := getD_map (f := pinC) (d := ([] : List PL)) hp
              have hpo := hl p (List.mem_of_getElem? hp)
              have hk := hpo.1
              have hnl := hpo.2
              have hpl := pinC_length hk
              have hgq := getD_map (f := pinC) (d := ([] : List PL)) hq
              have hqo := hl q (List.mem_of_getElem? hq)
              have hq34 := pinC_length hqo.1
              have hqk := hqo.1
              have hc1 : ((j + 1 : Nat) : Int) < ((l.length : Nat) : Int) := by omega
              have hi1 : (0 : Int) ≤ ((j + 1 : Nat) : Int) := by omega
              have hp0 : (0 : Int) < ((j + 1 : Nat) : Int) := by omega
              have hj0 : Go.RowKit.wrap64 (((j + 1 : Nat) : Int) - 1) = ((j : Nat) : Int) := by unfold Go.RowKit.wrap64; omega
              have hj1 : (0 : Int) ≤ ((j : Nat) : Int) := by omega
              have hj2 : ((j : Nat) : Int) < ((l.length : Nat) : Int) := by omega
              have hs1 : Go.RowKit.wrap64 (((j + 1 : Nat) : Int) + 1) = ((j + 2 : Nat) : Int) := by unfold Go.RowKit.wrap64; omega
              have hgood : good l (j + 1) = true := by simp [good, nameAt_eq hp, nameAt_eq hq, hn, hles]
              refine seq_k fun N54 M54 hN54 hM54 => ?_
              refine region_k fun K55 hK55 => ?_
              simp only [go_sem, hc8, List.length_map, List.length_map, hk, hg0, Int.toNat_natCast, Int.toNat_zero, hc1, hi1, hp0, hj0, hj1, hj2, hgq, hqk, hn, hles, hs1]
              all_goals repeat' (first | apply And.intro | intro _)
              all_goals
                refine hK55 _ ?_
                refine hN54 _ ?_
                refine seq_k fun N56 M56 hN56 hM56 => ?_
                refine cond_k rfl (fun hc => ?_) (fun hc => ?_)
                · try simp only [go_sem, hc8, List.length_map, List.length_map, hk, hg0, Int.toNat_natCast, Int.toNat_zero, hc1, hi1, hp0, hj0, hj1, hj2, hgq, hqk, hn, hles, hs1] at hc
                  all_goals
                    refine skip_k ?_
                    refine hN56 _ ?_
                    refine seq_k fun N57 M57 hN57 hM57 => ?_
                    refine block_k fun B58 bn58 bx58 br58 bi58 => ?_
                    refine seq_k fun N59 M59 hN59 hM59 => ?_
                    refine region_k fun K60 hK60 => ?_
                    simp only [go_sem, hc8, List.length_map, List.length_map, hk, hg0, Int.toNat_natCast, Int.toNat_zero, hc1, hi1, hp0, hj0, hj1, hj2, hgq, hqk, hn, hles, hs1]
                    all_goals repeat' (first | apply And.intro | intro _)
                    all_goals
                      refine hK60 _ ?_
                      refine hN59 _ ?_
                      refine seq_k fun N61 M61 hN61 hM61 => ?_
                      refine draw_k [15, 16, 17, 18, 19, 20, 21, 22, 23, 24, 25, 26, 27, 28, 29, 30, 31, 32, 33] [0, 1, 3, 7, 15, 31, 63, 127, 255, 255, 767, 2047, 4095, 8191, 255, 16639, 65535, 131071, 262143] [] mixed (by kernel_rfl) (by simp only [go_sem]) fun K62 hK62 => ?_
                      simp only [go_sem, hc8, List.length_map, List.length_map, hk, hg0, Int.toNat_natCast, Int.toNat_zero, hc1, hi1, hp0, hj0, hj1, hj2, hgq, hqk, hn, hles, hs1]
                      all_goals repeat' (first | apply And.intro | intro _)
                      all_goals refine call_draw (fun k => k) _ [] (fun _ _ => rfl) (by first | rfl | (simp only [go_sem, hc8, List.length_map, List.length_map, hk, hg0, Int.toNat_natCast, Int.toNat_zero, hc1, hi1, hp0, hj0, hj1, hj2, hgq, hqk, hn, hles, hs1]; rfl) | simp only [go_sem, hc8, List.length_map, List.length_map, hk, hg0, Int.toNat_natCast, Int.toNat_zero, hc1, hi1, hp0, hj0, hj1, hj2, hgq, hqk, hn, hles, hs1]) ((name_ p.name).plain fun _ _ h => h) ?_ ?_
                      all_goals try (refine And.intro ?_ (And.intro ?_ (And.intro ?_ ?_)) <;> first | rfl | simp only [go_sem])
                      all_goals simp only [go_sem, hc8, List.length_map, List.length_map, hk, hg0, Int.toNat_natCast, Int.toNat_zero, hc1, hi1, hp0, hj0, hj1, hj2, hgq, hqk, hn, hles, hs1]
                      all_goals repeat' (first | apply And.intro | intro _)
                      all_goals
                        refine hK62 _ _ ?_ ?_
                        · first | trivial | (simp only [go_sem]; done) | (simp only [go_sem]; simp; done) | (simp only [go_sem]; simp; simp only [go_sem])
                        refine hN61 _ ?_
                        refine cond_k rfl (fun hc => ?_) (fun hc => ?_)
                        · exfalso; revert hc; simp [go_sem, hc8, List.length_map, List.length_map, hk, hg0, Int.toNat_natCast, Int.toNat_zero, hc1, hi1, hp0, hj0, hj1, hj2, hgq, hqk, hn, hles, hs1]
                        · try simp only [go_sem, hc8, List.length_map, List.length_map, hk, hg0, Int.toNat_natCast, Int.toNat_zero, hc1, hi1, hp0, hj0, hj1, hj2, hgq, hqk, hn, hles, hs1] at hc
                          all_goals
                            refine skip_k ?_
                            refine bn58 _ ?_
                            refine hN57 _ ?_
                            refine region_k fun K63 hK63 => ?_
                            simp only [go_sem, hc8, List.length_map, List.length_map, hk, hg0, Int.toNat_natCast, Int.toNat_zero, hc1, hi1, hp0, hj0, hj1, hj2, hgq, hqk, hn, hles, hs1]
                            all_goals repeat' (first | apply And.intro | intro _)
                            all_goals
                              refine hK63 _ ?_
                              refine hN10 ⟨j + 2, by omega, fun k hk => by rcases Nat.lt_succ_iff_lt_or_eq.mp hk with h | rfl; exact hg k h; exact hgood⟩ _ ?_ ?_ ?_
                              · (dsimp only; omega)
                              · (simp only [go_sem, leX, List.cons_append, List.nil_append]; try simp [hp, nameAt])
                              · (simp only [go_sem, leX, List.cons_append, List.nil_append]; try simp)
                · exfalso; revert hc; simp [go_sem, hc8, List.length_map, List.length_map, hk, hg0, Int.toNat_natCast, Int.toNat_zero, hc1, hi1, hp0, hj0, hj1, hj2, hgq, hqk, hn, hles, hs1]
            · have hc9 : ¬ ((i : Nat) : Int) < ((l.length : Nat) : Int) := by omega
              have hfa := pinsFault_ok h8 (fun k hk => hg k (by omega))
              refine seq_k fun N64 M64 hN64 hM64 => ?_
              refine region_k fun K65 hK65 => ?_
              simp only [go_sem, hc8, List.length_map, List.length_map, hc9]
              all_goals repeat' (first | apply And.intro | intro _)
              all_goals
                refine hK65 _ ?_
                refine hN64 _ ?_
                refine seq_k fun N66 M66 hN66 hM66 => ?_
                refine cond_k rfl (fun hc => ?_) (fun hc => ?_)
                · exfalso; revert hc; simp [go_sem, hc8, List.length_map, List.length_map, hc9]
                · try simp only [go_sem, hc8, List.length_map, List.length_map, hc9] at hc
                  all_goals
                    refine exit_k ?_
                    refine hM66 _ _ ?_
                    refine hM10 _ _ ?_
                    refine bx9 _ ?_
                    refine hN6 _ ?_
                    refine seq_k fun N67 M67 hN67 hM67 => ?_
                    refine region_k fun K68 hK68 => ?_
                    simp only [go_sem, hc8, List.length_map, List.length_map, hc9]
                    all_goals repeat' (first | apply And.intro | intro _)
                    all_goals
                      refine hK68 _ ?_
                      refine hN67 _ ?_
                      refine ret_k ?_
                      simp only [go_sem, hc8, List.length_map, List.length_map, hc9]
                      all_goals (rw [hfa])
theorem pins_check (l : List PinD) (hl : ∀ p ∈ l, p.ok) (ex : Bool) : Ct Try.prog 23 [.w (.one (.pl (.R ex 34 (l.map pinC))))] (fun v m => v = .w (.one (.pl (.i (pinsFault l))))) := by
  by_cases h8 : 8 < l.length
  · exact pins_check_big l hl ex h8
  · exact pins_check_small l hl ex h8
set_option maxHeartbeats 400000 in
theorem pins_fault_big (l : List PinD) (hl : ∀ p ∈ l, p.ok) (ex : Bool) (h8 : 8 < l.length) :
    Ct Try.prog 25 [.w (.one (.pl (.R ex 34 (l.map pinC))))] (fun v m => v = .w (.one (.pl (.i (pinsFault l))))) := by
  have hc8 : (8 : Int) < ((l.length : Nat) : Int) := by omega
  refine Ct.k Try.func25 rfl Try.ntmps25 (congrArg Array.toList Try.results25) (by simp) fun w0 ro => ?_
  refine seq_k fun N1 M1 hN1 hM1 => ?_
  refine region_k fun K2 hK2 => ?_
  simp only [go_sem, hc8, List.length_map]
  all_goals repeat' (first | apply And.intro | intro _)
  all_goals
    refine hK2 _ ?_
    refine hN1 _ ?_
    refine seq_k fun N3 M3 hN3 hM3 => ?_
    refine seq_k fun N4 M4 hN4 hM4 => ?_
    refine region_k fun K5 hK5 => ?_
    simp only [go_sem, hc8, List.length_map]
    all_goals repeat' (first | apply And.intro | intro _)
    all_goals
      refine hK5 _ ?_
      refine hN4 _ ?_
      refine cond_k rfl (fun hc => ?_) (fun hc => ?_)
      · try simp only [go_sem, hc8, List.length_map] at hc
        all_goals
          refine seq_k fun N6 M6 hN6 hM6 => ?_
          refine region_k fun K7 hK7 => ?_
          simp only [go_sem, hc8, List.length_map]
          all_goals repeat' (first | apply And.intro | intro _)
          all_goals
            refine hK7 _ ?_
            refine hN6 _ ?_
            refine ret_k ?_
            refine hM3 _ _ ?_
            simp only [go_sem, hc8, List.length_map]
            all_goals (rw [pinsFault_size h8])
      · exfalso; revert hc; simp [go_sem, hc8, List.length_map]
set_option maxHeartbeats 1600000 in
theorem pins_fault_small (l : List PinD) (hl : ∀ p ∈ l, p.ok) (ex : Bool) (h8 : ¬ 8 < l.length) :
    Ct Try.prog 25 [.w (.one (.pl (.R ex 34 (l.map pinC))))] (fun v m => v = .w (.one (.pl (.i (pinsFault l))))) := by
  have hc8 : ¬ (8 : Int) < ((l.length : Nat) : Int) := by omega
  refine Ct.k Try.func25 rfl Try.ntmps25 (congrArg Array.toList Try.results25) (by simp) fun w0 ro => ?_
  refine seq_k fun N1 M1 hN1 hM1 => ?_
  refine region_k fun K2 hK2 => ?_
  simp only [go_sem, hc8, List.length_map]
  all_goals repeat' (first | apply And.intro | intro _)
  all_goals
    refine hK2 _ ?_
    refine hN1 _ ?_
    refine seq_k fun N3 M3 hN3 hM3 => ?_
    refine seq_k fun N4 M4 hN4 hM4 => ?_
    refine region_k fun K5 hK5 => ?_
    simp only [go_sem, hc8, List.length_map]
    all_goals repeat' (first | apply And.intro | intro _)
    all_goals
      refine hK5 _ ?_
      refine hN4 _ ?_
      refine cond_k rfl (fun hc => ?_) (fun hc => ?_)
      · exfalso; revert hc; simp [go_sem, hc8, List.length_map]
      · try simp only [go_sem, hc8, List.length_map] at hc
        all_goals
          refine skip_k ?_
          refine hN3 _ ?_
          refine seq_k fun N6 M6 hN6 hM6 => ?_
          refine region_k fun K7 hK7 => ?_
          simp only [go_sem, hc8, List.length_map]
          all_goals repeat' (first | apply And.intro | intro _)
          all_goals
            refine hK7 _ ?_
            refine hN6 _ ?_
            refine seq_k fun N8 M8 hN8 hM8 => ?_
            refine seq_k fun N9 M9 hN9 hM9 => ?_
            refine region_k fun K10 hK10 => ?_
            simp only [go_sem, hc8, List.length_map]
            all_goals repeat' (first | apply And.intro | intro _)
            all_goals
              refine hK10 _ ?_
              refine hN9 _ ?_
              refine block_k fun B11 bn11 bx11 br11 bi11 => ?_
              refine ht_dropE [0, 6, 7, 8] ?_
              simp only [dropE_mk, fgt_nil, fgt_cons, List.contains_cons, List.contains_nil, Nat.reduceBEq, beq_self_eq_true, Bool.or_false, Bool.or_true, Bool.true_or, Bool.false_or, Bool.false_eq_true, reduceIte]
              refine loop_k (fun i => [(11, .w (.one (.pl (.i (i.1 : Nat))))), (3, .w (.one (.pl (.str (match i.1 with | 0 => [] | j + 1 => nameAt l j)))))]) (fun _ => []) (fun i => l.length - i.1) (⟨0, Nat.zero_le _, fun j hj => absurd hj (Nat.not_lt_zero j)⟩ : {i : Nat // i ≤ l.length ∧ ∀ k, k < i → good l k = true}) ?_ ?_ ?_
              · (simp only [go_sem, leX, List.cons_append, List.nil_append]; try simp [nameAt])
              · (simp only [go_sem, leX, List.cons_append, List.nil_append]; try simp)
              intro ⟨i, hi, hg⟩ N12 M12 hN12 hM12
              simp only [List.cons_append, List.nil_append]
              have hsplit : (∃ p, i = 0 ∧ l[0]? = some p ∧ (0 < l.length) ∧ nameOk p.name = false) ∨ (∃ p, i = 0 ∧ l[0]? = some p ∧ (0 < l.length) ∧ nameOk p.name = true) ∨
                  (∃ j p q, i = j + 1 ∧ l[j + 1]? = some p ∧ l[j]? = some q ∧ j + 1 < l.length ∧ nameOk p.name = false) ∨ (∃ j p q, i = j + 1 ∧ l[j + 1]? = some p ∧ l[j]? = some q ∧ j + 1 < l.length ∧ nameOk p.name = true ∧ Op.bytesLess q.name p.name = false) ∨
                  (∃ j p q, i = j + 1 ∧ l[j + 1]? = some p ∧ l[j]? = some q ∧ j + 1 < l.length ∧ nameOk p.name = true ∧ Op.bytesLess q.name p.name = true) ∨ l.length ≤ i := pin_cases l i
              rcases hsplit with ⟨p, rfl, hp, hlt, hn⟩ | ⟨p, rfl, hp, hlt, hn⟩ | ⟨j, p, q, rfl, hp, hq, hlt, hn⟩ | ⟨j, p, q, rfl, hp, hq, hlt, hn, hles⟩ | ⟨j, p, q, rfl, hp, hq, hlt, hn, hles⟩ | hge
              · have hg0 := getD_map (f := pinC) (d := ([] : List PL)) hp
                have hpo := hl p (List.mem_of_getElem? hp)
                have hk := hpo.1
                have hnl := hpo.2
                have hpl := pinC_length hk
                have hc0 : (0 : Int) < ((l.length : Nat) : Int) := by omega
                have hw : Go.RowKit.wrap64 (0 + 1) = 1 := by unfold Go.RowKit.wrap64; omega
                have hne : 1 ≤ p.name.length → ¬ p.name = [] := fun h e => by rw [e] at h; simp at h
                have hfa := pinsFault_bad h8 hlt (show good l 0 = false by simp [good, nameAt_eq hp, hn])
                refine seq_k fun N13 M13 hN13 hM13 => ?_
                refine region_k fun K14 hK14 => ?_
                simp only [go_sem, hc8, List.length_map, List.length_map, hk, hg0, Int.toNat_natCast, Int.toNat_zero, hc0, hw, less_nil, hn]
                all_goals repeat' (first | apply And.intro | intro _)
                all_goals
                  refine hK14 _ ?_
                  refine hN13 _ ?_
                  refine seq_k fun N15 M15 hN15 hM15 => ?_
                  refine cond_k rfl (fun hc => ?_) (fun hc => ?_)
                  · try simp only [go_sem, hc8, List.length_map, List.length_map, hk, hg0, Int.toNat_natCast, Int.toNat_zero, hc0, hw, less_nil, hn] at hc
                    all_goals
                      refine skip_k ?_
                      refine hN15 _ ?_
                      refine seq_k fun N16 M16 hN16 hM16 => ?_
                      refine block_k fun B17 bn17 bx17 br17 bi17 => ?_
                      refine seq_k fun N18 M18 hN18 hM18 => ?_
                      refine region_k fun K19 hK19 => ?_
                      simp only [go_sem, hc8, List.length_map, List.length_map, hk, hg0, Int.toNat_natCast, Int.toNat_zero, hc0, hw, less_nil, hn]
                      all_goals repeat' (first | apply And.intro | intro _)
                      all_goals
                        refine hK19 _ ?_
                        refine hN18 _ ?_
                        refine seq_k fun N20 M20 hN20 hM20 => ?_
                        refine seq_k fun N21 M21 hN21 hM21 => ?_
                        refine region_k fun K22 hK22 => ?_
                        simp only [go_sem, hc8, List.length_map, List.length_map, hk, hg0, Int.toNat_natCast, Int.toNat_zero, hc0, hw, less_nil, hn]
                        all_goals repeat' (first | apply And.intro | intro _)
                        all_goals refine call_view (fun k => k) (fun _ _ => rfl) (by first | rfl | (simp only [go_sem, hc8, List.length_map, List.length_map, hk, hg0, Int.toNat_natCast, Int.toNat_zero, hc0, hw, less_nil, hn]; rfl) | simp only [go_sem, hc8, List.length_map, List.length_map, hk, hg0, Int.toNat_natCast, Int.toNat_zero, hc0, hw, less_nil, hn]) ((is_name p.name hnl).plain fun _ _ h => h) ?_
                        all_goals (rintro v m ⟨hR, hm⟩; subst hR; subst hm)
                        all_goals refine And.intro (by first | rfl | simp only [go_sem]) (And.intro (by first | rfl | simp only [go_sem]) ?_)
                        all_goals simp only [go_sem, hc8, List.length_map, List.length_map, hk, hg0, Int.toNat_natCast, Int.toNat_zero, hc0, hw, less_nil, hn]
                        all_goals repeat' (first | apply And.intro | intro _)
                        all_goals
                          refine hK22 _ ?_
                          refine hN21 _ ?_
                          refine cond_k rfl (fun hc => ?_) (fun hc => ?_)
                          · try simp only [go_sem, hc8, List.length_map, List.length_map, hk, hg0, Int.toNat_natCast, Int.toNat_zero, hc0, hw, less_nil, hn] at hc
                            all_goals
                              refine seq_k fun N23 M23 hN23 hM23 => ?_
                              refine region_k fun K24 hK24 => ?_
                              simp only [go_sem, hc8, List.length_map, List.length_map, hk, hg0, Int.toNat_natCast, Int.toNat_zero, hc0, hw, less_nil, hn]
                              all_goals repeat' (first | apply And.intro | intro _)
                              all_goals
                                refine hK24 _ ?_
                                refine hN23 _ ?_
                                refine ret_k ?_
                                refine hM20 _ _ ?_
                                refine br17 _ ?_
                                refine hM16 _ _ ?_
                                refine hM12 _ _ ?_
                                refine br11 _ ?_
                                refine hM8 _ _ ?_
                                simp only [go_sem, hc8, List.length_map, List.length_map, hk, hg0, Int.toNat_natCast, Int.toNat_zero, hc0, hw, less_nil, hn]
                                all_goals (rw [hfa])
                          · exfalso; revert hc; simp [go_sem, hc8, List.length_map, List.length_map, hk, hg0, Int.toNat_natCast, Int.toNat_zero, hc0, hw, less_nil, hn]
                  · exfalso; revert hc; simp [go_sem, hc8, List.length_map, List.length_map, hk, hg0, Int.toNat_natCast, Int.toNat_zero, hc0, hw, less_nil, hn]
              · have hg0 := getD_map (f := pinC) (d := ([] : List PL)) hp
                have hpo := hl p (List.mem_of_getElem? hp)
                have hk := hpo.1
                have hnl := hpo.2
                have hpl := pinC_length hk
                have hc0 : (0 : Int) < ((l.length : Nat) : Int) := by omega
                have hw : Go.RowKit.wrap64 (0 + 1) = 1 := by unfold Go.RowKit.wrap64; omega
                have hne : 1 ≤ p.name.length → ¬ p.name = [] := fun h e => by rw [e] at h; simp at h
                have hgood : good l 0 = true := by simp [good, nameAt_eq hp, hn]
                have hne1 := name_ne hn
                refine seq_k fun N25 M25 hN25 hM25 => ?_
                refine region_k fun K26 hK26 => ?_
                simp only [go_sem, hc8, List.length_map, List.length_map, hk, hg0, Int.toNat_natCast, Int.toNat_zero, hc0, hw, less_nil, hn, hne1]
                all_goals repeat' (first | apply And.intro | intro _)
                all_goals
                  refine hK26 _ ?_
                  refine hN25 _ ?_
                  refine seq_k fun N27 M27 hN27 hM27 => ?_
                  refine cond_k rfl (fun hc => ?_) (fun hc => ?_)
                  · try simp only [go_sem, hc8, List.length_map, List.length_map, hk, hg0, Int.toNat_natCast, Int.toNat_zero, hc0, hw, less_nil, hn, hne1] at hc
                    all_goals
                      refine skip_k ?_
                      refine hN27 _ ?_
                      refine seq_k fun N28 M28 hN28 hM28 => ?_
                      refine block_k fun B29 bn29 bx29 br29 bi29 => ?_
                      refine seq_k fun N30 M30 hN30 hM30 => ?_
                      refine region_k fun K31 hK31 => ?_
                      simp only [go_sem, hc8, List.length_map, List.length_map, hk, hg0, Int.toNat_natCast, Int.toNat_zero, hc0, hw, less_nil, hn, hne1]
                      all_goals repeat' (first | apply And.intro | intro _)
                      all_goals
                        refine hK31 _ ?_
                        refine hN30 _ ?_
                        refine seq_k fun N32 M32 hN32 hM32 => ?_
                        refine seq_k fun N33 M33 hN33 hM33 => ?_
                        refine region_k fun K34 hK34 => ?_
                        simp only [go_sem, hc8, List.length_map, List.length_map, hk, hg0, Int.toNat_natCast, Int.toNat_zero, hc0, hw, less_nil, hn, hne1]
                        all_goals repeat' (first | apply And.intro | intro _)
                        all_goals refine call_view (fun k => k) (fun _ _ => rfl) (by first | rfl | (simp only [go_sem, hc8, List.length_map, List.length_map, hk, hg0, Int.toNat_natCast, Int.toNat_zero, hc0, hw, less_nil, hn, hne1]; rfl) | simp only [go_sem, hc8, List.length_map, List.length_map, hk, hg0, Int.toNat_natCast, Int.toNat_zero, hc0, hw, less_nil, hn, hne1]) ((is_name p.name hnl).plain fun _ _ h => h) ?_
                        all_goals (rintro v m ⟨hR, hm⟩; subst hR; subst hm)
                        all_goals refine And.intro (by first | rfl | simp only [go_sem]) (And.intro (by first | rfl | simp only [go_sem]) ?_)
                        all_goals simp only [go_sem, hc8, List.length_map, List.length_map, hk, hg0, Int.toNat_natCast, Int.toNat_zero, hc0, hw, less_nil, hn, hne1]
                        all_goals repeat' (first | apply And.intro | intro _)
                        all_goals
                          refine hK34 _ ?_
                          refine hN33 _ ?_
                          refine cond_k rfl (fun hc => ?_) (fun hc => ?_)
                          · exfalso; revert hc; simp [go_sem, hc8, List.length_map, List.length_map, hk, hg0, Int.toNat_natCast, Int.toNat_zero, hc0, hw, less_nil, hn, hne1]
                          · try simp only [go_sem, hc8, List.length_map, List.length_map, hk, hg0, Int.toNat_natCast, Int.toNat_zero, hc0, hw, less_nil, hn, hne1] at hc
                            all_goals
                              refine skip_k ?_
                              refine hN32 _ ?_
                              refine region_k fun K35 hK35 => ?_
                              simp only [go_sem, hc8, List.length_map, List.length_map, hk, hg0, Int.toNat_natCast, Int.toNat_zero, hc0, hw, less_nil, hn, hne1]
                              all_goals repeat' (first | apply And.intro | intro _)
                              all_goals
                                refine hK35 _ ?_
                                refine bn29 _ ?_
                                refine hN28 _ ?_
                                refine region_k fun K36 hK36 => ?_
                                simp only [go_sem, hc8, List.length_map, List.length_map, hk, hg0, Int.toNat_natCast, Int.toNat_zero, hc0, hw, less_nil, hn, hne1]
                                all_goals repeat' (first | apply And.intro | intro _)
                                all_goals
                                  refine hK36 _ ?_
                                  refine hN12 ⟨1, by omega, fun k hk => by rcases Nat.lt_succ_iff_lt_or_eq.mp hk with h | rfl; exact hg k h; exact hgood⟩ _ ?_ ?_ ?_
                                  · (dsimp only; omega)
                                  · (simp only [go_sem, leX, List.cons_append, List.nil_append]; try simp [hp, nameAt])
                                  · (simp only [go_sem, leX, List.cons_append, List.nil_append]; try simp)
                  · exfalso; revert hc; simp [go_sem, hc8, List.length_map, List.length_map, hk, hg0, Int.toNat_natCast, Int.toNat_zero, hc0, hw, less_nil, hn, hne1]
              · have hg0 := getD_map (f := pinC) (d := ([] : List PL)) hp
                have hpo := hl p (List.mem_of_getElem? hp)
                have hk := hpo.1
                have hnl := hpo.2
                have hpl := pinC_length hk
                have hgq := getD_map (f := pinC) (d := ([] : List PL)) hq
                have hqo := hl q (List.mem_of_getElem? hq)
                have hq34 := pinC_length hqo.1
                have hqk := hqo.1
                have hc1 : ((j + 1 : Nat) : Int) < ((l.length : Nat) : Int) := by omega
                have hi1 : (0 : Int) ≤ ((j + 1 : Nat) : Int) := by omega
                have hp0 : (0 : Int) < ((j + 1 : Nat) : Int) := by omega
                have hj0 : Go.RowKit.wrap64 (((j + 1 : Nat) : Int) - 1) = ((j : Nat) : Int) := by unfold Go.RowKit.wrap64; omega
                have hj1 : (0 : Int) ≤ ((j : Nat) : Int) := by omega
                have hj2 : ((j : Nat) : Int) < ((l.length : Nat) : Int) := by omega
                have hs1 : Go.RowKit.wrap64 (((j + 1 : Nat) : Int) + 1) = ((j + 2 : Nat) : Int) := by unfold Go.RowKit.wrap64; omega
                have hfa := pinsFault_bad h8 hlt (show good l (j + 1) = false by simp [good, nameAt_eq hp, hn])
                refine seq_k fun N37 M37 hN37 hM37 => ?_
                refine region_k fun K38 hK38 => ?_
                simp only [go_sem, hc8, List.length_map, List.length_map, hk, hg0, Int.toNat_natCast, Int.toNat_zero, hc1, hi1, hp0, hj0, hj1, hj2, hgq, hqk, nameAt_eq hq, less_total, hn]
                all_goals repeat' (first | apply And.intro | intro _)
                all_goals
                  refine hK38 _ ?_
                  refine hN37 _ ?_
                  refine seq_k fun N39 M39 hN39 hM39 => ?_
                  refine cond_k rfl (fun hc => ?_) (fun hc => ?_)
                  · try simp only [go_sem, hc8, List.length_map, List.length_map, hk, hg0, Int.toNat_natCast, Int.toNat_zero, hc1, hi1, hp0, hj0, hj1, hj2, hgq, hqk, nameAt_eq hq, less_total, hn] at hc
                    all_goals
                      refine skip_k ?_
                      refine hN39 _ ?_
                      refine seq_k fun N40 M40 hN40 hM40 => ?_
                      refine block_k fun B41 bn41 bx41 br41 bi41 => ?_
                      refine seq_k fun N42 M42 hN42 hM42 => ?_
                      refine region_k fun K43 hK43 => ?_
                      simp only [go_sem, hc8, List.length_map, List.length_map, hk, hg0, Int.toNat_natCast, Int.toNat_zero, hc1, hi1, hp0, hj0, hj1, hj2, hgq, hqk, nameAt_eq hq, less_total, hn]
                      all_goals repeat' (first | apply And.intro | intro _)
                      all_goals
                        refine hK43 _ ?_
                        refine hN42 _ ?_
                        refine seq_k fun N44 M44 hN44 hM44 => ?_
                        refine seq_k fun N45 M45 hN45 hM45 => ?_
                        refine region_k fun K46 hK46 => ?_
                        simp only [go_sem, hc8, List.length_map, List.length_map, hk, hg0, Int.toNat_natCast, Int.toNat_zero, hc1, hi1, hp0, hj0, hj1, hj2, hgq, hqk, nameAt_eq hq, less_total, hn]
                        all_goals repeat' (first | apply And.intro | intro _)
                        all_goals refine call_view (fun k => k) (fun _ _ => rfl) (by first | rfl | (simp only [go_sem, hc8, List.length_map, List.length_map, hk, hg0, Int.toNat_natCast, Int.toNat_zero, hc1, hi1, hp0, hj0, hj1, hj2, hgq, hqk, nameAt_eq hq, less_total, hn]; rfl) | simp only [go_sem, hc8, List.length_map, List.length_map, hk, hg0, Int.toNat_natCast, Int.toNat_zero, hc1, hi1, hp0, hj0, hj1, hj2, hgq, hqk, nameAt_eq hq, less_total, hn]) ((is_name p.name hnl).plain fun _ _ h => h) ?_
                        all_goals (rintro v m ⟨hR, hm⟩; subst hR; subst hm)
                        all_goals refine And.intro (by first | rfl | simp only [go_sem]) (And.intro (by first | rfl | simp only [go_sem]) ?_)
                        all_goals simp only [go_sem, hc8, List.length_map, List.length_map, hk, hg0, Int.toNat_natCast, Int.toNat_zero, hc1, hi1, hp0, hj0, hj1, hj2, hgq, hqk, nameAt_eq hq, less_total, hn]
                        all_goals repeat' (first | apply And.intro | intro _)
                        all_goals
                          refine hK46 _ ?_
                          refine hN45 _ ?_
                          refine cond_k rfl (fun hc => ?_) (fun hc => ?_)
                          · try simp only [go_sem, hc8, List.length_map, List.length_map, hk, hg0, Int.toNat_natCast, Int.toNat_zero, hc1, hi1, hp0, hj0, hj1, hj2, hgq, hqk, nameAt_eq hq, less_total, hn] at hc
                            all_goals
                              refine seq_k fun N47 M47 hN47 hM47 => ?_
                              refine region_k fun K48 hK48 => ?_
                              simp only [go_sem, hc8, List.length_map, List.length_map, hk, hg0, Int.toNat_natCast, Int.toNat_zero, hc1, hi1, hp0, hj0, hj1, hj2, hgq, hqk, nameAt_eq hq, less_total, hn]
                              all_goals repeat' (first | apply And.intro | intro _)
                              all_goals
                                refine hK48 _ ?_
                                refine hN47 _ ?_
                                refine ret_k ?_
                                refine hM44 _ _ ?_
                                refine br41 _ ?_
                                refine hM40 _ _ ?_
                                refine hM12 _ _ ?_
                                refine br11 _ ?_
                                refine hM8 _ _ ?_
                                simp only [go_sem, hc8, List.length_map, List.length_map, hk, hg0, Int.toNat_natCast, Int.toNat_zero, hc1, hi1, hp0, hj0, hj1, hj2, hgq, hqk, nameAt_eq hq, less_total, hn]
                                all_goals (rw [hfa])
                          · exfalso; revert hc; simp [go_sem, hc8, List.length_map, List.length_map, hk, hg0, Int.toNat_natCast, Int.toNat_zero, hc1, hi1, hp0, hj0, hj1, hj2, hgq, hqk, nameAt_eq hq, less_total, hn]
                  · exfalso; revert hc; simp [go_sem, hc8, List.length_map, List.length_map, hk, hg0, Int.toNat_natCast, Int.toNat_zero, hc1, hi1, hp0, hj0, hj1, hj2, hgq, hqk, nameAt_eq hq, less_total, hn]
              · have hg0 := getD_map (f := pinC) (d := ([] : List PL)) hp
                have hpo := hl p (List.mem_of_getElem? hp)
                have hk := hpo.1
                have hnl := hpo.2
                have hpl := pinC_length hk
                have hgq := getD_map (f := pinC) (d := ([] : List PL)) hq
                have hqo := hl q (List.mem_of_getElem? hq)
                have hq34 := pinC_length hqo.1
                have hqk := hqo.1
                have hc1 : ((j + 1 : Nat) : Int) < ((l.length : Nat) : Int) := by omega
                have hi1 : (0 : Int) ≤ ((j + 1 : Nat) : Int) := by omega
                have hp0 : (0 : Int) < ((j + 1 : Nat) : Int) := by omega
                have hj0 : Go.RowKit.wrap64 (((j + 1 : Nat) : Int) - 1) = ((j : Nat) : Int) := by unfold Go.RowKit.wrap64; omega
                have hj1 : (0 : Int) ≤ ((j : Nat) : Int) := by omega
                have hj2 : ((j : Nat) : Int) < ((l.length : Nat) : Int) := by omega
                have hs1 : Go.RowKit.wrap64 (((j + 1 : Nat) : Int) + 1) = ((j + 2 : Nat) : Int) := by unfold Go.RowKit.wrap64; omega
                have hfa := pinsFault_bad h8 hlt (show good l (j + 1) = false by simp [good, nameAt_eq hp, nameAt_eq hq, hles])
                refine seq_k fun N49 M49 hN49 hM49 => ?_
                refine region_k fun K50 hK50 => ?_
                simp only [go_sem, hc8, List.length_map, List.length_map, hk, hg0, Int.toNat_natCast, Int.toNat_zero, hc1, hi1, hp0, hj0, hj1, hj2, hgq, hqk, nameAt_eq hq, less_total, hn, hles]
                all_goals repeat' (first | apply And.intro | intro _)
                all_goals
                  refine hK50 _ ?_
                  refine hN49 _ ?_
                  refine seq_k fun N51 M51 hN51 hM51 => ?_
                  refine cond_k rfl (fun hc => ?_) (fun hc => ?_)
                  · try simp only [go_sem, hc8, List.length_map, List.length_map, hk, hg0, Int.toNat_natCast, Int.toNat_zero, hc1, hi1, hp0, hj0, hj1, hj2, hgq, hqk, nameAt_eq hq, less_total, hn, hles] at hc
                    all_goals
                      refine skip_k ?_
                      refine hN51 _ ?_
                      refine seq_k fun N52 M52 hN52 hM52 => ?_
                      refine block_k fun B53 bn53 bx53 br53 bi53 => ?_
                      refine seq_k fun N54 M54 hN54 hM54 => ?_
                      refine region_k fun K55 hK55 => ?_
                      simp only [go_sem, hc8, List.length_map, List.length_map, hk, hg0, Int.toNat_natCast, Int.toNat_zero, hc1, hi1, hp0, hj0, hj1, hj2, hgq, hqk, nameAt_eq hq, less_total, hn, hles]
                      all_goals repeat' (first | apply And.intro | intro _)
                      all_goals
                        refine hK55 _ ?_
                        refine hN54 _ ?_
                        refine seq_k fun N56 M56 hN56 hM56 => ?_
                        refine seq_k fun N57 M57 hN57 hM57 => ?_
                        refine region_k fun K58 hK58 => ?_
                        simp only [go_sem, hc8, List.length_map, List.length_map, hk, hg0, Int.toNat_natCast, Int.toNat_zero, hc1, hi1, hp0, hj0, hj1, hj2, hgq, hqk, nameAt_eq hq, less_total, hn, hles]
                        all_goals repeat' (first | apply And.intro | intro _)
                        all_goals refine call_view (fun k => k) (fun _ _ => rfl) (by first | rfl | (simp only [go_sem, hc8, List.length_map, List.length_map, hk, hg0, Int.toNat_natCast, Int.toNat_zero, hc1, hi1, hp0, hj0, hj1, hj2, hgq, hqk, nameAt_eq hq, less_total, hn, hles]; rfl) | simp only [go_sem, hc8, List.length_map, List.length_map, hk, hg0, Int.toNat_natCast, Int.toNat_zero, hc1, hi1, hp0, hj0, hj1, hj2, hgq, hqk, nameAt_eq hq, less_total, hn, hles]) ((is_name p.name hnl).plain fun _ _ h => h) ?_
                        all_goals (rintro v m ⟨hR, hm⟩; subst hR; subst hm)
                        all_goals refine And.intro (by first | rfl | simp only [go_sem]) (And.intro (by first | rfl | simp only [go_sem]) ?_)
                        all_goals simp only [go_sem, hc8, List.length_map, List.length_map, hk, hg0, Int.toNat_natCast, Int.toNat_zero, hc1, hi1, hp0, hj0, hj1, hj2, hgq, hqk, nameAt_eq hq, less_total, hn, hles]
                        all_goals repeat' (first | apply And.intro | intro _)
                        all_goals
                          refine hK58 _ ?_
                          refine hN57 _ ?_
                          refine cond_k rfl (fun hc => ?_) (fun hc => ?_)
                          · try simp only [go_sem, hc8, List.length_map, List.length_map, hk, hg0, Int.toNat_natCast, Int.toNat_zero, hc1, hi1, hp0, hj0, hj1, hj2, hgq, hqk, nameAt_eq hq, less_total, hn, hles] at hc
                            all_goals
                              refine seq_k fun N59 M59 hN59 hM59 => ?_
                              refine region_k fun K60 hK60 => ?_
                              simp only [go_sem, hc8, List.length_map, List.length_map, hk, hg0, Int.toNat_natCast, Int.toNat_zero, hc1, hi1, hp0, hj0, hj1, hj2, hgq, hqk, nameAt_eq hq, less_total, hn, hles]
                              all_goals repeat' (first | apply And.intro | intro _)
                              all_goals
                                refine hK60 _ ?_
                                refine hN59 _ ?_
                                refine ret_k ?_
                                refine hM56 _ _ ?_
                                refine br53 _ ?_
                                refine hM52 _ _ ?_
                                refine hM12 _ _ ?_
                                refine br11 _ ?_
                                refine hM8 _ _ ?_
                                simp only [go_sem, hc8, List.length_map, List.length_map, hk, hg0, Int.toNat_natCast, Int.toNat_zero, hc1, hi1, hp0, hj0, hj1, hj2, hgq, hqk, nameAt_eq hq, less_total, hn, hles]
                                all_goals (rw [hfa])
                          · exfalso; revert hc; simp [go_sem, hc8, List.length_map, List.length_map, hk, hg0, Int.toNat_natCast, Int.toNat_zero, hc1, hi1, hp0, hj0, hj1, hj2, hgq, hqk, nameAt_eq hq, less_total, hn, hles]
                  · exfalso; revert hc; simp [go_sem, hc8, List.length_map, List.length_map, hk, hg0, Int.toNat_natCast, Int.toNat_zero, hc1, hi1, hp0, hj0, hj1, hj2, hgq, hqk, nameAt_eq hq, less_total, hn, hles]
              · have hg0 := getD_map (f := pinC) (d := ([] : List PL)) hp
                have hpo := hl p (List.mem_of_getElem? hp)
                have hk := hpo.1
                have hnl := hpo.2
                have hpl := pinC_length hk
                have hgq := getD_map (f := pinC) (d := ([] : List PL)) hq
                have hqo := hl q (List.mem_of_getElem? hq)
                have hq34 := pinC_length hqo.1
                have hqk := hqo.1
                have hc1 : ((j + 1 : Nat) : Int) < ((l.length : Nat) : Int) := by omega
                have hi1 : (0 : Int) ≤ ((j + 1 : Nat) : Int) := by omega
                have hp0 : (0 : Int) < ((j + 1 : Nat) : Int) := by omega
                have hj0 : Go.RowKit.wrap64 (((j + 1 : Nat) : Int) - 1) = ((j : Nat) : Int) := by unfold Go.RowKit.wrap64; omega
                have hj1 : (0 : Int) ≤ ((j : Nat) : Int) := by omega
                have hj2 : ((j : Nat) : Int) < ((l.length : Nat) : Int) := by omega
                have hs1 : Go.RowKit.wrap64 (((j + 1 : Nat) : Int) + 1) = ((j + 2 : Nat) : Int) := by unfold Go.RowKit.wrap64; omega
                have hgood : good l (j + 1) = true := by simp [good, nameAt_eq hp, nameAt_eq hq, hn, hles]
                refine seq_k fun N61 M61 hN61 hM61 => ?_
                refine region_k fun K62 hK62 => ?_
                simp only [go_sem, hc8, List.length_map, List.length_map, hk, hg0, Int.toNat_natCast, Int.toNat_zero, hc1, hi1, hp0, hj0, hj1, hj2, hgq, hqk, nameAt_eq hq, less_total, hn, hles, hs1]
                all_goals repeat' (first | apply And.intro | intro _)
                all_goals
                  refine hK62 _ ?_
                  refine hN61 _ ?_
                  refine seq_k fun N63 M63 hN63 hM63 => ?_
                  refine cond_k rfl (fun hc => ?_) (fun hc => ?_)
                  · try simp only [go_sem, hc8, List.length_map, List.length_map, hk, hg0, Int.toNat_natCast, Int.toNat_zero, hc1, hi1, hp0, hj0, hj1, hj2, hgq, hqk, nameAt_eq hq, less_total, hn, hles, hs1] at hc
                    all_goals
                      refine skip_k ?_
                      refine hN63 _ ?_
                      refine seq_k fun N64 M64 hN64 hM64 => ?_
                      refine block_k fun B65 bn65 bx65 br65 bi65 => ?_
                      refine seq_k fun N66 M66 hN66 hM66 => ?_
                      refine region_k fun K67 hK67 => ?_
                      simp only [go_sem, hc8, List.length_map, List.length_map, hk, hg0, Int.toNat_natCast, Int.toNat_zero, hc1, hi1, hp0, hj0, hj1, hj2, hgq, hqk, nameAt_eq hq, less_total, hn, hles, hs1]
                      all_goals repeat' (first | apply And.intro | intro _)
                      all_goals
                        refine hK67 _ ?_
                        refine hN66 _ ?_
                        refine seq_k fun N68 M68 hN68 hM68 => ?_
                        refine seq_k fun N69 M69 hN69 hM69 => ?_
                        refine region_k fun K70 hK70 => ?_
                        simp only [go_sem, hc8, List.length_map, List.length_map, hk, hg0, Int.toNat_natCast, Int.toNat_zero, hc1, hi1, hp0, hj0, hj1, hj2, hgq, hqk, nameAt_eq hq, less_total, hn, hles, hs1]
                        all_goals repeat' (first | apply And.intro | intro _)
                        all_goals refine call_view (fun k => k) (fun _ _ => rfl) (by first | rfl | (simp only [go_sem, hc8, List.length_map, List.length_map, hk, hg0, Int.toNat_natCast, Int.toNat_zero, hc1, hi1, hp0, hj0, hj1, hj2, hgq, hqk, nameAt_eq hq, less_total, hn, hles, hs1]; rfl) | simp only [go_sem, hc8, List.length_map, List.length_map, hk, hg0, Int.toNat_natCast, Int.toNat_zero, hc1, hi1, hp0, hj0, hj1, hj2, hgq, hqk, nameAt_eq hq, less_total, hn, hles, hs1]) ((is_name p.name hnl).plain fun _ _ h => h) ?_
                        all_goals (rintro v m ⟨hR, hm⟩; subst hR; subst hm)
                        all_goals refine And.intro (by first | rfl | simp only [go_sem]) (And.intro (by first | rfl | simp only [go_sem]) ?_)
                        all_goals simp only [go_sem, hc8, List.length_map, List.length_map, hk, hg0, Int.toNat_natCast, Int.toNat_zero, hc1, hi1, hp0, hj0, hj1, hj2, hgq, hqk, nameAt_eq hq, less_total, hn, hles, hs1]
                        all_goals repeat' (first | apply And.intro | intro _)
                        all_goals
                          refine hK70 _ ?_
                          refine hN69 _ ?_
                          refine cond_k rfl (fun hc => ?_) (fun hc => ?_)
                          · exfalso; revert hc; simp [go_sem, hc8, List.length_map, List.length_map, hk, hg0, Int.toNat_natCast, Int.toNat_zero, hc1, hi1, hp0, hj0, hj1, hj2, hgq, hqk, nameAt_eq hq, less_total, hn, hles, hs1]
                          · try simp only [go_sem, hc8, List.length_map, List.length_map, hk, hg0, Int.toNat_natCast, Int.toNat_zero, hc1, hi1, hp0, hj0, hj1, hj2, hgq, hqk, nameAt_eq hq, less_total, hn, hles, hs1] at hc
                            all_goals
                              refine skip_k ?_
                              refine hN68 _ ?_
                              refine region_k fun K71 hK71 => ?_
                              simp only [go_sem, hc8, List.length_map, List.length_map, hk, hg0, Int.toNat_natCast, Int.toNat_zero, hc1, hi1, hp0, hj0, hj1, hj2, hgq, hqk, nameAt_eq hq, less_total, hn, hles, hs1]
                              all_goals repeat' (first | apply And.intro | intro _)
                              all_goals
                                refine hK71 _ ?_
                                refine bn65 _ ?_
                                refine hN64 _ ?_
                                refine region_k fun K72 hK72 => ?_
                                simp only [go_sem, hc8, List.length_map, List.length_map, hk, hg0, Int.toNat_natCast, Int.toNat_zero, hc1, hi1, hp0, hj0, hj1, hj2, hgq, hqk, nameAt_eq hq, less_total, hn, hles, hs1]
                                all_goals repeat' (first | apply And.intro | intro _)
                                all_goals
                                  refine hK72 _ ?_
                                  refine hN12 ⟨j + 2, by omega, fun k hk => by rcases Nat.lt_succ_iff_lt_or_eq.mp hk with h | rfl; exact hg k h; exact hgood⟩ _ ?_ ?_ ?_
                                  · (dsimp only; omega)
                                  · (simp only [go_sem, leX, List.cons_append, List.nil_append]; try simp [hp, nameAt])
                                  · (simp only [go_sem, leX, List.cons_append, List.nil_append]; try simp)
                  · exfalso; revert hc; simp [go_sem, hc8, List.length_map, List.length_map, hk, hg0, Int.toNat_natCast, Int.toNat_zero, hc1, hi1, hp0, hj0, hj1, hj2, hgq, hqk, nameAt_eq hq, less_total, hn, hles, hs1]
              · have hc9 : ¬ ((i : Nat) : Int) < ((l.length : Nat) : Int) := by omega
                have hfa := pinsFault_ok h8 (fun k hk => hg k (by omega))
                refine seq_k fun N73 M73 hN73 hM73 => ?_
                refine region_k fun K74 hK74 => ?_
                simp only [go_sem, hc8, List.length_map, List.length_map, hc9]
                all_goals repeat' (first | apply And.intro | intro _)
                all_goals
                  refine hK74 _ ?_
                  refine hN73 _ ?_
                  refine seq_k fun N75 M75 hN75 hM75 => ?_
                  refine cond_k rfl (fun hc => ?_) (fun hc => ?_)
                  · exfalso; revert hc; simp [go_sem, hc8, List.length_map, List.length_map, hc9]
                  · try simp only [go_sem, hc8, List.length_map, List.length_map, hc9] at hc
                    all_goals
                      refine exit_k ?_
                      refine hM75 _ _ ?_
                      refine hM12 _ _ ?_
                      refine bx11 _ ?_
                      refine hN8 _ ?_
                      refine seq_k fun N76 M76 hN76 hM76 => ?_
                      refine region_k fun K77 hK77 => ?_
                      simp only [go_sem, hc8, List.length_map, List.length_map, hc9]
                      all_goals repeat' (first | apply And.intro | intro _)
                      all_goals
                        refine hK77 _ ?_
                        refine hN76 _ ?_
                        refine ret_k ?_
                        simp only [go_sem, hc8, List.length_map, List.length_map, hc9]
                        all_goals (rw [hfa])
theorem pins_fault (l : List PinD) (hl : ∀ p ∈ l, p.ok) (ex : Bool) : Ct Try.prog 25 [.w (.one (.pl (.R ex 34 (l.map pinC))))] (fun v m => v = .w (.one (.pl (.i (pinsFault l))))) := by
  by_cases h8 : 8 < l.length
  · exact pins_fault_big l hl ex h8
  · exact pins_fault_small l hl ex h8
end Go.Sy
