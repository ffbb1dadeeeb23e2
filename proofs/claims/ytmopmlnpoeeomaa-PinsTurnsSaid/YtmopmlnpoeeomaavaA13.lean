/- Walks: whether pins are the same. -/
import Derived.Test.YtmopmlnpoeeomaavaA5
import Derived.Test.YtmopmlnpoeeomaavE3
set_option linter.unusedVariables false
set_option linter.unusedSimpArgs false
namespace Go.Sy
open Go.Proofs
attribute [local irreducible] atCall HT runOps runD onC onE onO onG goV goA goS onSt onGuard
theorem list_same {α : Type} {l l2 : List α} (hn : l.length = l2.length) (h : ∀ j, j < l.length → l[j]? = l2[j]?) : l = l2 := by
  refine List.ext_getElem? fun j => ?_
  by_cases hj : j < l.length
  · exact h j hj
  · rw [List.getElem?_eq_none (by omega), List.getElem?_eq_none (by omega)]
theorem kinds_pin {p : PinD} (h : p.key.length = 32) : (pls (pinC p)).map kindL = ((.s :: (List.replicate 32 (.int .u8) ++ [.b]) : List Kd)).map some := by
  rw [pls_pinC]
  simp only [List.map_cons, List.map_append, kinds_bytes h, List.map_replicate, List.map_nil]
  rfl
theorem eqC_pin {p q : PinD} (h : p.key.length = 32) (h2 : q.key.length = 32) : eqC (pls (pinC p)) (pls (pinC q)) = decide (p = q) := by
  rw [pls_pinC, pls_pinC, eqC_cons, eqC_seg (by omega), eqC_cons, eqC_nil, eqL_str, eqL_b, Bool.and_true]
  obtain ⟨a, b, c⟩ := p
  obtain ⟨a2, b2, c2⟩ := q
  rw [Bool.eq_iff_iff]
  simp
theorem pin_eq {p q : PinD} (h : p.key.length = 32) (h2 : q.key.length = 32) : aggEq Try.prog 47 (.pl (.str p.name) :: (bytesC p.key ++ [.pl (.b p.gone)])) (.pl (.str q.name) :: (bytesC q.key ++ [.pl (.b q.gone)])) = some (decide (p = q)) := by
  have := ae47 (kinds_pin h) (kinds_pin h2)
  rw [eqC_pin h h2, pls_pinC, pls_pinC] at this
  exact this
set_option maxHeartbeats 400000 in
theorem same_pins_len (l l2 : List PinD) (hl : ∀ p ∈ l, p.ok) (hl2 : ∀ p ∈ l2, p.ok) (ex ex2 : Bool) (hn : l.length ≠ l2.length) :
    Ct Try.prog 29 [.w (.one (.pl (.R ex 34 (pinRows l)))), .w (.one (.pl (.R ex2 34 (pinRows l2))))] (fun v m => v = .w (.one (.pl (.b false)))) := by
  have hne : (((l.length : Nat) : Int) = ((l2.length : Nat) : Int)) = False := by simp; omega
  refine Ct.k Try.func29 rfl Try.ntmps29 (congrArg Array.toList Try.results29) (by simp) fun w0 ro => ?_
  refine seq_k fun N1 M1 hN1 hM1 => ?_
  refine region_k fun K2 hK2 => ?_
  simp only [go_sem, hne, decide_true, decide_false, Bool.not_false, Bool.not_true]
  all_goals repeat' (first | apply And.intro | intro _)
  all_goals
    refine hK2 _ ?_
    refine hN1 _ ?_
    refine seq_k fun N3 M3 hN3 hM3 => ?_
    refine seq_k fun N4 M4 hN4 hM4 => ?_
    refine region_k fun K5 hK5 => ?_
    simp only [go_sem, hne, decide_true, decide_false, Bool.not_false, Bool.not_true]
    all_goals repeat' (first | apply And.intro | intro _)
    all_goals
      refine hK5 _ ?_
      refine hN4 _ ?_
      refine cond_k rfl (fun hc => ?_) (fun hc => ?_)
      · try simp only [go_sem, hne, decide_true, decide_false, Bool.not_false, Bool.not_true] at hc
        all_goals
          refine seq_k fun N6 M6 hN6 hM6 => ?_
          refine region_k fun K7 hK7 => ?_
          simp only [go_sem, hne, decide_true, decide_false, Bool.not_false, Bool.not_true]
          all_goals repeat' (first | apply And.intro | intro _)
          all_goals
            refine hK7 _ ?_
            refine hN6 _ ?_
            refine ret_k ?_
            refine hM3 _ _ ?_
            simp only [go_sem, hne, decide_true, decide_false, Bool.not_false, Bool.not_true]
            all_goals rfl
      · exfalso; revert hc; simp [go_sem, hne, decide_true, decide_false, Bool.not_false, Bool.not_true]
set_option maxHeartbeats 800000 in
theorem same_pins_loop (l l2 : List PinD) (hl : ∀ p ∈ l, p.ok) (hl2 : ∀ p ∈ l2, p.ok) (ex ex2 : Bool) (hn : l.length = l2.length) (hll0 : l.length ≤ 9223372036854775807) :
    Ct Try.prog 29 [.w (.one (.pl (.R ex 34 (pinRows l)))), .w (.one (.pl (.R ex2 34 (pinRows l2))))] (fun v m => v = .w (.one (.pl (.b (decide (l = l2)))))) := by
  have hne : (((l.length : Nat) : Int) = ((l2.length : Nat) : Int)) = True := by simp; omega
  have hll : l.length ≤ 9223372036854775807 := hll0
  refine Ct.k Try.func29 rfl Try.ntmps29 (congrArg Array.toList Try.results29) (by simp) fun w0 ro => ?_
  refine seq_k fun N1 M1 hN1 hM1 => ?_
  refine region_k fun K2 hK2 => ?_
  simp only [go_sem, hne, decide_true, decide_false, Bool.not_false, Bool.not_true]
  all_goals repeat' (first | apply And.intro | intro _)
  all_goals
    refine hK2 _ ?_
    refine hN1 _ ?_
    refine seq_k fun N3 M3 hN3 hM3 => ?_
    refine seq_k fun N4 M4 hN4 hM4 => ?_
    refine region_k fun K5 hK5 => ?_
    simp only [go_sem, hne, decide_true, decide_false, Bool.not_false, Bool.not_true]
    all_goals repeat' (first | apply And.intro | intro _)
    all_goals
      refine hK5 _ ?_
      refine hN4 _ ?_
      refine cond_k rfl (fun hc => ?_) (fun hc => ?_)
      · exfalso; revert hc; simp [go_sem, hne, decide_true, decide_false, Bool.not_false, Bool.not_true]
      · try simp only [go_sem, hne, decide_true, decide_false, Bool.not_false, Bool.not_true] at hc
        all_goals
          refine skip_k ?_
          refine hN3 _ ?_
          refine seq_k fun N6 M6 hN6 hM6 => ?_
          refine seq_k fun N7 M7 hN7 hM7 => ?_
          refine region_k fun K8 hK8 => ?_
          simp only [go_sem, hne, decide_true, decide_false, Bool.not_false, Bool.not_true]
          all_goals repeat' (first | apply And.intro | intro _)
          all_goals
            refine hK8 _ ?_
            refine hN7 _ ?_
            refine block_k fun B9 bn9 bx9 br9 bi9 => ?_
            refine ht_dropE [6, 7, 8, 9, 10, 11] ?_
            simp only [dropE_mk, fgt_nil, fgt_cons, List.contains_cons, List.contains_nil, Nat.reduceBEq, beq_self_eq_true, Bool.or_false, Bool.or_true, Bool.true_or, Bool.false_or, Bool.false_eq_true, reduceIte]
            refine loop_k (fun i => [(13, .w (.one (.pl (.i (i.1 : Nat)))))]) (fun _ => []) (fun i => l.length - i.1) (⟨0, Nat.zero_le _, fun j hj => absurd hj (Nat.not_lt_zero j)⟩ : {i : Nat // i ≤ l.length ∧ ∀ k, k < i → l[k]? = l2[k]?}) ?_ ?_ ?_
            · (simp only [go_sem, leX, List.cons_append, List.nil_append]; try simp)
            · (simp only [go_sem, leX, List.cons_append, List.nil_append]; try simp)
            intro ⟨i, hi, hg⟩ N10 M10 hN10 hM10
            simp only [List.cons_append, List.nil_append]
            have hd : (i < l.length ∧ l[i]? ≠ l2[i]?) ∨ (i < l.length ∧ l[i]? = l2[i]?) ∨ l.length ≤ i := by
              rcases Nat.lt_or_ge i l.length with h1 | h1
              · by_cases h2 : l[i]? = l2[i]?
                · exact .inr (.inl ⟨h1, h2⟩)
                · exact .inl ⟨h1, h2⟩
              · exact .inr (.inr h1)
            rcases hd with hgo | hgo | hge
            · obtain ⟨hlt, hne⟩ := hgo
              obtain ⟨p, hp⟩ := get_lt hlt
              obtain ⟨q, hq⟩ := get_lt (l := l2) (i := i) (by omega)
              have hg0 := pinRows_get hp
              have hg1 := pinRows_get hq
              have hpk := (hl p (List.mem_of_getElem? hp)).1
              have hqk := (hl2 q (List.mem_of_getElem? hq)).1
              have hpl := pinC_length hpk
              have hql := pinC_length hqk
              have hc1 : ((i : Nat) : Int) < ((l.length : Nat) : Int) := by omega
              have hc2 : ((i : Nat) : Int) < ((l2.length : Nat) : Int) := by omega
              have hi1 : (0 : Int) ≤ ((i : Nat) : Int) := by omega
              have he := pin_eq hpk hqk
              have hs1 : Go.RowKit.wrap64 (((i : Nat) : Int) + 1) = ((i + 1 : Nat) : Int) := wnat (by omega) (by omega)
              have hx : decide (p = q) = false := by simp; intro e; rw [hp, hq, e] at hne; exact hne rfl
              have hff : decide (l = l2) = false := by simp; intro e; subst e; rw [hp] at hq; cases hq; simp at hx
              refine seq_k fun N11 M11 hN11 hM11 => ?_
              refine region_k fun K12 hK12 => ?_
              simp only [go_sem, hne, decide_true, decide_false, Bool.not_false, Bool.not_true, List.length_map, hg0, hg1, hpk, hqk, hpl, hql, Int.toNat_natCast, hc1, hc2, hi1, hs1, he, hx, Bool.not_false, Bool.not_true]
              all_goals repeat' (first | apply And.intro | intro _)
              all_goals
                refine hK12 _ ?_
                refine hN11 _ ?_
                refine seq_k fun N13 M13 hN13 hM13 => ?_
                refine cond_k rfl (fun hc => ?_) (fun hc => ?_)
                · try simp only [go_sem, hne, decide_true, decide_false, Bool.not_false, Bool.not_true, List.length_map, hg0, hg1, hpk, hqk, hpl, hql, Int.toNat_natCast, hc1, hc2, hi1, hs1, he, hx, Bool.not_false, Bool.not_true] at hc
                  all_goals
                    refine skip_k ?_
                    refine hN13 _ ?_
                    refine seq_k fun N14 M14 hN14 hM14 => ?_
                    refine block_k fun B15 bn15 bx15 br15 bi15 => ?_
                    refine seq_k fun N16 M16 hN16 hM16 => ?_
                    refine region_k fun K17 hK17 => ?_
                    simp only [go_sem, hne, decide_true, decide_false, Bool.not_false, Bool.not_true, List.length_map, hg0, hg1, hpk, hqk, hpl, hql, Int.toNat_natCast, hc1, hc2, hi1, hs1, he, hx, Bool.not_false, Bool.not_true]
                    all_goals repeat' (first | apply And.intro | intro _)
                    all_goals
                      refine hK17 _ ?_
                      refine hN16 _ ?_
                      refine seq_k fun N18 M18 hN18 hM18 => ?_
                      refine draw_k [16, 17, 18, 19, 20, 21, 22, 23, 24] [0, 0, 3, 7, 0, 0, 48, 112, 255] [] mixed (by kernel_rfl) (by simp only [go_sem]) fun K19 hK19 => ?_
                      simp only [go_sem, hne, decide_true, decide_false, Bool.not_false, Bool.not_true, List.length_map, hg0, hg1, hpk, hqk, hpl, hql, Int.toNat_natCast, hc1, hc2, hi1, hs1, he, hx, Bool.not_false, Bool.not_true]
                      all_goals repeat' (first | apply And.intro | intro _)
                      all_goals
                        refine hK19 _ _ ?_ ?_
                        · first | trivial | (simp only [go_sem]; done) | (simp only [go_sem]; simp; done) | (simp only [go_sem]; simp; simp only [go_sem])
                        refine hN18 _ ?_
                        refine cond_k rfl (fun hc => ?_) (fun hc => ?_)
                        · try simp only [go_sem, hne, decide_true, decide_false, Bool.not_false, Bool.not_true, List.length_map, hg0, hg1, hpk, hqk, hpl, hql, Int.toNat_natCast, hc1, hc2, hi1, hs1, he, hx, Bool.not_false, Bool.not_true] at hc
                          all_goals
                            refine seq_k fun N20 M20 hN20 hM20 => ?_
                            refine region_k fun K21 hK21 => ?_
                            simp only [go_sem, hne, decide_true, decide_false, Bool.not_false, Bool.not_true, List.length_map, hg0, hg1, hpk, hqk, hpl, hql, Int.toNat_natCast, hc1, hc2, hi1, hs1, he, hx, Bool.not_false, Bool.not_true]
                            all_goals repeat' (first | apply And.intro | intro _)
                            all_goals
                              refine hK21 _ ?_
                              refine hN20 _ ?_
                              refine ret_k ?_
                              refine br15 _ ?_
                              refine hM14 _ _ ?_
                              refine hM10 _ _ ?_
                              refine br9 _ ?_
                              refine hM6 _ _ ?_
                              simp only [go_sem, hne, decide_true, decide_false, Bool.not_false, Bool.not_true, List.length_map, hg0, hg1, hpk, hqk, hpl, hql, Int.toNat_natCast, hc1, hc2, hi1, hs1, he, hx, Bool.not_false, Bool.not_true]
                              all_goals (rw [hff])
                        · exfalso; revert hc; simp [go_sem, hne, decide_true, decide_false, Bool.not_false, Bool.not_true, List.length_map, hg0, hg1, hpk, hqk, hpl, hql, Int.toNat_natCast, hc1, hc2, hi1, hs1, he, hx, Bool.not_false, Bool.not_true]
                · exfalso; revert hc; simp [go_sem, hne, decide_true, decide_false, Bool.not_false, Bool.not_true, List.length_map, hg0, hg1, hpk, hqk, hpl, hql, Int.toNat_natCast, hc1, hc2, hi1, hs1, he, hx, Bool.not_false, Bool.not_true]
            · obtain ⟨hlt, hne⟩ := hgo
              obtain ⟨p, hp⟩ := get_lt hlt
              obtain ⟨q, hq⟩ := get_lt (l := l2) (i := i) (by omega)
              have hg0 := pinRows_get hp
              have hg1 := pinRows_get hq
              have hpk := (hl p (List.mem_of_getElem? hp)).1
              have hqk := (hl2 q (List.mem_of_getElem? hq)).1
              have hpl := pinC_length hpk
              have hql := pinC_length hqk
              have hc1 : ((i : Nat) : Int) < ((l.length : Nat) : Int) := by omega
              have hc2 : ((i : Nat) : Int) < ((l2.length : Nat) : Int) := by omega
              have hi1 : (0 : Int) ≤ ((i : Nat) : Int) := by omega
              have he := pin_eq hpk hqk
              have hs1 : Go.RowKit.wrap64 (((i : Nat) : Int) + 1) = ((i + 1 : Nat) : Int) := wnat (by omega) (by omega)
              have hx : decide (p = q) = true := by rw [hp, hq] at hne; simpa using hne
              refine seq_k fun N22 M22 hN22 hM22 => ?_
              refine region_k fun K23 hK23 => ?_
              simp only [go_sem, hne, decide_true, decide_false, Bool.not_false, Bool.not_true, List.length_map, hg0, hg1, hpk, hqk, hpl, hql, Int.toNat_natCast, hc1, hc2, hi1, hs1, he, hx, Bool.not_false, Bool.not_true]
              all_goals repeat' (first | apply And.intro | intro _)
              all_goals
                refine hK23 _ ?_
                refine hN22 _ ?_
                refine seq_k fun N24 M24 hN24 hM24 => ?_
                refine cond_k rfl (fun hc => ?_) (fun hc => ?_)
                · try simp only [go_sem, hne, decide_true, decide_false, Bool.not_false, Bool.not_true, List.length_map, hg0, hg1, hpk, hqk, hpl, hql, Int.toNat_natCast, hc1, hc2, hi1, hs1, he, hx, Bool.not_false, Bool.not_true] at hc
                  all_goals
                    refine skip_k ?_
                    refine hN24 _ ?_
                    refine seq_k fun N25 M25 hN25 hM25 => ?_
                    refine block_k fun B26 bn26 bx26 br26 bi26 => ?_
                    refine seq_k fun N27 M27 hN27 hM27 => ?_
                    refine region_k fun K28 hK28 => ?_
                    simp only [go_sem, hne, decide_true, decide_false, Bool.not_false, Bool.not_true, List.length_map, hg0, hg1, hpk, hqk, hpl, hql, Int.toNat_natCast, hc1, hc2, hi1, hs1, he, hx, Bool.not_false, Bool.not_true]
                    all_goals repeat' (first | apply And.intro | intro _)
                    all_goals
                      refine hK28 _ ?_
                      refine hN27 _ ?_
                      refine seq_k fun N29 M29 hN29 hM29 => ?_
                      refine draw_k [16, 17, 18, 19, 20, 21, 22, 23, 24] [0, 0, 3, 7, 0, 0, 48, 112, 255] [] mixed (by kernel_rfl) (by simp only [go_sem]) fun K30 hK30 => ?_
                      simp only [go_sem, hne, decide_true, decide_false, Bool.not_false, Bool.not_true, List.length_map, hg0, hg1, hpk, hqk, hpl, hql, Int.toNat_natCast, hc1, hc2, hi1, hs1, he, hx, Bool.not_false, Bool.not_true]
                      all_goals repeat' (first | apply And.intro | intro _)
                      all_goals
                        refine hK30 _ _ ?_ ?_
                        · first | trivial | (simp only [go_sem]; done) | (simp only [go_sem]; simp; done) | (simp only [go_sem]; simp; simp only [go_sem])
                        refine hN29 _ ?_
                        refine cond_k rfl (fun hc => ?_) (fun hc => ?_)
                        · exfalso; revert hc; simp [go_sem, hne, decide_true, decide_false, Bool.not_false, Bool.not_true, List.length_map, hg0, hg1, hpk, hqk, hpl, hql, Int.toNat_natCast, hc1, hc2, hi1, hs1, he, hx, Bool.not_false, Bool.not_true]
                        · try simp only [go_sem, hne, decide_true, decide_false, Bool.not_false, Bool.not_true, List.length_map, hg0, hg1, hpk, hqk, hpl, hql, Int.toNat_natCast, hc1, hc2, hi1, hs1, he, hx, Bool.not_false, Bool.not_true] at hc
                          all_goals
                            refine skip_k ?_
                            refine bn26 _ ?_
                            refine hN25 _ ?_
                            refine region_k fun K31 hK31 => ?_
                            simp only [go_sem, hne, decide_true, decide_false, Bool.not_false, Bool.not_true, List.length_map, hg0, hg1, hpk, hqk, hpl, hql, Int.toNat_natCast, hc1, hc2, hi1, hs1, he, hx, Bool.not_false, Bool.not_true]
                            all_goals repeat' (first | apply And.intro | intro _)
                            all_goals
                              refine hK31 _ ?_
                              refine hN10 ⟨i + 1, hlt, fun j hj => by rcases Nat.lt_succ_iff_lt_or_eq.mp hj with h | rfl; exact hg j h; exact hne⟩ _ ?_ ?_ ?_
                              · (show l.length - (i + 1) < l.length - i; omega)
                              · (simp only [go_sem, leX, List.cons_append, List.nil_append]; try simp)
                              · (simp only [go_sem, leX, List.cons_append, List.nil_append]; try simp)
                · exfalso; revert hc; simp [go_sem, hne, decide_true, decide_false, Bool.not_false, Bool.not_true, List.length_map, hg0, hg1, hpk, hqk, hpl, hql, Int.toNat_natCast, hc1, hc2, hi1, hs1, he, hx, Bool.not_false, Bool.not_true]
            · have hc9 : ¬ ((i : Nat) : Int) < ((l.length : Nat) : Int) := by omega
              have hff : decide (l = l2) = true := by simp; exact list_same hn (fun j hj => hg j (by omega))
              refine seq_k fun N32 M32 hN32 hM32 => ?_
              refine region_k fun K33 hK33 => ?_
              simp only [go_sem, hne, decide_true, decide_false, Bool.not_false, Bool.not_true, List.length_map, hc9]
              all_goals repeat' (first | apply And.intro | intro _)
              all_goals
                refine hK33 _ ?_
                refine hN32 _ ?_
                refine seq_k fun N34 M34 hN34 hM34 => ?_
                refine cond_k rfl (fun hc => ?_) (fun hc => ?_)
                · exfalso; revert hc; simp [go_sem, hne, decide_true, decide_false, Bool.not_false, Bool.not_true, List.length_map, hc9]
                · try simp only [go_sem, hne, decide_true, decide_false, Bool.not_false, Bool.not_true, List.length_map, hc9] at hc
                  all_goals
                    refine exit_k ?_
                    refine hM34 _ _ ?_
                    refine hM10 _ _ ?_
                    refine bx9 _ ?_
                    refine hN6 _ ?_
                    refine seq_k fun N35 M35 hN35 hM35 => ?_
                    refine region_k fun K36 hK36 => ?_
                    simp only [go_sem, hne, decide_true, decide_false, Bool.not_false, Bool.not_true, List.length_map, hc9]
                    all_goals repeat' (first | apply And.intro | intro _)
                    all_goals
                      refine hK36 _ ?_
                      refine hN35 _ ?_
                      refine ret_k ?_
                      simp only [go_sem, hne, decide_true, decide_false, Bool.not_false, Bool.not_true, List.length_map, hc9]
                      all_goals (rw [hff])
theorem same_pins (l l2 : List PinD) (hl : ∀ p ∈ l, p.ok) (hl2 : ∀ p ∈ l2, p.ok) (ex ex2 : Bool) (hll : l.length ≤ 9223372036854775807) : Ct Try.prog 29 [.w (.one (.pl (.R ex 34 (pinRows l)))), .w (.one (.pl (.R ex2 34 (pinRows l2))))] (fun v m => v = .w (.one (.pl (.b (decide (l = l2)))))) := by
  by_cases hn : l.length = l2.length
  · exact same_pins_loop l l2 hl hl2 ex ex2 hn hll
  · have e : decide (l = l2) = false := by simp; intro e; exact hn (by rw [e])
    rw [e]; exact same_pins_len l l2 hl hl2 ex ex2 hn
end Go.Sy
