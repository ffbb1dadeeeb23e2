/- Walks: a pin that is turned: another key, gone, forgotten; what the code does. -/
import Derived.Test.YtmopmlnpoeeomaavaA11
import Derived.Test.YtmopmlnpoeeomaavaA13
import Derived.Test.YtmopmlnpoeeomaavE3
set_option linter.unusedVariables false
set_option linter.unusedSimpArgs false
namespace Go.Sy
open Go.Proofs
attribute [local irreducible] atCall HT runOps runD onC onE onO onG goV goA goS onSt onGuard
/-- pins, that of a name turned -/
def turnP (l : List PinD) (s : List UInt8) (mid : PinD → List PinD) : Int × List PinD := if pinsFault l = 0 then (match l.find? (fun p => decide (p.name = s)) with
  | some p => (0, l.take (idxP l s) ++ (mid p ++ l.drop (idxP l s + 1)))
  | none => (5, [])) else (pinsFault l, [])
def rotM (k : List UInt8) (p : PinD) : List PinD := [⟨p.name, k, false⟩]
def revM (p : PinD) : List PinD := [⟨p.name, p.key, true⟩]
def fgtM (p : PinD) : List PinD := []
section
variable {l : List PinD} {s k : List UInt8} {p : PinD} {mid : PinD → List PinD}
theorem turn_bad (h : ¬ pinsFault l = 0) : turnP l s mid = (pinsFault l, []) := if_neg h
theorem turn_no (h : pinsFault l = 0) (hf : l.find? (fun p => decide (p.name = s)) = none) : turnP l s mid = (5, []) := by unfold turnP; rw [if_pos h, hf]
theorem turn_yes (h : pinsFault l = 0) (hf : l.find? (fun p => decide (p.name = s)) = some p) : turnP l s mid = (0, l.take (idxP l s) ++ (mid p ++ l.drop (idxP l s + 1))) := by unfold turnP; rw [if_pos h, hf]
theorem cap_le2 {n : Nat} (h : n ≤ 20) : n * 56 ≤ 140737488355328 := Nat.le_trans (Nat.mul_le_mul_right 56 h) (by decide)
theorem turn_sound (hl : ∀ p ∈ l, p.ok) (hm : ∀ p, p.ok → (∀ q ∈ mid p, q.ok) ∧ (mid p).length ≤ 1) : (∀ p ∈ (turnP l s mid).2, p.ok) ∧ (turnP l s mid).2.length ≤ 9223372036854775807 := by
  by_cases h : pinsFault l = 0
  · have h8 := (pinsFault_zero h).1
    unfold turnP
    rw [if_pos h]
    split
    · rename_i p hp
      have hpo := hm p (hl p (List.mem_of_find?_eq_some hp))
      refine ⟨fun q hq => ?_, ?_⟩
      · rcases List.mem_append.mp hq with hq | hq
        · exact hl q (List.mem_of_mem_take hq)
        · rcases List.mem_append.mp hq with hq | hq
          · exact hpo.1 q hq
          · exact hl q (List.mem_of_mem_drop hq)
      · have := hpo.2
        simp only [List.length_append, List.length_take, List.length_drop]; omega
    · exact ⟨fun p hp => (by cases hp), by simp⟩
  · rw [turn_bad h]; exact ⟨fun p hp => (by cases hp), by simp⟩
end
def pinsVK (K : List (Nat × Ob)) (l : List PinD) (e : Int) (v : V) (m : List (Nat × Ob)) : Prop := v = .tup [.one (.pl (.R false 34 (pinRows l))), .one (.pl (.i e))] ∧ m = K
theorem pins_nilK {K : List (Nat × Ob)} {e : Int} {m : List (Nat × Ob)} {sz : Nat} {ex : Bool} (hm : ∀ k o, look K k = some o → look m k = some o) : Told (pinsVK K [] e) (.tup [.one (.pl (.R ex sz [])), .one (.pl (.i e))]) m :=
  told_weak (tup2_weak (a' := .pl (.R false 34 (pinRows []))) fun d y h => nil_weak d y h) (told_keep rfl hm ⟨rfl, rfl⟩)
theorem pins_objK {K : List (Nat × Ob)} {j n : Nat} {e : Int} {m : List (Nat × Ob)} {b : Bool} {l : List PinD} (hk : look m j = some ⟨b, pinsC l⟩) (hl : ∀ p ∈ l, p.ok) (hn : n = l.length) (hm : ∀ k o, look K k = some o → look (sealM j (pinsP l) m) k = some o) (hlt : j < 500000 := by decide) : Told (pinsVK K l e) (.tup [.one (.s j [] n 34), .one (.pl (.i e))]) m := by
  refine told_seal j (pinsP l) hk hlt ?_
  simp only [sealV, List.map_cons, List.map_nil, sealW, pins_seal hl hn]
  exact told_keep rfl hm ⟨rfl, rfl⟩
theorem pinsC_len1 {p : PinD} (h : p.ok) : (pinsC [p]).length = 34 := by
  have := pinsC_length (l := [p]) (fun q hq => by rw [List.mem_singleton.mp hq]; exact h)
  simpa using this
theorem bytes_pls (k : List UInt8) : bytesC k = pls (k.map .u8) := (pls_bytes k).symm
theorem keyK {k : List UInt8} {m : List (Nat × Ob)} (h : look m 500000 = some ⟨false, bytesC k⟩) : ∀ j o, look [(500000, (⟨false, bytesC k⟩ : Ob))] j = some o → look m j = some o := keep_one h
theorem keyS {k : List UInt8} {m : List (Nat × Ob)} {n : Nat} {c : List PL} (hn : n < 500000) (h : look m 500000 = some ⟨false, bytesC k⟩) : ∀ j o, look [(500000, (⟨false, bytesC k⟩ : Ob))] j = some o → look (sealM n c m) j = some o := by
  rw [bytes_pls] at h ⊢
  exact keep_one (look_seal_keep (by omega) (by decide) h)
set_option maxHeartbeats 400000 in
theorem rot_1 (p : PinD) (hp : p.ok) (k : List UInt8) (hk : k.length = 32) :
    Ct Try.prog 50 [.w (.agg (.pl (.str p.name) :: (bytesC p.key ++ [.pl (.b p.gone)]))), .w (.one (.pl (.q (k.map .u8) [])))] (Tidy (fun v m => v = .w (.one (.s 0 [] 1 34)) ∧ m = [(0, ⟨true, pinsC [⟨p.name, k, false⟩]⟩)])) := by
  have hpk := hp.1
  refine Ct.k Try.func50 rfl Try.ntmps50 (congrArg Array.toList Try.results50) (by simp) fun w0 ro => ?_
  refine seq_k fun N1 M1 hN1 hM1 => ?_
  refine region_k fun K2 hK2 => ?_
  simp only [go_sem, hpk, hk, List.length_map]
  all_goals repeat' (first | apply And.intro | intro _)
  all_goals
    refine hK2 _ ?_
    refine hN1 _ ?_
    refine seq_k fun N3 M3 hN3 hM3 => ?_
    refine region_k fun K4 hK4 => ?_
    simp only [go_sem, hpk, hk, List.length_map]
    all_goals repeat' (first | apply And.intro | intro _)
    all_goals
      refine hK4 _ ?_
      refine hN3 _ ?_
      refine ret_k ?_
      simp only [go_sem, hpk, hk, List.length_map]
      all_goals (exact one_own (by simp [look, pinsC_one, pinsC, pinsP, pinC, pls, bytesC]))
set_option maxHeartbeats 400000 in
theorem rev_1 (p : PinD) (hp : p.ok) :
    Ct Try.prog 51 [.w (.agg (.pl (.str p.name) :: (bytesC p.key ++ [.pl (.b p.gone)])))] (Tidy (fun v m => v = .w (.one (.s 0 [] 1 34)) ∧ m = [(0, ⟨true, pinsC [⟨p.name, p.key, true⟩]⟩)])) := by
  have hpk := hp.1
  refine Ct.k Try.func51 rfl Try.ntmps51 (congrArg Array.toList Try.results51) (by simp) fun w0 ro => ?_
  refine seq_k fun N1 M1 hN1 hM1 => ?_
  refine region_k fun K2 hK2 => ?_
  simp only [go_sem, hpk, List.length_map]
  all_goals repeat' (first | apply And.intro | intro _)
  all_goals
    refine hK2 _ ?_
    refine hN1 _ ?_
    refine seq_k fun N3 M3 hN3 hM3 => ?_
    refine region_k fun K4 hK4 => ?_
    simp only [go_sem, hpk, List.length_map]
    all_goals repeat' (first | apply And.intro | intro _)
    all_goals
      refine hK4 _ ?_
      refine hN3 _ ?_
      refine seq_k fun N5 M5 hN5 hM5 => ?_
      refine region_k fun K6 hK6 => ?_
      simp only [go_sem, hpk, List.length_map]
      all_goals repeat' (first | apply And.intro | intro _)
      all_goals
        refine hK6 _ ?_
        refine hN5 _ ?_
        refine ret_k ?_
        simp only [go_sem, hpk, List.length_map]
        all_goals (exact one_own (by simp [look, pinsC_one, pinsC, pinsP, pinC, pls, bytesC]))
set_option maxHeartbeats 400000 in
theorem fgt_1 (p : PinD) (hp : p.ok) :
    Ct Try.prog 52 [.w (.agg (.pl (.str p.name) :: (bytesC p.key ++ [.pl (.b p.gone)])))] (fun v m => v = .w (.one (.pl (.R true 1 [])))) := by
  have hpk := hp.1
  refine Ct.k Try.func52 rfl Try.ntmps52 (congrArg Array.toList Try.results52) (by simp) fun w0 ro => ?_
  refine seq_k fun N1 M1 hN1 hM1 => ?_
  refine region_k fun K2 hK2 => ?_
  simp only [go_sem, hpk, List.length_map]
  all_goals repeat' (first | apply And.intro | intro _)
  all_goals
    refine hK2 _ ?_
    refine hN1 _ ?_
    refine seq_k fun N3 M3 hN3 hM3 => ?_
    refine region_k fun K4 hK4 => ?_
    simp only [go_sem, hpk, List.length_map]
    all_goals repeat' (first | apply And.intro | intro _)
    all_goals
      refine hK4 _ ?_
      refine hN3 _ ?_
      refine ret_k ?_
      simp only [go_sem, hpk, List.length_map]
      all_goals rfl
set_option maxHeartbeats 400000 in
theorem ch_rot_bad (l : List PinD) (hl : ∀ p ∈ l, p.ok) (ex : Bool) (s : List UInt8) (k : List UInt8) (hkk : k.length = 32) (hf : ¬ pinsFault l = 0) :
    CtM Try.prog 49 [.w (.one (.pl (.R ex 34 (pinRows l)))), .w (.one (.pl (.str s))), .w (.one (.fn 50 [500000]))] [(500000, ⟨false, bytesC k⟩)] (Told (pinsVK [(500000, ⟨false, bytesC k⟩)] (turnP l s (rotM k)).2 (turnP l s (rotM k)).1)) := by
  refine CtM.k Try.func49 rfl Try.ntmps49 (congrArg Array.toList Try.results49) (by simp) fun w0 ro may fx => ?_
  refine seq_k fun N1 M1 hN1 hM1 => ?_
  refine region_k fun K2 hK2 => ?_
  simp only [go_sem, decide_false, decide_true, Bool.not_true, Bool.not_false, List.length_map, hf]
  all_goals repeat' (first | apply And.intro | intro _)
  all_goals
    refine hK2 _ ?_
    refine hN1 _ ?_
    refine seq_k fun N3 M3 hN3 hM3 => ?_
    refine seq_k fun N4 M4 hN4 hM4 => ?_
    refine region_k fun K5 hK5 => ?_
    simp only [go_sem, decide_false, decide_true, Bool.not_true, Bool.not_false, List.length_map, hf]
    all_goals repeat' (first | apply And.intro | intro _)
    all_goals refine call_view (fun k => k) (fun _ _ => rfl) (by first | rfl | (simp only [go_sem, decide_false, decide_true, Bool.not_true, Bool.not_false, List.length_map, hf]; rfl) | simp only [go_sem, decide_false, decide_true, Bool.not_true, Bool.not_false, List.length_map, hf]) ((pins_check l hl ex).plain fun _ _ h => h) ?_
    all_goals (rintro v m ⟨hR, hm⟩; subst hR; subst hm)
    all_goals refine And.intro (by first | rfl | simp only [go_sem, decide_false, decide_true, Bool.not_true, Bool.not_false, List.length_map, hf]) (And.intro (by first | rfl | simp only [go_sem, decide_false, decide_true, Bool.not_true, Bool.not_false, List.length_map, hf]) ?_)
    all_goals simp only [go_sem, decide_false, decide_true, Bool.not_true, Bool.not_false, List.length_map, hf]
    all_goals repeat' (first | apply And.intro | intro _)
    all_goals
      refine hK5 _ ?_
      refine hN4 _ ?_
      refine seq_k fun N6 M6 hN6 hM6 => ?_
      refine region_k fun K7 hK7 => ?_
      simp only [go_sem, decide_false, decide_true, Bool.not_true, Bool.not_false, List.length_map, hf]
      all_goals repeat' (first | apply And.intro | intro _)
      all_goals
        refine hK7 _ ?_
        refine hN6 _ ?_
        refine cond_k rfl (fun hc => ?_) (fun hc => ?_)
        · try simp only [go_sem, decide_false, decide_true, Bool.not_true, Bool.not_false, List.length_map, hf] at hc
          all_goals
            refine seq_k fun N8 M8 hN8 hM8 => ?_
            refine region_k fun K9 hK9 => ?_
            simp only [go_sem, decide_false, decide_true, Bool.not_true, Bool.not_false, List.length_map, hf]
            all_goals repeat' (first | apply And.intro | intro _)
            all_goals
              refine hK9 _ ?_
              refine hN8 _ ?_
              refine ret_k ?_
              refine hM3 _ _ ?_
              simp only [go_sem, decide_false, decide_true, Bool.not_true, Bool.not_false, List.length_map, hf]
              all_goals (rw [turn_bad hf]; exact pins_nilK (keyK (by simp [look])))
        · exfalso; revert hc; simp [go_sem, decide_false, decide_true, Bool.not_true, Bool.not_false, List.length_map, hf]
set_option maxHeartbeats 400000 in
theorem ch_rot_no (l : List PinD) (hl : ∀ p ∈ l, p.ok) (ex : Bool) (s : List UInt8) (k : List UInt8) (hkk : k.length = 32) (hf : pinsFault l = 0) (hx : hasP l s = false) :
    CtM Try.prog 49 [.w (.one (.pl (.R ex 34 (pinRows l)))), .w (.one (.pl (.str s))), .w (.one (.fn 50 [500000]))] [(500000, ⟨false, bytesC k⟩)] (Told (pinsVK [(500000, ⟨false, bytesC k⟩)] (turnP l s (rotM k)).2 (turnP l s (rotM k)).1)) := by
  refine CtM.k Try.func49 rfl Try.ntmps49 (congrArg Array.toList Try.results49) (by simp) fun w0 ro may fx => ?_
  refine seq_k fun N1 M1 hN1 hM1 => ?_
  refine region_k fun K2 hK2 => ?_
  simp only [go_sem, decide_false, decide_true, Bool.not_true, Bool.not_false, List.length_map, hf, hx]
  all_goals repeat' (first | apply And.intro | intro _)
  all_goals
    refine hK2 _ ?_
    refine hN1 _ ?_
    refine seq_k fun N3 M3 hN3 hM3 => ?_
    refine seq_k fun N4 M4 hN4 hM4 => ?_
    refine region_k fun K5 hK5 => ?_
    simp only [go_sem, decide_false, decide_true, Bool.not_true, Bool.not_false, List.length_map, hf, hx]
    all_goals repeat' (first | apply And.intro | intro _)
    all_goals refine call_view (fun k => k) (fun _ _ => rfl) (by first | rfl | (simp only [go_sem, decide_false, decide_true, Bool.not_true, Bool.not_false, List.length_map, hf, hx]; rfl) | simp only [go_sem, decide_false, decide_true, Bool.not_true, Bool.not_false, List.length_map, hf, hx]) ((pins_check l hl ex).plain fun _ _ h => h) ?_
    all_goals (rintro v m ⟨hR, hm⟩; subst hR; subst hm)
    all_goals refine And.intro (by first | rfl | simp only [go_sem, decide_false, decide_true, Bool.not_true, Bool.not_false, List.length_map, hf, hx]) (And.intro (by first | rfl | simp only [go_sem, decide_false, decide_true, Bool.not_true, Bool.not_false, List.length_map, hf, hx]) ?_)
    all_goals simp only [go_sem, decide_false, decide_true, Bool.not_true, Bool.not_false, List.length_map, hf, hx]
    all_goals repeat' (first | apply And.intro | intro _)
    all_goals
      refine hK5 _ ?_
      refine hN4 _ ?_
      refine seq_k fun N6 M6 hN6 hM6 => ?_
      refine region_k fun K7 hK7 => ?_
      simp only [go_sem, decide_false, decide_true, Bool.not_true, Bool.not_false, List.length_map, hf, hx]
      all_goals repeat' (first | apply And.intro | intro _)
      all_goals
        refine hK7 _ ?_
        refine hN6 _ ?_
        refine cond_k rfl (fun hc => ?_) (fun hc => ?_)
        · exfalso; revert hc; simp [go_sem, decide_false, decide_true, Bool.not_true, Bool.not_false, List.length_map, hf, hx]
        · try simp only [go_sem, decide_false, decide_true, Bool.not_true, Bool.not_false, List.length_map, hf, hx] at hc
          all_goals
            refine skip_k ?_
            refine hN3 _ ?_
            refine seq_k fun N8 M8 hN8 hM8 => ?_
            refine region_k fun K9 hK9 => ?_
            simp only [go_sem, decide_false, decide_true, Bool.not_true, Bool.not_false, List.length_map, hf, hx]
            all_goals repeat' (first | apply And.intro | intro _)
            all_goals refine call_view (fun k => k) (fun _ _ => rfl) (by first | rfl | (simp only [go_sem, decide_false, decide_true, Bool.not_true, Bool.not_false, List.length_map, hf, hx]; rfl) | simp only [go_sem, decide_false, decide_true, Bool.not_true, Bool.not_false, List.length_map, hf, hx]) ((find_ l hl ex s (srt_of hf)).plain fun _ _ h => h) ?_
            all_goals (rintro v m ⟨hR, hm⟩; subst hR; subst hm)
            all_goals refine And.intro (by first | rfl | simp only [go_sem, decide_false, decide_true, Bool.not_true, Bool.not_false, List.length_map, hf, hx]) (And.intro (by first | rfl | simp only [go_sem, decide_false, decide_true, Bool.not_true, Bool.not_false, List.length_map, hf, hx]) ?_)
            all_goals simp only [go_sem, decide_false, decide_true, Bool.not_true, Bool.not_false, List.length_map, hf, hx]
            all_goals repeat' (first | apply And.intro | intro _)
            all_goals
              refine hK9 _ ?_
              refine hN8 _ ?_
              refine seq_k fun N10 M10 hN10 hM10 => ?_
              refine seq_k fun N11 M11 hN11 hM11 => ?_
              refine region_k fun K12 hK12 => ?_
              simp only [go_sem, decide_false, decide_true, Bool.not_true, Bool.not_false, List.length_map, hf, hx]
              all_goals repeat' (first | apply And.intro | intro _)
              all_goals
                refine hK12 _ ?_
                refine hN11 _ ?_
                refine cond_k rfl (fun hc => ?_) (fun hc => ?_)
                · try simp only [go_sem, decide_false, decide_true, Bool.not_true, Bool.not_false, List.length_map, hf, hx] at hc
                  all_goals
                    refine seq_k fun N13 M13 hN13 hM13 => ?_
                    refine region_k fun K14 hK14 => ?_
                    simp only [go_sem, decide_false, decide_true, Bool.not_true, Bool.not_false, List.length_map, hf, hx]
                    all_goals repeat' (first | apply And.intro | intro _)
                    all_goals
                      refine hK14 _ ?_
                      refine hN13 _ ?_
                      refine ret_k ?_
                      refine hM10 _ _ ?_
                      simp only [go_sem, decide_false, decide_true, Bool.not_true, Bool.not_false, List.length_map, hf, hx]
                      all_goals (rw [turn_no hf (find_hasnt (srt_of hf) hx)]; exact pins_nilK (keyK (by simp [look])))
                · exfalso; revert hc; simp [go_sem, decide_false, decide_true, Bool.not_true, Bool.not_false, List.length_map, hf, hx]
set_option maxHeartbeats 800000 in
theorem ch_rot_yes (l : List PinD) (hl : ∀ p ∈ l, p.ok) (ex : Bool) (s : List UInt8) (k : List UInt8) (hkk : k.length = 32) (hf : pinsFault l = 0) (hx : hasP l s = true) :
    CtM Try.prog 49 [.w (.one (.pl (.R ex 34 (pinRows l)))), .w (.one (.pl (.str s))), .w (.one (.fn 50 [500000]))] [(500000, ⟨false, bytesC k⟩)] (Told (pinsVK [(500000, ⟨false, bytesC k⟩)] (turnP l s (rotM k)).2 (turnP l s (rotM k)).1)) := by
  obtain ⟨p, hp, hn, hlt, hfd⟩ := find_has (srt_of hf) hx
  have hm8 := (pinsFault_zero hf).1
  have hg0 := pinRows_get hp
  have hpo := hl p (List.mem_of_getElem? hp)
  have hk := hpo.1
  have hpl := pinC_length hk
  have hti : (l.take (idxP l s)).length = idxP l s := by rw [List.length_take]; omega
  have hdi : (l.drop (idxP l s + 1)).length = l.length - (idxP l s + 1) := List.length_drop
  have hot : ∀ p ∈ l.take (idxP l s), p.ok := fun p hp => hl p (List.mem_of_mem_take hp)
  have hod : ∀ p ∈ l.drop (idxP l s + 1), p.ok := fun p hp => hl p (List.mem_of_mem_drop hp)
  have hcl := pinsC_length hot
  rw [hti] at hcl
  have hc1 : ((idxP l s : Nat) : Int) ≤ ((l.length : Nat) : Int) := by omega
  have hc2 : (0 : Int) ≤ ((idxP l s : Nat) : Int) := by omega
  have hc3 : ((idxP l s : Nat) : Int) < ((l.length : Nat) : Int) := by omega
  have hc4 : ((idxP l s + 1 : Nat) : Int) ≤ ((l.length : Nat) : Int) := by omega
  have hc5 : (0 : Int) ≤ ((idxP l s + 1 : Nat) : Int) := by omega
  have hml : (idxP l s * 34 + 34 = (idxP l s + 1) * 34) = True := eq_true (by omega)
  obtain ⟨hcap1, hcap2, hcap3, hcap4, hs1⟩ : idxP l s * 56 ≤ 140737488355328 ∧ (idxP l s + 1) * 56 ≤ 140737488355328 ∧ (idxP l s + 1 + (l.length - (idxP l s + 1))) * 56 ≤ 140737488355328 ∧ (idxP l s + (l.length - (idxP l s + 1))) * 56 ≤ 140737488355328 ∧ Go.RowKit.wrap64 (((idxP l s : Nat) : Int) + 1) = ((idxP l s + 1 : Nat) : Int) := ⟨cap_le2 (by omega), cap_le2 (by omega), cap_le2 (by omega), cap_le2 (by omega), wnat (by omega) (by omega)⟩
  have hxo : (⟨p.name, k, false⟩ : PinD).ok := ⟨hkk, hpo.2⟩
  have hx34 := pinsC_len1 hxo
  refine CtM.k Try.func49 rfl Try.ntmps49 (congrArg Array.toList Try.results49) (by simp) fun w0 ro may fx => ?_
  refine seq_k fun N1 M1 hN1 hM1 => ?_
  refine region_k fun K2 hK2 => ?_
  simp only [go_sem, decide_false, decide_true, Bool.not_true, Bool.not_false, List.length_map, List.flatten_nil, hf, hx, hti, hdi, hcl, hg0, hk, hpl, hc1, hc2, hc3, hc4, hc5, hml, hcap1, hcap2, hcap3, hcap4, hs1, Nat.zero_add, Nat.add_zero, Int.toNat_natCast, List.drop_zero, Nat.sub_zero, List.length_cons, List.length_nil, hx34]
  all_goals repeat' (first | apply And.intro | intro _)
  all_goals
    refine hK2 _ ?_
    refine hN1 _ ?_
    refine seq_k fun N3 M3 hN3 hM3 => ?_
    refine seq_k fun N4 M4 hN4 hM4 => ?_
    refine region_k fun K5 hK5 => ?_
    simp only [go_sem, decide_false, decide_true, Bool.not_true, Bool.not_false, List.length_map, List.flatten_nil, hf, hx, hti, hdi, hcl, hg0, hk, hpl, hc1, hc2, hc3, hc4, hc5, hml, hcap1, hcap2, hcap3, hcap4, hs1, Nat.zero_add, Nat.add_zero, Int.toNat_natCast, List.drop_zero, Nat.sub_zero, List.length_cons, List.length_nil, hx34]
    all_goals repeat' (first | apply And.intro | intro _)
    all_goals refine call_view (fun k => k) (fun _ _ => rfl) (by first | rfl | (simp only [go_sem, decide_false, decide_true, Bool.not_true, Bool.not_false, List.length_map, List.flatten_nil, hf, hx, hti, hdi, hcl, hg0, hk, hpl, hc1, hc2, hc3, hc4, hc5, hml, hcap1, hcap2, hcap3, hcap4, hs1, Nat.zero_add, Nat.add_zero, Int.toNat_natCast, List.drop_zero, Nat.sub_zero, List.length_cons, List.length_nil, hx34]; rfl) | simp only [go_sem, decide_false, decide_true, Bool.not_true, Bool.not_false, List.length_map, List.flatten_nil, hf, hx, hti, hdi, hcl, hg0, hk, hpl, hc1, hc2, hc3, hc4, hc5, hml, hcap1, hcap2, hcap3, hcap4, hs1, Nat.zero_add, Nat.add_zero, Int.toNat_natCast, List.drop_zero, Nat.sub_zero, List.length_cons, List.length_nil, hx34]) ((pins_check l hl ex).plain fun _ _ h => h) ?_
    all_goals (rintro v m ⟨hR, hm⟩; subst hR; subst hm)
    all_goals refine And.intro (by first | rfl | simp only [go_sem, decide_false, decide_true, Bool.not_true, Bool.not_false, List.length_map, List.flatten_nil, hf, hx, hti, hdi, hcl, hg0, hk, hpl, hc1, hc2, hc3, hc4, hc5, hml, hcap1, hcap2, hcap3, hcap4, hs1, Nat.zero_add, Nat.add_zero, Int.toNat_natCast, List.drop_zero, Nat.sub_zero, List.length_cons, List.length_nil, hx34]) (And.intro (by first | rfl | simp only [go_sem, decide_false, decide_true, Bool.not_true, Bool.not_false, List.length_map, List.flatten_nil, hf, hx, hti, hdi, hcl, hg0, hk, hpl, hc1, hc2, hc3, hc4, hc5, hml, hcap1, hcap2, hcap3, hcap4, hs1, Nat.zero_add, Nat.add_zero, Int.toNat_natCast, List.drop_zero, Nat.sub_zero, List.length_cons, List.length_nil, hx34]) ?_)
    all_goals simp only [go_sem, decide_false, decide_true, Bool.not_true, Bool.not_false, List.length_map, List.flatten_nil, hf, hx, hti, hdi, hcl, hg0, hk, hpl, hc1, hc2, hc3, hc4, hc5, hml, hcap1, hcap2, hcap3, hcap4, hs1, Nat.zero_add, Nat.add_zero, Int.toNat_natCast, List.drop_zero, Nat.sub_zero, List.length_cons, List.length_nil, hx34]
    all_goals repeat' (first | apply And.intro | intro _)
    all_goals
      refine hK5 _ ?_
      refine hN4 _ ?_
      refine seq_k fun N6 M6 hN6 hM6 => ?_
      refine region_k fun K7 hK7 => ?_
      simp only [go_sem, decide_false, decide_true, Bool.not_true, Bool.not_false, List.length_map, List.flatten_nil, hf, hx, hti, hdi, hcl, hg0, hk, hpl, hc1, hc2, hc3, hc4, hc5, hml, hcap1, hcap2, hcap3, hcap4, hs1, Nat.zero_add, Nat.add_zero, Int.toNat_natCast, List.drop_zero, Nat.sub_zero, List.length_cons, List.length_nil, hx34]
      all_goals repeat' (first | apply And.intro | intro _)
      all_goals
        refine hK7 _ ?_
        refine hN6 _ ?_
        refine cond_k rfl (fun hc => ?_) (fun hc => ?_)
        · exfalso; revert hc; simp [go_sem, decide_false, decide_true, Bool.not_true, Bool.not_false, List.length_map, List.flatten_nil, hf, hx, hti, hdi, hcl, hg0, hk, hpl, hc1, hc2, hc3, hc4, hc5, hml, hcap1, hcap2, hcap3, hcap4, hs1, Nat.zero_add, Nat.add_zero, Int.toNat_natCast, List.drop_zero, Nat.sub_zero, List.length_cons, List.length_nil, hx34]
        · try simp only [go_sem, decide_false, decide_true, Bool.not_true, Bool.not_false, List.length_map, List.flatten_nil, hf, hx, hti, hdi, hcl, hg0, hk, hpl, hc1, hc2, hc3, hc4, hc5, hml, hcap1, hcap2, hcap3, hcap4, hs1, Nat.zero_add, Nat.add_zero, Int.toNat_natCast, List.drop_zero, Nat.sub_zero, List.length_cons, List.length_nil, hx34] at hc
          all_goals
            refine skip_k ?_
            refine hN3 _ ?_
            refine seq_k fun N8 M8 hN8 hM8 => ?_
            refine region_k fun K9 hK9 => ?_
            simp only [go_sem, decide_false, decide_true, Bool.not_true, Bool.not_false, List.length_map, List.flatten_nil, hf, hx, hti, hdi, hcl, hg0, hk, hpl, hc1, hc2, hc3, hc4, hc5, hml, hcap1, hcap2, hcap3, hcap4, hs1, Nat.zero_add, Nat.add_zero, Int.toNat_natCast, List.drop_zero, Nat.sub_zero, List.length_cons, List.length_nil, hx34]
            all_goals repeat' (first | apply And.intro | intro _)
            all_goals refine call_view (fun k => k) (fun _ _ => rfl) (by first | rfl | (simp only [go_sem, decide_false, decide_true, Bool.not_true, Bool.not_false, List.length_map, List.flatten_nil, hf, hx, hti, hdi, hcl, hg0, hk, hpl, hc1, hc2, hc3, hc4, hc5, hml, hcap1, hcap2, hcap3, hcap4, hs1, Nat.zero_add, Nat.add_zero, Int.toNat_natCast, List.drop_zero, Nat.sub_zero, List.length_cons, List.length_nil, hx34]; rfl) | simp only [go_sem, decide_false, decide_true, Bool.not_true, Bool.not_false, List.length_map, List.flatten_nil, hf, hx, hti, hdi, hcl, hg0, hk, hpl, hc1, hc2, hc3, hc4, hc5, hml, hcap1, hcap2, hcap3, hcap4, hs1, Nat.zero_add, Nat.add_zero, Int.toNat_natCast, List.drop_zero, Nat.sub_zero, List.length_cons, List.length_nil, hx34]) ((find_ l hl ex s (srt_of hf)).plain fun _ _ h => h) ?_
            all_goals (rintro v m ⟨hR, hm⟩; subst hR; subst hm)
            all_goals refine And.intro (by first | rfl | simp only [go_sem, decide_false, decide_true, Bool.not_true, Bool.not_false, List.length_map, List.flatten_nil, hf, hx, hti, hdi, hcl, hg0, hk, hpl, hc1, hc2, hc3, hc4, hc5, hml, hcap1, hcap2, hcap3, hcap4, hs1, Nat.zero_add, Nat.add_zero, Int.toNat_natCast, List.drop_zero, Nat.sub_zero, List.length_cons, List.length_nil, hx34]) (And.intro (by first | rfl | simp only [go_sem, decide_false, decide_true, Bool.not_true, Bool.not_false, List.length_map, List.flatten_nil, hf, hx, hti, hdi, hcl, hg0, hk, hpl, hc1, hc2, hc3, hc4, hc5, hml, hcap1, hcap2, hcap3, hcap4, hs1, Nat.zero_add, Nat.add_zero, Int.toNat_natCast, List.drop_zero, Nat.sub_zero, List.length_cons, List.length_nil, hx34]) ?_)
            all_goals simp only [go_sem, decide_false, decide_true, Bool.not_true, Bool.not_false, List.length_map, List.flatten_nil, hf, hx, hti, hdi, hcl, hg0, hk, hpl, hc1, hc2, hc3, hc4, hc5, hml, hcap1, hcap2, hcap3, hcap4, hs1, Nat.zero_add, Nat.add_zero, Int.toNat_natCast, List.drop_zero, Nat.sub_zero, List.length_cons, List.length_nil, hx34]
            all_goals repeat' (first | apply And.intro | intro _)
            all_goals
              refine hK9 _ ?_
              refine hN8 _ ?_
              refine seq_k fun N10 M10 hN10 hM10 => ?_
              refine seq_k fun N11 M11 hN11 hM11 => ?_
              refine region_k fun K12 hK12 => ?_
              simp only [go_sem, decide_false, decide_true, Bool.not_true, Bool.not_false, List.length_map, List.flatten_nil, hf, hx, hti, hdi, hcl, hg0, hk, hpl, hc1, hc2, hc3, hc4, hc5, hml, hcap1, hcap2, hcap3, hcap4, hs1, Nat.zero_add, Nat.add_zero, Int.toNat_natCast, List.drop_zero, Nat.sub_zero, List.length_cons, List.length_nil, hx34]
              all_goals repeat' (first | apply And.intro | intro _)
              all_goals
                refine hK12 _ ?_
                refine hN11 _ ?_
                refine cond_k rfl (fun hc => ?_) (fun hc => ?_)
                · exfalso; revert hc; simp [go_sem, decide_false, decide_true, Bool.not_true, Bool.not_false, List.length_map, List.flatten_nil, hf, hx, hti, hdi, hcl, hg0, hk, hpl, hc1, hc2, hc3, hc4, hc5, hml, hcap1, hcap2, hcap3, hcap4, hs1, Nat.zero_add, Nat.add_zero, Int.toNat_natCast, List.drop_zero, Nat.sub_zero, List.length_cons, List.length_nil, hx34]
                · try simp only [go_sem, decide_false, decide_true, Bool.not_true, Bool.not_false, List.length_map, List.flatten_nil, hf, hx, hti, hdi, hcl, hg0, hk, hpl, hc1, hc2, hc3, hc4, hc5, hml, hcap1, hcap2, hcap3, hcap4, hs1, Nat.zero_add, Nat.add_zero, Int.toNat_natCast, List.drop_zero, Nat.sub_zero, List.length_cons, List.length_nil, hx34] at hc
                  all_goals
                    refine skip_k ?_
                    refine hN10 _ ?_
                    refine seq_k fun N13 M13 hN13 hM13 => ?_
                    refine region_k fun K14 hK14 => ?_
                    simp only [go_sem, decide_false, decide_true, Bool.not_true, Bool.not_false, List.length_map, List.flatten_nil, hf, hx, hti, hdi, hcl, hg0, hk, hpl, hc1, hc2, hc3, hc4, hc5, hml, hcap1, hcap2, hcap3, hcap4, hs1, Nat.zero_add, Nat.add_zero, Int.toNat_natCast, List.drop_zero, Nat.sub_zero, List.length_cons, List.length_nil, hx34]
                    all_goals repeat' (first | apply And.intro | intro _)
                    all_goals
                      refine hK14 _ ?_
                      refine hN13 _ ?_
                      refine seq_k fun N15 M15 hN15 hM15 => ?_
                      refine draw_k [30, 31, 32, 33, 34, 35, 36, 37, 38, 39, 40, 41, 42, 6, 7, 90] [0, 0, 0, 0, 12, 28, 62, 127, 0, 0, 512, 1792, 4095, 8191, 16383] [(7, 8), (7, 9), (7, 10), (7, 11)] mixed (by kernel_rfl) (by simp only [go_sem]) fun K16 hK16 => ?_
                      simp only [go_sem, decide_false, decide_true, Bool.not_true, Bool.not_false, List.length_map, List.flatten_nil, hf, hx, hti, hdi, hcl, hg0, hk, hpl, hc1, hc2, hc3, hc4, hc5, hml, hcap1, hcap2, hcap3, hcap4, hs1, Nat.zero_add, Nat.add_zero, Int.toNat_natCast, List.drop_zero, Nat.sub_zero, List.length_cons, List.length_nil, hx34]
                      all_goals repeat' (first | apply And.intro | intro _)
                      all_goals refine call_drawfn (fun _ => 90) (.w (.one (.s 0 [] 1 34))) [(0, ⟨true, pinsC [⟨p.name, k, false⟩]⟩)] (by simp only [go_sem, decide_false, decide_true, Bool.not_true, Bool.not_false, List.length_map, List.flatten_nil, hf, hx, hti, hdi, hcl, hg0, hk, hpl, hc1, hc2, hc3, hc4, hc5, hml, hcap1, hcap2, hcap3, hcap4, hs1, Nat.zero_add, Nat.add_zero, Int.toNat_natCast, List.drop_zero, Nat.sub_zero, List.length_cons, List.length_nil, hx34]; rfl) (by first | rfl | (simp only [go_sem, viewC, decide_false, decide_true, Bool.not_true, Bool.not_false, List.length_map, List.flatten_nil, hf, hx, hti, hdi, hcl, hg0, hk, hpl, hc1, hc2, hc3, hc4, hc5, hml, hcap1, hcap2, hcap3, hcap4, hs1, Nat.zero_add, Nat.add_zero, Int.toNat_natCast, List.drop_zero, Nat.sub_zero, List.length_cons, List.length_nil, hx34]; rfl) | simp only [go_sem, viewC, decide_false, decide_true, Bool.not_true, Bool.not_false, List.length_map, List.flatten_nil, hf, hx, hti, hdi, hcl, hg0, hk, hpl, hc1, hc2, hc3, hc4, hc5, hml, hcap1, hcap2, hcap3, hcap4, hs1, Nat.zero_add, Nat.add_zero, Int.toNat_natCast, List.drop_zero, Nat.sub_zero, List.length_cons, List.length_nil, hx34]) (fun _ _ => rfl) (by first | rfl | (simp only [go_sem, decide_false, decide_true, Bool.not_true, Bool.not_false, List.length_map, List.flatten_nil, hf, hx, hti, hdi, hcl, hg0, hk, hpl, hc1, hc2, hc3, hc4, hc5, hml, hcap1, hcap2, hcap3, hcap4, hs1, Nat.zero_add, Nat.add_zero, Int.toNat_natCast, List.drop_zero, Nat.sub_zero, List.length_cons, List.length_nil, hx34]; rfl) | simp only [go_sem, decide_false, decide_true, Bool.not_true, Bool.not_false, List.length_map, List.flatten_nil, hf, hx, hti, hdi, hcl, hg0, hk, hpl, hc1, hc2, hc3, hc4, hc5, hml, hcap1, hcap2, hcap3, hcap4, hs1, Nat.zero_add, Nat.add_zero, Int.toNat_natCast, List.drop_zero, Nat.sub_zero, List.length_cons, List.length_nil, hx34]) ((rot_1 p hpo k hkk).tidied) ?_ ?_
                      all_goals try (refine And.intro ?_ (And.intro ?_ (And.intro ?_ ?_)) <;> first | rfl | simp only [go_sem])
                      all_goals simp only [go_sem, decide_false, decide_true, Bool.not_true, Bool.not_false, List.length_map, List.flatten_nil, hf, hx, hti, hdi, hcl, hg0, hk, hpl, hc1, hc2, hc3, hc4, hc5, hml, hcap1, hcap2, hcap3, hcap4, hs1, Nat.zero_add, Nat.add_zero, Int.toNat_natCast, List.drop_zero, Nat.sub_zero, List.length_cons, List.length_nil, hx34]
                      all_goals repeat' (first | apply And.intro | intro _)
                      all_goals
                        refine hK16 _ _ ?_ ?_
                        · first | trivial | (simp only [go_sem]; done) | (simp only [go_sem]; simp; done) | (simp only [go_sem]; simp; simp only [go_sem])
                        refine hN15 _ ?_
                        refine ret_k ?_
                        simp only [go_sem, decide_false, decide_true, Bool.not_true, Bool.not_false, List.length_map, List.flatten_nil, hf, hx, hti, hdi, hcl, hg0, hk, hpl, hc1, hc2, hc3, hc4, hc5, hml, hcap1, hcap2, hcap3, hcap4, hs1, Nat.zero_add, Nat.add_zero, Int.toNat_natCast, List.drop_zero, Nat.sub_zero, List.length_cons, List.length_nil, hx34]
                        all_goals (rw [turn_yes hf hfd]; exact pins_objK (b := true) (by simp [look, rotM, revM, fgtM, pinsC_nil, pinsC_append, pinsC_cons]) (fun q hq => by simp only [rotM, revM, fgtM, List.mem_append, List.mem_singleton, List.not_mem_nil, false_or] at hq; rcases hq with hq | hq; exact hot q hq; rcases hq with rfl | hq; exact hxo; exact hod q hq) (by simp [rotM, revM, fgtM, hti, hdi]; try omega) (keyS (by decide) (by simp [look])))
theorem ch_rot (l : List PinD) (hl : ∀ p ∈ l, p.ok) (ex : Bool) (s : List UInt8) (k : List UInt8) (hkk : k.length = 32) : CtM Try.prog 49 [.w (.one (.pl (.R ex 34 (pinRows l)))), .w (.one (.pl (.str s))), .w (.one (.fn 50 [500000]))] [(500000, ⟨false, bytesC k⟩)] (pinsVK [(500000, ⟨false, bytesC k⟩)] (turnP l s (rotM k)).2 (turnP l s (rotM k)).1) := by
  by_cases hf : pinsFault l = 0
  · cases hx : hasP l s with
    | true => exact (ch_rot_yes l hl ex s k hkk hf hx).told
    | false => exact (ch_rot_no l hl ex s k hkk hf hx).told
  · exact (ch_rot_bad l hl ex s k hkk hf).told
set_option maxHeartbeats 400000 in
theorem ch_rev_bad (l : List PinD) (hl : ∀ p ∈ l, p.ok) (ex : Bool) (s : List UInt8)  (hf : ¬ pinsFault l = 0) :
    Ct Try.prog 49 [.w (.one (.pl (.R ex 34 (pinRows l)))), .w (.one (.pl (.str s))), .w (.one (.fn 51 []))] (Told (pinsVK [] (turnP l s revM).2 (turnP l s revM).1)) := by
  refine Ct.k Try.func49 rfl Try.ntmps49 (congrArg Array.toList Try.results49) (by simp) fun w0 ro => ?_
  refine seq_k fun N1 M1 hN1 hM1 => ?_
  refine region_k fun K2 hK2 => ?_
  simp only [go_sem, decide_false, decide_true, Bool.not_true, Bool.not_false, List.length_map, hf]
  all_goals repeat' (first | apply And.intro | intro _)
  all_goals
    refine hK2 _ ?_
    refine hN1 _ ?_
    refine seq_k fun N3 M3 hN3 hM3 => ?_
    refine seq_k fun N4 M4 hN4 hM4 => ?_
    refine region_k fun K5 hK5 => ?_
    simp only [go_sem, decide_false, decide_true, Bool.not_true, Bool.not_false, List.length_map, hf]
    all_goals repeat' (first | apply And.intro | intro _)
    all_goals refine call_view (fun k => k) (fun _ _ => rfl) (by first | rfl | (simp only [go_sem, decide_false, decide_true, Bool.not_true, Bool.not_false, List.length_map, hf]; rfl) | simp only [go_sem, decide_false, decide_true, Bool.not_true, Bool.not_false, List.length_map, hf]) ((pins_check l hl ex).plain fun _ _ h => h) ?_
    all_goals (rintro v m ⟨hR, hm⟩; subst hR; subst hm)
    all_goals refine And.intro (by first | rfl | simp only [go_sem, decide_false, decide_true, Bool.not_true, Bool.not_false, List.length_map, hf]) (And.intro (by first | rfl | simp only [go_sem, decide_false, decide_true, Bool.not_true, Bool.not_false, List.length_map, hf]) ?_)
    all_goals simp only [go_sem, decide_false, decide_true, Bool.not_true, Bool.not_false, List.length_map, hf]
    all_goals repeat' (first | apply And.intro | intro _)
    all_goals
      refine hK5 _ ?_
      refine hN4 _ ?_
      refine seq_k fun N6 M6 hN6 hM6 => ?_
      refine region_k fun K7 hK7 => ?_
      simp only [go_sem, decide_false, decide_true, Bool.not_true, Bool.not_false, List.length_map, hf]
      all_goals repeat' (first | apply And.intro | intro _)
      all_goals
        refine hK7 _ ?_
        refine hN6 _ ?_
        refine cond_k rfl (fun hc => ?_) (fun hc => ?_)
        · try simp only [go_sem, decide_false, decide_true, Bool.not_true, Bool.not_false, List.length_map, hf] at hc
          all_goals
            refine seq_k fun N8 M8 hN8 hM8 => ?_
            refine region_k fun K9 hK9 => ?_
            simp only [go_sem, decide_false, decide_true, Bool.not_true, Bool.not_false, List.length_map, hf]
            all_goals repeat' (first | apply And.intro | intro _)
            all_goals
              refine hK9 _ ?_
              refine hN8 _ ?_
              refine ret_k ?_
              refine hM3 _ _ ?_
              simp only [go_sem, decide_false, decide_true, Bool.not_true, Bool.not_false, List.length_map, hf]
              all_goals (rw [turn_bad hf]; exact pins_nilK keep_nil)
        · exfalso; revert hc; simp [go_sem, decide_false, decide_true, Bool.not_true, Bool.not_false, List.length_map, hf]
set_option maxHeartbeats 400000 in
theorem ch_rev_no (l : List PinD) (hl : ∀ p ∈ l, p.ok) (ex : Bool) (s : List UInt8)  (hf : pinsFault l = 0) (hx : hasP l s = false) :
    Ct Try.prog 49 [.w (.one (.pl (.R ex 34 (pinRows l)))), .w (.one (.pl (.str s))), .w (.one (.fn 51 []))] (Told (pinsVK [] (turnP l s revM).2 (turnP l s revM).1)) := by
  refine Ct.k Try.func49 rfl Try.ntmps49 (congrArg Array.toList Try.results49) (by simp) fun w0 ro => ?_
  refine seq_k fun N1 M1 hN1 hM1 => ?_
  refine region_k fun K2 hK2 => ?_
  simp only [go_sem, decide_false, decide_true, Bool.not_true, Bool.not_false, List.length_map, hf, hx]
  all_goals repeat' (first | apply And.intro | intro _)
  all_goals
    refine hK2 _ ?_
    refine hN1 _ ?_
    refine seq_k fun N3 M3 hN3 hM3 => ?_
    refine seq_k fun N4 M4 hN4 hM4 => ?_
    refine region_k fun K5 hK5 => ?_
    simp only [go_sem, decide_false, decide_true, Bool.not_true, Bool.not_false, List.length_map, hf, hx]
    all_goals repeat' (first | apply And.intro | intro _)
    all_goals refine call_view (fun k => k) (fun _ _ => rfl) (by first | rfl | (simp only [go_sem, decide_false, decide_true, Bool.not_true, Bool.not_false, List.length_map, hf, hx]; rfl) | simp only [go_sem, decide_false, decide_true, Bool.not_true, Bool.not_false, List.length_map, hf, hx]) ((pins_check l hl ex).plain fun _ _ h => h) ?_
    all_goals (rintro v m ⟨hR, hm⟩; subst hR; subst hm)
    all_goals refine And.intro (by first | rfl | simp only [go_sem, decide_false, decide_true, Bool.not_true, Bool.not_false, List.length_map, hf, hx]) (And.intro (by first | rfl | simp only [go_sem, decide_false, decide_true, Bool.not_true, Bool.not_false, List.length_map, hf, hx]) ?_)
    all_goals simp only [go_sem, decide_false, decide_true, Bool.not_true, Bool.not_false, List.length_map, hf, hx]
    all_goals repeat' (first | apply And.intro | intro _)
    all_goals
      refine hK5 _ ?_
      refine hN4 _ ?_
      refine seq_k fun N6 M6 hN6 hM6 => ?_
      refine region_k fun K7 hK7 => ?_
      simp only [go_sem, decide_false, decide_true, Bool.not_true, Bool.not_false, List.length_map, hf, hx]
      all_goals repeat' (first | apply And.intro | intro _)
      all_goals
        refine hK7 _ ?_
        refine hN6 _ ?_
        refine cond_k rfl (fun hc => ?_) (fun hc => ?_)
        · exfalso; revert hc; simp [go_sem, decide_false, decide_true, Bool.not_true, Bool.not_false, List.length_map, hf, hx]
        · try simp only [go_sem, decide_false, decide_true, Bool.not_true, Bool.not_false, List.length_map, hf, hx] at hc
          all_goals
            refine skip_k ?_
            refine hN3 _ ?_
            refine seq_k fun N8 M8 hN8 hM8 => ?_
            refine region_k fun K9 hK9 => ?_
            simp only [go_sem, decide_false, decide_true, Bool.not_true, Bool.not_false, List.length_map, hf, hx]
            all_goals repeat' (first | apply And.intro | intro _)
            all_goals refine call_view (fun k => k) (fun _ _ => rfl) (by first | rfl | (simp only [go_sem, decide_false, decide_true, Bool.not_true, Bool.not_false, List.length_map, hf, hx]; rfl) | simp only [go_sem, decide_false, decide_true, Bool.not_true, Bool.not_false, List.length_map, hf, hx]) ((find_ l hl ex s (srt_of hf)).plain fun _ _ h => h) ?_
            all_goals (rintro v m ⟨hR, hm⟩; subst hR; subst hm)
            all_goals refine And.intro (by first | rfl | simp only [go_sem, decide_false, decide_true, Bool.not_true, Bool.not_false, List.length_map, hf, hx]) (And.intro (by first | rfl | simp only [go_sem, decide_false, decide_true, Bool.not_true, Bool.not_false, List.length_map, hf, hx]) ?_)
            all_goals simp only [go_sem, decide_false, decide_true, Bool.not_true, Bool.not_false, List.length_map, hf, hx]
            all_goals repeat' (first | apply And.intro | intro _)
            all_goals
              refine hK9 _ ?_
              refine hN8 _ ?_
              refine seq_k fun N10 M10 hN10 hM10 => ?_
              refine seq_k fun N11 M11 hN11 hM11 => ?_
              refine region_k fun K12 hK12 => ?_
              simp only [go_sem, decide_false, decide_true, Bool.not_true, Bool.not_false, List.length_map, hf, hx]
              all_goals repeat' (first | apply And.intro | intro _)
              all_goals
                refine hK12 _ ?_
                refine hN11 _ ?_
                refine cond_k rfl (fun hc => ?_) (fun hc => ?_)
                · try simp only [go_sem, decide_false, decide_true, Bool.not_true, Bool.not_false, List.length_map, hf, hx] at hc
                  all_goals
                    refine seq_k fun N13 M13 hN13 hM13 => ?_
                    refine region_k fun K14 hK14 => ?_
                    simp only [go_sem, decide_false, decide_true, Bool.not_true, Bool.not_false, List.length_map, hf, hx]
                    all_goals repeat' (first | apply And.intro | intro _)
                    all_goals
                      refine hK14 _ ?_
                      refine hN13 _ ?_
                      refine ret_k ?_
                      refine hM10 _ _ ?_
                      simp only [go_sem, decide_false, decide_true, Bool.not_true, Bool.not_false, List.length_map, hf, hx]
                      all_goals (rw [turn_no hf (find_hasnt (srt_of hf) hx)]; exact pins_nilK keep_nil)
                · exfalso; revert hc; simp [go_sem, decide_false, decide_true, Bool.not_true, Bool.not_false, List.length_map, hf, hx]
set_option maxHeartbeats 800000 in
theorem ch_rev_yes (l : List PinD) (hl : ∀ p ∈ l, p.ok) (ex : Bool) (s : List UInt8)  (hf : pinsFault l = 0) (hx : hasP l s = true) :
    Ct Try.prog 49 [.w (.one (.pl (.R ex 34 (pinRows l)))), .w (.one (.pl (.str s))), .w (.one (.fn 51 []))] (Told (pinsVK [] (turnP l s revM).2 (turnP l s revM).1)) := by
  obtain ⟨p, hp, hn, hlt, hfd⟩ := find_has (srt_of hf) hx
  have hm8 := (pinsFault_zero hf).1
  have hg0 := pinRows_get hp
  have hpo := hl p (List.mem_of_getElem? hp)
  have hk := hpo.1
  have hpl := pinC_length hk
  have hti : (l.take (idxP l s)).length = idxP l s := by rw [List.length_take]; omega
  have hdi : (l.drop (idxP l s + 1)).length = l.length - (idxP l s + 1) := List.length_drop
  have hot : ∀ p ∈ l.take (idxP l s), p.ok := fun p hp => hl p (List.mem_of_mem_take hp)
  have hod : ∀ p ∈ l.drop (idxP l s + 1), p.ok := fun p hp => hl p (List.mem_of_mem_drop hp)
  have hcl := pinsC_length hot
  rw [hti] at hcl
  have hc1 : ((idxP l s : Nat) : Int) ≤ ((l.length : Nat) : Int) := by omega
  have hc2 : (0 : Int) ≤ ((idxP l s : Nat) : Int) := by omega
  have hc3 : ((idxP l s : Nat) : Int) < ((l.length : Nat) : Int) := by omega
  have hc4 : ((idxP l s + 1 : Nat) : Int) ≤ ((l.length : Nat) : Int) := by omega
  have hc5 : (0 : Int) ≤ ((idxP l s + 1 : Nat) : Int) := by omega
  have hml : (idxP l s * 34 + 34 = (idxP l s + 1) * 34) = True := eq_true (by omega)
  obtain ⟨hcap1, hcap2, hcap3, hcap4, hs1⟩ : idxP l s * 56 ≤ 140737488355328 ∧ (idxP l s + 1) * 56 ≤ 140737488355328 ∧ (idxP l s + 1 + (l.length - (idxP l s + 1))) * 56 ≤ 140737488355328 ∧ (idxP l s + (l.length - (idxP l s + 1))) * 56 ≤ 140737488355328 ∧ Go.RowKit.wrap64 (((idxP l s : Nat) : Int) + 1) = ((idxP l s + 1 : Nat) : Int) := ⟨cap_le2 (by omega), cap_le2 (by omega), cap_le2 (by omega), cap_le2 (by omega), wnat (by omega) (by omega)⟩
  have hxo : (⟨p.name, p.key, true⟩ : PinD).ok := ⟨hk, hpo.2⟩
  have hx34 := pinsC_len1 hxo
  refine Ct.k Try.func49 rfl Try.ntmps49 (congrArg Array.toList Try.results49) (by simp) fun w0 ro => ?_
  refine seq_k fun N1 M1 hN1 hM1 => ?_
  refine region_k fun K2 hK2 => ?_
  simp only [go_sem, decide_false, decide_true, Bool.not_true, Bool.not_false, List.length_map, List.flatten_nil, hf, hx, hti, hdi, hcl, hg0, hk, hpl, hc1, hc2, hc3, hc4, hc5, hml, hcap1, hcap2, hcap3, hcap4, hs1, Nat.zero_add, Nat.add_zero, Int.toNat_natCast, List.drop_zero, Nat.sub_zero, List.length_cons, List.length_nil, hx34]
  all_goals repeat' (first | apply And.intro | intro _)
  all_goals
    refine hK2 _ ?_
    refine hN1 _ ?_
    refine seq_k fun N3 M3 hN3 hM3 => ?_
    refine seq_k fun N4 M4 hN4 hM4 => ?_
    refine region_k fun K5 hK5 => ?_
    simp only [go_sem, decide_false, decide_true, Bool.not_true, Bool.not_false, List.length_map, List.flatten_nil, hf, hx, hti, hdi, hcl, hg0, hk, hpl, hc1, hc2, hc3, hc4, hc5, hml, hcap1, hcap2, hcap3, hcap4, hs1, Nat.zero_add, Nat.add_zero, Int.toNat_natCast, List.drop_zero, Nat.sub_zero, List.length_cons, List.length_nil, hx34]
    all_goals repeat' (first | apply And.intro | intro _)
    all_goals refine call_view (fun k => k) (fun _ _ => rfl) (by first | rfl | (simp only [go_sem, decide_false, decide_true, Bool.not_true, Bool.not_false, List.length_map, List.flatten_nil, hf, hx, hti, hdi, hcl, hg0, hk, hpl, hc1, hc2, hc3, hc4, hc5, hml, hcap1, hcap2, hcap3, hcap4, hs1, Nat.zero_add, Nat.add_zero, Int.toNat_natCast, List.drop_zero, Nat.sub_zero, List.length_cons, List.length_nil, hx34]; rfl) | simp only [go_sem, decide_false, decide_true, Bool.not_true, Bool.not_false, List.length_map, List.flatten_nil, hf, hx, hti, hdi, hcl, hg0, hk, hpl, hc1, hc2, hc3, hc4, hc5, hml, hcap1, hcap2, hcap3, hcap4, hs1, Nat.zero_add, Nat.add_zero, Int.toNat_natCast, List.drop_zero, Nat.sub_zero, List.length_cons, List.length_nil, hx34]) ((pins_check l hl ex).plain fun _ _ h => h) ?_
    all_goals (rintro v m ⟨hR, hm⟩; subst hR; subst hm)
    all_goals refine And.intro (by first | rfl | simp only [go_sem, decide_false, decide_true, Bool.not_true, Bool.not_false, List.length_map, List.flatten_nil, hf, hx, hti, hdi, hcl, hg0, hk, hpl, hc1, hc2, hc3, hc4, hc5, hml, hcap1, hcap2, hcap3, hcap4, hs1, Nat.zero_add, Nat.add_zero, Int.toNat_natCast, List.drop_zero, Nat.sub_zero, List.length_cons, List.length_nil, hx34]) (And.intro (by first | rfl | simp only [go_sem, decide_false, decide_true, Bool.not_true, Bool.not_false, List.length_map, List.flatten_nil, hf, hx, hti, hdi, hcl, hg0, hk, hpl, hc1, hc2, hc3, hc4, hc5, hml, hcap1, hcap2, hcap3, hcap4, hs1, Nat.zero_add, Nat.add_zero, Int.toNat_natCast, List.drop_zero, Nat.sub_zero, List.length_cons, List.length_nil, hx34]) ?_)
    all_goals simp only [go_sem, decide_false, decide_true, Bool.not_true, Bool.not_false, List.length_map, List.flatten_nil, hf, hx, hti, hdi, hcl, hg0, hk, hpl, hc1, hc2, hc3, hc4, hc5, hml, hcap1, hcap2, hcap3, hcap4, hs1, Nat.zero_add, Nat.add_zero, Int.toNat_natCast, List.drop_zero, Nat.sub_zero, List.length_cons, List.length_nil, hx34]
    all_goals repeat' (first | apply And.intro | intro _)
    all_goals
      refine hK5 _ ?_
      refine hN4 _ ?_
      refine seq_k fun N6 M6 hN6 hM6 => ?_
      refine region_k fun K7 hK7 => ?_
      simp only [go_sem, decide_false, decide_true, Bool.not_true, Bool.not_false, List.length_map, List.flatten_nil, hf, hx, hti, hdi, hcl, hg0, hk, hpl, hc1, hc2, hc3, hc4, hc5, hml, hcap1, hcap2, hcap3, hcap4, hs1, Nat.zero_add, Nat.add_zero, Int.toNat_natCast, List.drop_zero, Nat.sub_zero, List.length_cons, List.length_nil, hx34]
      all_goals repeat' (first | apply And.intro | intro _)
      all_goals
        refine hK7 _ ?_
        refine hN6 _ ?_
        refine cond_k rfl (fun hc => ?_) (fun hc => ?_)
        · exfalso; revert hc; simp [go_sem, decide_false, decide_true, Bool.not_true, Bool.not_false, List.length_map, List.flatten_nil, hf, hx, hti, hdi, hcl, hg0, hk, hpl, hc1, hc2, hc3, hc4, hc5, hml, hcap1, hcap2, hcap3, hcap4, hs1, Nat.zero_add, Nat.add_zero, Int.toNat_natCast, List.drop_zero, Nat.sub_zero, List.length_cons, List.length_nil, hx34]
        · try simp only [go_sem, decide_false, decide_true, Bool.not_true, Bool.not_false, List.length_map, List.flatten_nil, hf, hx, hti, hdi, hcl, hg0, hk, hpl, hc1, hc2, hc3, hc4, hc5, hml, hcap1, hcap2, hcap3, hcap4, hs1, Nat.zero_add, Nat.add_zero, Int.toNat_natCast, List.drop_zero, Nat.sub_zero, List.length_cons, List.length_nil, hx34] at hc
          all_goals
            refine skip_k ?_
            refine hN3 _ ?_
            refine seq_k fun N8 M8 hN8 hM8 => ?_
            refine region_k fun K9 hK9 => ?_
            simp only [go_sem, decide_false, decide_true, Bool.not_true, Bool.not_false, List.length_map, List.flatten_nil, hf, hx, hti, hdi, hcl, hg0, hk, hpl, hc1, hc2, hc3, hc4, hc5, hml, hcap1, hcap2, hcap3, hcap4, hs1, Nat.zero_add, Nat.add_zero, Int.toNat_natCast, List.drop_zero, Nat.sub_zero, List.length_cons, List.length_nil, hx34]
            all_goals repeat' (first | apply And.intro | intro _)
            all_goals refine call_view (fun k => k) (fun _ _ => rfl) (by first | rfl | (simp only [go_sem, decide_false, decide_true, Bool.not_true, Bool.not_false, List.length_map, List.flatten_nil, hf, hx, hti, hdi, hcl, hg0, hk, hpl, hc1, hc2, hc3, hc4, hc5, hml, hcap1, hcap2, hcap3, hcap4, hs1, Nat.zero_add, Nat.add_zero, Int.toNat_natCast, List.drop_zero, Nat.sub_zero, List.length_cons, List.length_nil, hx34]; rfl) | simp only [go_sem, decide_false, decide_true, Bool.not_true, Bool.not_false, List.length_map, List.flatten_nil, hf, hx, hti, hdi, hcl, hg0, hk, hpl, hc1, hc2, hc3, hc4, hc5, hml, hcap1, hcap2, hcap3, hcap4, hs1, Nat.zero_add, Nat.add_zero, Int.toNat_natCast, List.drop_zero, Nat.sub_zero, List.length_cons, List.length_nil, hx34]) ((find_ l hl ex s (srt_of hf)).plain fun _ _ h => h) ?_
            all_goals (rintro v m ⟨hR, hm⟩; subst hR; subst hm)
            all_goals refine And.intro (by first | rfl | simp only [go_sem, decide_false, decide_true, Bool.not_true, Bool.not_false, List.length_map, List.flatten_nil, hf, hx, hti, hdi, hcl, hg0, hk, hpl, hc1, hc2, hc3, hc4, hc5, hml, hcap1, hcap2, hcap3, hcap4, hs1, Nat.zero_add, Nat.add_zero, Int.toNat_natCast, List.drop_zero, Nat.sub_zero, List.length_cons, List.length_nil, hx34]) (And.intro (by first | rfl | simp only [go_sem, decide_false, decide_true, Bool.not_true, Bool.not_false, List.length_map, List.flatten_nil, hf, hx, hti, hdi, hcl, hg0, hk, hpl, hc1, hc2, hc3, hc4, hc5, hml, hcap1, hcap2, hcap3, hcap4, hs1, Nat.zero_add, Nat.add_zero, Int.toNat_natCast, List.drop_zero, Nat.sub_zero, List.length_cons, List.length_nil, hx34]) ?_)
            all_goals simp only [go_sem, decide_false, decide_true, Bool.not_true, Bool.not_false, List.length_map, List.flatten_nil, hf, hx, hti, hdi, hcl, hg0, hk, hpl, hc1, hc2, hc3, hc4, hc5, hml, hcap1, hcap2, hcap3, hcap4, hs1, Nat.zero_add, Nat.add_zero, Int.toNat_natCast, List.drop_zero, Nat.sub_zero, List.length_cons, List.length_nil, hx34]
            all_goals repeat' (first | apply And.intro | intro _)
            all_goals
              refine hK9 _ ?_
              refine hN8 _ ?_
              refine seq_k fun N10 M10 hN10 hM10 => ?_
              refine seq_k fun N11 M11 hN11 hM11 => ?_
              refine region_k fun K12 hK12 => ?_
              simp only [go_sem, decide_false, decide_true, Bool.not_true, Bool.not_false, List.length_map, List.flatten_nil, hf, hx, hti, hdi, hcl, hg0, hk, hpl, hc1, hc2, hc3, hc4, hc5, hml, hcap1, hcap2, hcap3, hcap4, hs1, Nat.zero_add, Nat.add_zero, Int.toNat_natCast, List.drop_zero, Nat.sub_zero, List.length_cons, List.length_nil, hx34]
              all_goals repeat' (first | apply And.intro | intro _)
              all_goals
                refine hK12 _ ?_
                refine hN11 _ ?_
                refine cond_k rfl (fun hc => ?_) (fun hc => ?_)
                · exfalso; revert hc; simp [go_sem, decide_false, decide_true, Bool.not_true, Bool.not_false, List.length_map, List.flatten_nil, hf, hx, hti, hdi, hcl, hg0, hk, hpl, hc1, hc2, hc3, hc4, hc5, hml, hcap1, hcap2, hcap3, hcap4, hs1, Nat.zero_add, Nat.add_zero, Int.toNat_natCast, List.drop_zero, Nat.sub_zero, List.length_cons, List.length_nil, hx34]
                · try simp only [go_sem, decide_false, decide_true, Bool.not_true, Bool.not_false, List.length_map, List.flatten_nil, hf, hx, hti, hdi, hcl, hg0, hk, hpl, hc1, hc2, hc3, hc4, hc5, hml, hcap1, hcap2, hcap3, hcap4, hs1, Nat.zero_add, Nat.add_zero, Int.toNat_natCast, List.drop_zero, Nat.sub_zero, List.length_cons, List.length_nil, hx34] at hc
                  all_goals
                    refine skip_k ?_
                    refine hN10 _ ?_
                    refine seq_k fun N13 M13 hN13 hM13 => ?_
                    refine region_k fun K14 hK14 => ?_
                    simp only [go_sem, decide_false, decide_true, Bool.not_true, Bool.not_false, List.length_map, List.flatten_nil, hf, hx, hti, hdi, hcl, hg0, hk, hpl, hc1, hc2, hc3, hc4, hc5, hml, hcap1, hcap2, hcap3, hcap4, hs1, Nat.zero_add, Nat.add_zero, Int.toNat_natCast, List.drop_zero, Nat.sub_zero, List.length_cons, List.length_nil, hx34]
                    all_goals repeat' (first | apply And.intro | intro _)
                    all_goals
                      refine hK14 _ ?_
                      refine hN13 _ ?_
                      refine seq_k fun N15 M15 hN15 hM15 => ?_
                      refine draw_k [30, 31, 32, 33, 34, 35, 36, 37, 38, 39, 40, 41, 42, 6, 7, 90] [0, 0, 0, 0, 12, 28, 62, 127, 0, 0, 512, 1792, 4095, 8191, 16383] [(7, 8), (7, 9), (7, 10), (7, 11)] mixed (by kernel_rfl) (by simp only [go_sem]) fun K16 hK16 => ?_
                      simp only [go_sem, decide_false, decide_true, Bool.not_true, Bool.not_false, List.length_map, List.flatten_nil, hf, hx, hti, hdi, hcl, hg0, hk, hpl, hc1, hc2, hc3, hc4, hc5, hml, hcap1, hcap2, hcap3, hcap4, hs1, Nat.zero_add, Nat.add_zero, Int.toNat_natCast, List.drop_zero, Nat.sub_zero, List.length_cons, List.length_nil, hx34]
                      all_goals repeat' (first | apply And.intro | intro _)
                      all_goals refine call_drawfn (fun _ => 90) (.w (.one (.s 0 [] 1 34))) [(0, ⟨true, pinsC [⟨p.name, p.key, true⟩]⟩)] (by simp only [go_sem, decide_false, decide_true, Bool.not_true, Bool.not_false, List.length_map, List.flatten_nil, hf, hx, hti, hdi, hcl, hg0, hk, hpl, hc1, hc2, hc3, hc4, hc5, hml, hcap1, hcap2, hcap3, hcap4, hs1, Nat.zero_add, Nat.add_zero, Int.toNat_natCast, List.drop_zero, Nat.sub_zero, List.length_cons, List.length_nil, hx34]; rfl) (by first | rfl | (simp only [go_sem, viewC, decide_false, decide_true, Bool.not_true, Bool.not_false, List.length_map, List.flatten_nil, hf, hx, hti, hdi, hcl, hg0, hk, hpl, hc1, hc2, hc3, hc4, hc5, hml, hcap1, hcap2, hcap3, hcap4, hs1, Nat.zero_add, Nat.add_zero, Int.toNat_natCast, List.drop_zero, Nat.sub_zero, List.length_cons, List.length_nil, hx34]; rfl) | simp only [go_sem, viewC, decide_false, decide_true, Bool.not_true, Bool.not_false, List.length_map, List.flatten_nil, hf, hx, hti, hdi, hcl, hg0, hk, hpl, hc1, hc2, hc3, hc4, hc5, hml, hcap1, hcap2, hcap3, hcap4, hs1, Nat.zero_add, Nat.add_zero, Int.toNat_natCast, List.drop_zero, Nat.sub_zero, List.length_cons, List.length_nil, hx34]) (fun _ _ => rfl) (by first | rfl | (simp only [go_sem, decide_false, decide_true, Bool.not_true, Bool.not_false, List.length_map, List.flatten_nil, hf, hx, hti, hdi, hcl, hg0, hk, hpl, hc1, hc2, hc3, hc4, hc5, hml, hcap1, hcap2, hcap3, hcap4, hs1, Nat.zero_add, Nat.add_zero, Int.toNat_natCast, List.drop_zero, Nat.sub_zero, List.length_cons, List.length_nil, hx34]; rfl) | simp only [go_sem, decide_false, decide_true, Bool.not_true, Bool.not_false, List.length_map, List.flatten_nil, hf, hx, hti, hdi, hcl, hg0, hk, hpl, hc1, hc2, hc3, hc4, hc5, hml, hcap1, hcap2, hcap3, hcap4, hs1, Nat.zero_add, Nat.add_zero, Int.toNat_natCast, List.drop_zero, Nat.sub_zero, List.length_cons, List.length_nil, hx34]) ((rev_1 p hpo).tidied) ?_ ?_
                      all_goals try (refine And.intro ?_ (And.intro ?_ (And.intro ?_ ?_)) <;> first | rfl | simp only [go_sem])
                      all_goals simp only [go_sem, decide_false, decide_true, Bool.not_true, Bool.not_false, List.length_map, List.flatten_nil, hf, hx, hti, hdi, hcl, hg0, hk, hpl, hc1, hc2, hc3, hc4, hc5, hml, hcap1, hcap2, hcap3, hcap4, hs1, Nat.zero_add, Nat.add_zero, Int.toNat_natCast, List.drop_zero, Nat.sub_zero, List.length_cons, List.length_nil, hx34]
                      all_goals repeat' (first | apply And.intro | intro _)
                      all_goals
                        refine hK16 _ _ ?_ ?_
                        · first | trivial | (simp only [go_sem]; done) | (simp only [go_sem]; simp; done) | (simp only [go_sem]; simp; simp only [go_sem])
                        refine hN15 _ ?_
                        refine ret_k ?_
                        simp only [go_sem, decide_false, decide_true, Bool.not_true, Bool.not_false, List.length_map, List.flatten_nil, hf, hx, hti, hdi, hcl, hg0, hk, hpl, hc1, hc2, hc3, hc4, hc5, hml, hcap1, hcap2, hcap3, hcap4, hs1, Nat.zero_add, Nat.add_zero, Int.toNat_natCast, List.drop_zero, Nat.sub_zero, List.length_cons, List.length_nil, hx34]
                        all_goals (rw [turn_yes hf hfd]; exact pins_objK (b := true) (by simp [look, rotM, revM, fgtM, pinsC_nil, pinsC_append, pinsC_cons]) (fun q hq => by simp only [rotM, revM, fgtM, List.mem_append, List.mem_singleton, List.not_mem_nil, false_or] at hq; rcases hq with hq | hq; exact hot q hq; rcases hq with rfl | hq; exact hxo; exact hod q hq) (by simp [rotM, revM, fgtM, hti, hdi]; try omega) keep_nil)
theorem ch_rev (l : List PinD) (hl : ∀ p ∈ l, p.ok) (ex : Bool) (s : List UInt8)  : CtM Try.prog 49 [.w (.one (.pl (.R ex 34 (pinRows l)))), .w (.one (.pl (.str s))), .w (.one (.fn 51 []))] [] (pinsVK [] (turnP l s revM).2 (turnP l s revM).1) := by
  by_cases hf : pinsFault l = 0
  · cases hx : hasP l s with
    | true => exact (ch_rev_yes l hl ex s hf hx).hands.told
    | false => exact (ch_rev_no l hl ex s hf hx).hands.told
  · exact (ch_rev_bad l hl ex s hf).hands.told
set_option maxHeartbeats 400000 in
theorem ch_fgt_bad (l : List PinD) (hl : ∀ p ∈ l, p.ok) (ex : Bool) (s : List UInt8)  (hf : ¬ pinsFault l = 0) :
    Ct Try.prog 49 [.w (.one (.pl (.R ex 34 (pinRows l)))), .w (.one (.pl (.str s))), .w (.one (.fn 52 []))] (Told (pinsVK [] (turnP l s fgtM).2 (turnP l s fgtM).1)) := by
  refine Ct.k Try.func49 rfl Try.ntmps49 (congrArg Array.toList Try.results49) (by simp) fun w0 ro => ?_
  refine seq_k fun N1 M1 hN1 hM1 => ?_
  refine region_k fun K2 hK2 => ?_
  simp only [go_sem, decide_false, decide_true, Bool.not_true, Bool.not_false, List.length_map, hf]
  all_goals repeat' (first | apply And.intro | intro _)
  all_goals
    refine hK2 _ ?_
    refine hN1 _ ?_
    refine seq_k fun N3 M3 hN3 hM3 => ?_
    refine seq_k fun N4 M4 hN4 hM4 => ?_
    refine region_k fun K5 hK5 => ?_
    simp only [go_sem, decide_false, decide_true, Bool.not_true, Bool.not_false, List.length_map, hf]
    all_goals repeat' (first | apply And.intro | intro _)
    all_goals refine call_view (fun k => k) (fun _ _ => rfl) (by first | rfl | (simp only [go_sem, decide_false, decide_true, Bool.not_true, Bool.not_false, List.length_map, hf]; rfl) | simp only [go_sem, decide_false, decide_true, Bool.not_true, Bool.not_false, List.length_map, hf]) ((pins_check l hl ex).plain fun _ _ h => h) ?_
    all_goals (rintro v m ⟨hR, hm⟩; subst hR; subst hm)
    all_goals refine And.intro (by first | rfl | simp only [go_sem, decide_false, decide_true, Bool.not_true, Bool.not_false, List.length_map, hf]) (And.intro (by first | rfl | simp only [go_sem, decide_false, decide_true, Bool.not_true, Bool.not_false, List.length_map, hf]) ?_)
    all_goals simp only [go_sem, decide_false, decide_true, Bool.not_true, Bool.not_false, List.length_map, hf]
    all_goals repeat' (first | apply And.intro | intro _)
    all_goals
      refine hK5 _ ?_
      refine hN4 _ ?_
      refine seq_k fun N6 M6 hN6 hM6 => ?_
      refine region_k fun K7 hK7 => ?_
      simp only [go_sem, decide_false, decide_true, Bool.not_true, Bool.not_false, List.length_map, hf]
      all_goals repeat' (first | apply And.intro | intro _)
      all_goals
        refine hK7 _ ?_
        refine hN6 _ ?_
        refine cond_k rfl (fun hc => ?_) (fun hc => ?_)
        · try simp only [go_sem, decide_false, decide_true, Bool.not_true, Bool.not_false, List.length_map, hf] at hc
          all_goals
            refine seq_k fun N8 M8 hN8 hM8 => ?_
            refine region_k fun K9 hK9 => ?_
            simp only [go_sem, decide_false, decide_true, Bool.not_true, Bool.not_false, List.length_map, hf]
            all_goals repeat' (first | apply And.intro | intro _)
            all_goals
              refine hK9 _ ?_
              refine hN8 _ ?_
              refine ret_k ?_
              refine hM3 _ _ ?_
              simp only [go_sem, decide_false, decide_true, Bool.not_true, Bool.not_false, List.length_map, hf]
              all_goals (rw [turn_bad hf]; exact pins_nilK keep_nil)
        · exfalso; revert hc; simp [go_sem, decide_false, decide_true, Bool.not_true, Bool.not_false, List.length_map, hf]
set_option maxHeartbeats 400000 in
theorem ch_fgt_no (l : List PinD) (hl : ∀ p ∈ l, p.ok) (ex : Bool) (s : List UInt8)  (hf : pinsFault l = 0) (hx : hasP l s = false) :
    Ct Try.prog 49 [.w (.one (.pl (.R ex 34 (pinRows l)))), .w (.one (.pl (.str s))), .w (.one (.fn 52 []))] (Told (pinsVK [] (turnP l s fgtM).2 (turnP l s fgtM).1)) := by
  refine Ct.k Try.func49 rfl Try.ntmps49 (congrArg Array.toList Try.results49) (by simp) fun w0 ro => ?_
  refine seq_k fun N1 M1 hN1 hM1 => ?_
  refine region_k fun K2 hK2 => ?_
  simp only [go_sem, decide_false, decide_true, Bool.not_true, Bool.not_false, List.length_map, hf, hx]
  all_goals repeat' (first | apply And.intro | intro _)
  all_goals
    refine hK2 _ ?_
    refine hN1 _ ?_
    refine seq_k fun N3 M3 hN3 hM3 => ?_
    refine seq_k fun N4 M4 hN4 hM4 => ?_
    refine region_k fun K5 hK5 => ?_
    simp only [go_sem, decide_false, decide_true, Bool.not_true, Bool.not_false, List.length_map, hf, hx]
    all_goals repeat' (first | apply And.intro | intro _)
    all_goals refine call_view (fun k => k) (fun _ _ => rfl) (by first | rfl | (simp only [go_sem, decide_false, decide_true, Bool.not_true, Bool.not_false, List.length_map, hf, hx]; rfl) | simp only [go_sem, decide_false, decide_true, Bool.not_true, Bool.not_false, List.length_map, hf, hx]) ((pins_check l hl ex).plain fun _ _ h => h) ?_
    all_goals (rintro v m ⟨hR, hm⟩; subst hR; subst hm)
    all_goals refine And.intro (by first | rfl | simp only [go_sem, decide_false, decide_true, Bool.not_true, Bool.not_false, List.length_map, hf, hx]) (And.intro (by first | rfl | simp only [go_sem, decide_false, decide_true, Bool.not_true, Bool.not_false, List.length_map, hf, hx]) ?_)
    all_goals simp only [go_sem, decide_false, decide_true, Bool.not_true, Bool.not_false, List.length_map, hf, hx]
    all_goals repeat' (first | apply And.intro | intro _)
    all_goals
      refine hK5 _ ?_
      refine hN4 _ ?_
      refine seq_k fun N6 M6 hN6 hM6 => ?_
      refine region_k fun K7 hK7 => ?_
      simp only [go_sem, decide_false, decide_true, Bool.not_true, Bool.not_false, List.length_map, hf, hx]
      all_goals repeat' (first | apply And.intro | intro _)
      all_goals
        refine hK7 _ ?_
        refine hN6 _ ?_
        refine cond_k rfl (fun hc => ?_) (fun hc => ?_)
        · exfalso; revert hc; simp [go_sem, decide_false, decide_true, Bool.not_true, Bool.not_false, List.length_map, hf, hx]
        · try simp only [go_sem, decide_false, decide_true, Bool.not_true, Bool.not_false, List.length_map, hf, hx] at hc
          all_goals
            refine skip_k ?_
            refine hN3 _ ?_
            refine seq_k fun N8 M8 hN8 hM8 => ?_
            refine region_k fun K9 hK9 => ?_
            simp only [go_sem, decide_false, decide_true, Bool.not_true, Bool.not_false, List.length_map, hf, hx]
            all_goals repeat' (first | apply And.intro | intro _)
            all_goals refine call_view (fun k => k) (fun _ _ => rfl) (by first | rfl | (simp only [go_sem, decide_false, decide_true, Bool.not_true, Bool.not_false, List.length_map, hf, hx]; rfl) | simp only [go_sem, decide_false, decide_true, Bool.not_true, Bool.not_false, List.length_map, hf, hx]) ((find_ l hl ex s (srt_of hf)).plain fun _ _ h => h) ?_
            all_goals (rintro v m ⟨hR, hm⟩; subst hR; subst hm)
            all_goals refine And.intro (by first | rfl | simp only [go_sem, decide_false, decide_true, Bool.not_true, Bool.not_false, List.length_map, hf, hx]) (And.intro (by first | rfl | simp only [go_sem, decide_false, decide_true, Bool.not_true, Bool.not_false, List.length_map, hf, hx]) ?_)
            all_goals simp only [go_sem, decide_false, decide_true, Bool.not_true, Bool.not_false, List.length_map, hf, hx]
            all_goals repeat' (first | apply And.intro | intro _)
            all_goals
              refine hK9 _ ?_
              refine hN8 _ ?_
              refine seq_k fun N10 M10 hN10 hM10 => ?_
              refine seq_k fun N11 M11 hN11 hM11 => ?_
              refine region_k fun K12 hK12 => ?_
              simp only [go_sem, decide_false, decide_true, Bool.not_true, Bool.not_false, List.length_map, hf, hx]
              all_goals repeat' (first | apply And.intro | intro _)
              all_goals
                refine hK12 _ ?_
                refine hN11 _ ?_
                refine cond_k rfl (fun hc => ?_) (fun hc => ?_)
                · try simp only [go_sem, decide_false, decide_true, Bool.not_true, Bool.not_false, List.length_map, hf, hx] at hc
                  all_goals
                    refine seq_k fun N13 M13 hN13 hM13 => ?_
                    refine region_k fun K14 hK14 => ?_
                    simp only [go_sem, decide_false, decide_true, Bool.not_true, Bool.not_false, List.length_map, hf, hx]
                    all_goals repeat' (first | apply And.intro | intro _)
                    all_goals
                      refine hK14 _ ?_
                      refine hN13 _ ?_
                      refine ret_k ?_
                      refine hM10 _ _ ?_
                      simp only [go_sem, decide_false, decide_true, Bool.not_true, Bool.not_false, List.length_map, hf, hx]
                      all_goals (rw [turn_no hf (find_hasnt (srt_of hf) hx)]; exact pins_nilK keep_nil)
                · exfalso; revert hc; simp [go_sem, decide_false, decide_true, Bool.not_true, Bool.not_false, List.length_map, hf, hx]
set_option maxHeartbeats 800000 in
theorem ch_fgt_yes (l : List PinD) (hl : ∀ p ∈ l, p.ok) (ex : Bool) (s : List UInt8)  (hf : pinsFault l = 0) (hx : hasP l s = true) :
    Ct Try.prog 49 [.w (.one (.pl (.R ex 34 (pinRows l)))), .w (.one (.pl (.str s))), .w (.one (.fn 52 []))] (Told (pinsVK [] (turnP l s fgtM).2 (turnP l s fgtM).1)) := by
  obtain ⟨p, hp, hn, hlt, hfd⟩ := find_has (srt_of hf) hx
  have hm8 := (pinsFault_zero hf).1
  have hg0 := pinRows_get hp
  have hpo := hl p (List.mem_of_getElem? hp)
  have hk := hpo.1
  have hpl := pinC_length hk
  have hti : (l.take (idxP l s)).length = idxP l s := by rw [List.length_take]; omega
  have hdi : (l.drop (idxP l s + 1)).length = l.length - (idxP l s + 1) := List.length_drop
  have hot : ∀ p ∈ l.take (idxP l s), p.ok := fun p hp => hl p (List.mem_of_mem_take hp)
  have hod : ∀ p ∈ l.drop (idxP l s + 1), p.ok := fun p hp => hl p (List.mem_of_mem_drop hp)
  have hcl := pinsC_length hot
  rw [hti] at hcl
  have hc1 : ((idxP l s : Nat) : Int) ≤ ((l.length : Nat) : Int) := by omega
  have hc2 : (0 : Int) ≤ ((idxP l s : Nat) : Int) := by omega
  have hc3 : ((idxP l s : Nat) : Int) < ((l.length : Nat) : Int) := by omega
  have hc4 : ((idxP l s + 1 : Nat) : Int) ≤ ((l.length : Nat) : Int) := by omega
  have hc5 : (0 : Int) ≤ ((idxP l s + 1 : Nat) : Int) := by omega
  have hml : (idxP l s * 34 + 34 = (idxP l s + 1) * 34) = True := eq_true (by omega)
  obtain ⟨hcap1, hcap2, hcap3, hcap4, hs1⟩ : idxP l s * 56 ≤ 140737488355328 ∧ (idxP l s + 1) * 56 ≤ 140737488355328 ∧ (idxP l s + 1 + (l.length - (idxP l s + 1))) * 56 ≤ 140737488355328 ∧ (idxP l s + (l.length - (idxP l s + 1))) * 56 ≤ 140737488355328 ∧ Go.RowKit.wrap64 (((idxP l s : Nat) : Int) + 1) = ((idxP l s + 1 : Nat) : Int) := ⟨cap_le2 (by omega), cap_le2 (by omega), cap_le2 (by omega), cap_le2 (by omega), wnat (by omega) (by omega)⟩
  refine Ct.k Try.func49 rfl Try.ntmps49 (congrArg Array.toList Try.results49) (by simp) fun w0 ro => ?_
  refine seq_k fun N1 M1 hN1 hM1 => ?_
  refine region_k fun K2 hK2 => ?_
  simp only [go_sem, decide_false, decide_true, Bool.not_true, Bool.not_false, List.length_map, List.flatten_nil, hf, hx, hti, hdi, hcl, hg0, hk, hpl, hc1, hc2, hc3, hc4, hc5, hml, hcap1, hcap2, hcap3, hcap4, hs1, Nat.zero_add, Nat.add_zero, Int.toNat_natCast, List.drop_zero, Nat.sub_zero, List.length_cons, List.length_nil]
  all_goals repeat' (first | apply And.intro | intro _)
  all_goals
    refine hK2 _ ?_
    refine hN1 _ ?_
    refine seq_k fun N3 M3 hN3 hM3 => ?_
    refine seq_k fun N4 M4 hN4 hM4 => ?_
    refine region_k fun K5 hK5 => ?_
    simp only [go_sem, decide_false, decide_true, Bool.not_true, Bool.not_false, List.length_map, List.flatten_nil, hf, hx, hti, hdi, hcl, hg0, hk, hpl, hc1, hc2, hc3, hc4, hc5, hml, hcap1, hcap2, hcap3, hcap4, hs1, Nat.zero_add, Nat.add_zero, Int.toNat_natCast, List.drop_zero, Nat.sub_zero, List.length_cons, List.length_nil]
    all_goals repeat' (first | apply And.intro | intro _)
    all_goals refine call_view (fun k => k) (fun _ _ => rfl) (by first | rfl | (simp only [go_sem, decide_false, decide_true, Bool.not_true, Bool.not_false, List.length_map, List.flatten_nil, hf, hx, hti, hdi, hcl, hg0, hk, hpl, hc1, hc2, hc3, hc4, hc5, hml, hcap1, hcap2, hcap3, hcap4, hs1, Nat.zero_add, Nat.add_zero, Int.toNat_natCast, List.drop_zero, Nat.sub_zero, List.length_cons, List.length_nil]; rfl) | simp only [go_sem, decide_false, decide_true, Bool.not_true, Bool.not_false, List.length_map, List.flatten_nil, hf, hx, hti, hdi, hcl, hg0, hk, hpl, hc1, hc2, hc3, hc4, hc5, hml, hcap1, hcap2, hcap3, hcap4, hs1, Nat.zero_add, Nat.add_zero, Int.toNat_natCast, List.drop_zero, Nat.sub_zero, List.length_cons, List.length_nil]) ((pins_check l hl ex).plain fun _ _ h => h) ?_
    all_goals (rintro v m ⟨hR, hm⟩; subst hR; subst hm)
    all_goals refine And.intro (by first | rfl | simp only [go_sem, decide_false, decide_true, Bool.not_true, Bool.not_false, List.length_map, List.flatten_nil, hf, hx, hti, hdi, hcl, hg0, hk, hpl, hc1, hc2, hc3, hc4, hc5, hml, hcap1, hcap2, hcap3, hcap4, hs1, Nat.zero_add, Nat.add_zero, Int.toNat_natCast, List.drop_zero, Nat.sub_zero, List.length_cons, List.length_nil]) (And.intro (by first | rfl | simp only [go_sem, decide_false, decide_true, Bool.not_true, Bool.not_false, List.length_map, List.flatten_nil, hf, hx, hti, hdi, hcl, hg0, hk, hpl, hc1, hc2, hc3, hc4, hc5, hml, hcap1, hcap2, hcap3, hcap4, hs1, Nat.zero_add, Nat.add_zero, Int.toNat_natCast, List.drop_zero, Nat.sub_zero, List.length_cons, List.length_nil]) ?_)
    all_goals simp only [go_sem, decide_false, decide_true, Bool.not_true, Bool.not_false, List.length_map, List.flatten_nil, hf, hx, hti, hdi, hcl, hg0, hk, hpl, hc1, hc2, hc3, hc4, hc5, hml, hcap1, hcap2, hcap3, hcap4, hs1, Nat.zero_add, Nat.add_zero, Int.toNat_natCast, List.drop_zero, Nat.sub_zero, List.length_cons, List.length_nil]
    all_goals repeat' (first | apply And.intro | intro _)
    all_goals
      refine hK5 _ ?_
      refine hN4 _ ?_
      refine seq_k fun N6 M6 hN6 hM6 => ?_
      refine region_k fun K7 hK7 => ?_
      simp only [go_sem, decide_false, decide_true, Bool.not_true, Bool.not_false, List.length_map, List.flatten_nil, hf, hx, hti, hdi, hcl, hg0, hk, hpl, hc1, hc2, hc3, hc4, hc5, hml, hcap1, hcap2, hcap3, hcap4, hs1, Nat.zero_add, Nat.add_zero, Int.toNat_natCast, List.drop_zero, Nat.sub_zero, List.length_cons, List.length_nil]
      all_goals repeat' (first | apply And.intro | intro _)
      all_goals
        refine hK7 _ ?_
        refine hN6 _ ?_
        refine cond_k rfl (fun hc => ?_) (fun hc => ?_)
        · exfalso; revert hc; simp [go_sem, decide_false, decide_true, Bool.not_true, Bool.not_false, List.length_map, List.flatten_nil, hf, hx, hti, hdi, hcl, hg0, hk, hpl, hc1, hc2, hc3, hc4, hc5, hml, hcap1, hcap2, hcap3, hcap4, hs1, Nat.zero_add, Nat.add_zero, Int.toNat_natCast, List.drop_zero, Nat.sub_zero, List.length_cons, List.length_nil]
        · try simp only [go_sem, decide_false, decide_true, Bool.not_true, Bool.not_false, List.length_map, List.flatten_nil, hf, hx, hti, hdi, hcl, hg0, hk, hpl, hc1, hc2, hc3, hc4, hc5, hml, hcap1, hcap2, hcap3, hcap4, hs1, Nat.zero_add, Nat.add_zero, Int.toNat_natCast, List.drop_zero, Nat.sub_zero, List.length_cons, List.length_nil] at hc
          all_goals
            refine skip_k ?_
            refine hN3 _ ?_
            refine seq_k fun N8 M8 hN8 hM8 => ?_
            refine region_k fun K9 hK9 => ?_
            simp only [go_sem, decide_false, decide_true, Bool.not_true, Bool.not_false, List.length_map, List.flatten_nil, hf, hx, hti, hdi, hcl, hg0, hk, hpl, hc1, hc2, hc3, hc4, hc5, hml, hcap1, hcap2, hcap3, hcap4, hs1, Nat.zero_add, Nat.add_zero, Int.toNat_natCast, List.drop_zero, Nat.sub_zero, List.length_cons, List.length_nil]
            all_goals repeat' (first | apply And.intro | intro _)
            all_goals refine call_view (fun k => k) (fun _ _ => rfl) (by first | rfl | (simp only [go_sem, decide_false, decide_true, Bool.not_true, Bool.not_false, List.length_map, List.flatten_nil, hf, hx, hti, hdi, hcl, hg0, hk, hpl, hc1, hc2, hc3, hc4, hc5, hml, hcap1, hcap2, hcap3, hcap4, hs1, Nat.zero_add, Nat.add_zero, Int.toNat_natCast, List.drop_zero, Nat.sub_zero, List.length_cons, List.length_nil]; rfl) | simp only [go_sem, decide_false, decide_true, Bool.not_true, Bool.not_false, List.length_map, List.flatten_nil, hf, hx, hti, hdi, hcl, hg0, hk, hpl, hc1, hc2, hc3, hc4, hc5, hml, hcap1, hcap2, hcap3, hcap4, hs1, Nat.zero_add, Nat.add_zero, Int.toNat_natCast, List.drop_zero, Nat.sub_zero, List.length_cons, List.length_nil]) ((find_ l hl ex s (srt_of hf)).plain fun _ _ h => h) ?_
            all_goals (rintro v m ⟨hR, hm⟩; subst hR; subst hm)
            all_goals refine And.intro (by first | rfl | simp only [go_sem, decide_false, decide_true, Bool.not_true, Bool.not_false, List.length_map, List.flatten_nil, hf, hx, hti, hdi, hcl, hg0, hk, hpl, hc1, hc2, hc3, hc4, hc5, hml, hcap1, hcap2, hcap3, hcap4, hs1, Nat.zero_add, Nat.add_zero, Int.toNat_natCast, List.drop_zero, Nat.sub_zero, List.length_cons, List.length_nil]) (And.intro (by first | rfl | simp only [go_sem, decide_false, decide_true, Bool.not_true, Bool.not_false, List.length_map, List.flatten_nil, hf, hx, hti, hdi, hcl, hg0, hk, hpl, hc1, hc2, hc3, hc4, hc5, hml, hcap1, hcap2, hcap3, hcap4, hs1, Nat.zero_add, Nat.add_zero, Int.toNat_natCast, List.drop_zero, Nat.sub_zero, List.length_cons, List.length_nil]) ?_)
            all_goals simp only [go_sem, decide_false, decide_true, Bool.not_true, Bool.not_false, List.length_map, List.flatten_nil, hf, hx, hti, hdi, hcl, hg0, hk, hpl, hc1, hc2, hc3, hc4, hc5, hml, hcap1, hcap2, hcap3, hcap4, hs1, Nat.zero_add, Nat.add_zero, Int.toNat_natCast, List.drop_zero, Nat.sub_zero, List.length_cons, List.length_nil]
            all_goals repeat' (first | apply And.intro | intro _)
            all_goals
              refine hK9 _ ?_
              refine hN8 _ ?_
              refine seq_k fun N10 M10 hN10 hM10 => ?_
              refine seq_k fun N11 M11 hN11 hM11 => ?_
              refine region_k fun K12 hK12 => ?_
              simp only [go_sem, decide_false, decide_true, Bool.not_true, Bool.not_false, List.length_map, List.flatten_nil, hf, hx, hti, hdi, hcl, hg0, hk, hpl, hc1, hc2, hc3, hc4, hc5, hml, hcap1, hcap2, hcap3, hcap4, hs1, Nat.zero_add, Nat.add_zero, Int.toNat_natCast, List.drop_zero, Nat.sub_zero, List.length_cons, List.length_nil]
              all_goals repeat' (first | apply And.intro | intro _)
              all_goals
                refine hK12 _ ?_
                refine hN11 _ ?_
                refine cond_k rfl (fun hc => ?_) (fun hc => ?_)
                · exfalso; revert hc; simp [go_sem, decide_false, decide_true, Bool.not_true, Bool.not_false, List.length_map, List.flatten_nil, hf, hx, hti, hdi, hcl, hg0, hk, hpl, hc1, hc2, hc3, hc4, hc5, hml, hcap1, hcap2, hcap3, hcap4, hs1, Nat.zero_add, Nat.add_zero, Int.toNat_natCast, List.drop_zero, Nat.sub_zero, List.length_cons, List.length_nil]
                · try simp only [go_sem, decide_false, decide_true, Bool.not_true, Bool.not_false, List.length_map, List.flatten_nil, hf, hx, hti, hdi, hcl, hg0, hk, hpl, hc1, hc2, hc3, hc4, hc5, hml, hcap1, hcap2, hcap3, hcap4, hs1, Nat.zero_add, Nat.add_zero, Int.toNat_natCast, List.drop_zero, Nat.sub_zero, List.length_cons, List.length_nil] at hc
                  all_goals
                    refine skip_k ?_
                    refine hN10 _ ?_
                    refine seq_k fun N13 M13 hN13 hM13 => ?_
                    refine region_k fun K14 hK14 => ?_
                    simp only [go_sem, decide_false, decide_true, Bool.not_true, Bool.not_false, List.length_map, List.flatten_nil, hf, hx, hti, hdi, hcl, hg0, hk, hpl, hc1, hc2, hc3, hc4, hc5, hml, hcap1, hcap2, hcap3, hcap4, hs1, Nat.zero_add, Nat.add_zero, Int.toNat_natCast, List.drop_zero, Nat.sub_zero, List.length_cons, List.length_nil]
                    all_goals repeat' (first | apply And.intro | intro _)
                    all_goals
                      refine hK14 _ ?_
                      refine hN13 _ ?_
                      refine seq_k fun N15 M15 hN15 hM15 => ?_
                      refine draw_k [30, 31, 32, 33, 34, 35, 36, 37, 38, 39, 40, 41, 42, 6, 7, 90] [0, 0, 0, 0, 12, 28, 62, 127, 0, 0, 512, 1792, 4095, 8191, 16383] [(7, 8), (7, 9), (7, 10), (7, 11)] mixed (by kernel_rfl) (by simp only [go_sem]) fun K16 hK16 => ?_
                      simp only [go_sem, decide_false, decide_true, Bool.not_true, Bool.not_false, List.length_map, List.flatten_nil, hf, hx, hti, hdi, hcl, hg0, hk, hpl, hc1, hc2, hc3, hc4, hc5, hml, hcap1, hcap2, hcap3, hcap4, hs1, Nat.zero_add, Nat.add_zero, Int.toNat_natCast, List.drop_zero, Nat.sub_zero, List.length_cons, List.length_nil]
                      all_goals repeat' (first | apply And.intro | intro _)
                      all_goals refine call_drawfn (fun _ => 90) (.w (.one (.pl (.R true 1 [])))) [] (by simp only [go_sem, decide_false, decide_true, Bool.not_true, Bool.not_false, List.length_map, List.flatten_nil, hf, hx, hti, hdi, hcl, hg0, hk, hpl, hc1, hc2, hc3, hc4, hc5, hml, hcap1, hcap2, hcap3, hcap4, hs1, Nat.zero_add, Nat.add_zero, Int.toNat_natCast, List.drop_zero, Nat.sub_zero, List.length_cons, List.length_nil]; rfl) (by first | rfl | (simp only [go_sem, viewC, decide_false, decide_true, Bool.not_true, Bool.not_false, List.length_map, List.flatten_nil, hf, hx, hti, hdi, hcl, hg0, hk, hpl, hc1, hc2, hc3, hc4, hc5, hml, hcap1, hcap2, hcap3, hcap4, hs1, Nat.zero_add, Nat.add_zero, Int.toNat_natCast, List.drop_zero, Nat.sub_zero, List.length_cons, List.length_nil]; rfl) | simp only [go_sem, viewC, decide_false, decide_true, Bool.not_true, Bool.not_false, List.length_map, List.flatten_nil, hf, hx, hti, hdi, hcl, hg0, hk, hpl, hc1, hc2, hc3, hc4, hc5, hml, hcap1, hcap2, hcap3, hcap4, hs1, Nat.zero_add, Nat.add_zero, Int.toNat_natCast, List.drop_zero, Nat.sub_zero, List.length_cons, List.length_nil]) (fun _ _ => rfl) (by first | rfl | (simp only [go_sem, decide_false, decide_true, Bool.not_true, Bool.not_false, List.length_map, List.flatten_nil, hf, hx, hti, hdi, hcl, hg0, hk, hpl, hc1, hc2, hc3, hc4, hc5, hml, hcap1, hcap2, hcap3, hcap4, hs1, Nat.zero_add, Nat.add_zero, Int.toNat_natCast, List.drop_zero, Nat.sub_zero, List.length_cons, List.length_nil]; rfl) | simp only [go_sem, decide_false, decide_true, Bool.not_true, Bool.not_false, List.length_map, List.flatten_nil, hf, hx, hti, hdi, hcl, hg0, hk, hpl, hc1, hc2, hc3, hc4, hc5, hml, hcap1, hcap2, hcap3, hcap4, hs1, Nat.zero_add, Nat.add_zero, Int.toNat_natCast, List.drop_zero, Nat.sub_zero, List.length_cons, List.length_nil]) ((fgt_1 p hpo).plain fun _ _ h => h) ?_ ?_
                      all_goals try (refine And.intro ?_ (And.intro ?_ (And.intro ?_ ?_)) <;> first | rfl | simp only [go_sem])
                      all_goals simp only [go_sem, decide_false, decide_true, Bool.not_true, Bool.not_false, List.length_map, List.flatten_nil, hf, hx, hti, hdi, hcl, hg0, hk, hpl, hc1, hc2, hc3, hc4, hc5, hml, hcap1, hcap2, hcap3, hcap4, hs1, Nat.zero_add, Nat.add_zero, Int.toNat_natCast, List.drop_zero, Nat.sub_zero, List.length_cons, List.length_nil]
                      all_goals repeat' (first | apply And.intro | intro _)
                      all_goals
                        refine hK16 _ _ ?_ ?_
                        · first | trivial | (simp only [go_sem]; done) | (simp only [go_sem]; simp; done) | (simp only [go_sem]; simp; simp only [go_sem])
                        refine hN15 _ ?_
                        refine ret_k ?_
                        simp only [go_sem, decide_false, decide_true, Bool.not_true, Bool.not_false, List.length_map, List.flatten_nil, hf, hx, hti, hdi, hcl, hg0, hk, hpl, hc1, hc2, hc3, hc4, hc5, hml, hcap1, hcap2, hcap3, hcap4, hs1, Nat.zero_add, Nat.add_zero, Int.toNat_natCast, List.drop_zero, Nat.sub_zero, List.length_cons, List.length_nil]
                        all_goals (rw [turn_yes hf hfd]; exact pins_objK (b := true) (by simp [look, rotM, revM, fgtM, pinsC_nil, pinsC_append, pinsC_cons]) (fun q hq => by simp only [rotM, revM, fgtM, List.mem_append, List.mem_singleton, List.not_mem_nil, false_or] at hq; rcases hq with hq | hq; exact hot q hq; exact hod q hq) (by simp [rotM, revM, fgtM, hti, hdi]; try omega) keep_nil)
theorem ch_fgt (l : List PinD) (hl : ∀ p ∈ l, p.ok) (ex : Bool) (s : List UInt8)  : CtM Try.prog 49 [.w (.one (.pl (.R ex 34 (pinRows l)))), .w (.one (.pl (.str s))), .w (.one (.fn 52 []))] [] (pinsVK [] (turnP l s fgtM).2 (turnP l s fgtM).1) := by
  by_cases hf : pinsFault l = 0
  · cases hx : hasP l s with
    | true => exact (ch_fgt_yes l hl ex s hf hx).hands.told
    | false => exact (ch_fgt_no l hl ex s hf hx).hands.told
  · exact (ch_fgt_bad l hl ex s hf).hands.told
set_option maxHeartbeats 400000 in
theorem rotate_w (l : List PinD) (hl : ∀ p ∈ l, p.ok) (ex : Bool) (s : List UInt8) (k : List UInt8) (hkk : k.length = 32) :
    Ct Try.prog 32 [.w (.one (.pl (.R ex 34 (pinRows l)))), .w (.one (.pl (.str s))), .w (.agg (bytesC k))] (Told (pinsV (turnP l s (rotM k)).2 (turnP l s (rotM k)).1)) := by
  refine Ct.k Try.func32 rfl Try.ntmps32 (congrArg Array.toList Try.results32) (by simp) fun w0 ro => ?_
  refine seq_k fun N1 M1 hN1 hM1 => ?_
  refine region_k fun K2 hK2 => ?_
  simp only [go_sem, decide_false, decide_true, Bool.not_true, Bool.not_false, List.length_map, hkk]
  all_goals repeat' (first | apply And.intro | intro _)
  all_goals
    refine hK2 _ ?_
    refine hN1 _ ?_
    refine seq_k fun N3 M3 hN3 hM3 => ?_
    refine region_k fun K4 hK4 => ?_
    simp only [go_sem, decide_false, decide_true, Bool.not_true, Bool.not_false, List.length_map, hkk]
    all_goals repeat' (first | apply And.intro | intro _)
    all_goals (refine call_hand false [(500000, 5)] (fun k => k) (fun _ _ => rfl) ?_ (by decide) ?_ (ch_rot l hl ex s k hkk) ?_; (focus ( first | rfl | (simp only [go_sem, valsIn, valIn, leafIn, leavesIn, nameIn, capsIn, handOk, decide_false, decide_true, Bool.not_true, Bool.not_false, List.length_map, hkk] <;> done) | (simp only [go_sem, valsIn, valIn, leafIn, leavesIn, nameIn, capsIn, handOk, decide_false, decide_true, Bool.not_true, Bool.not_false, List.length_map, hkk] <;> rfl) | (simp only [go_sem, valsIn, valIn, leafIn, leavesIn, nameIn, capsIn, handOk, decide_false, decide_true, Bool.not_true, Bool.not_false, List.length_map, hkk] <;> simp))); (focus ( first | rfl | (simp only [go_sem, valsIn, valIn, leafIn, leavesIn, nameIn, capsIn, handOk, decide_false, decide_true, Bool.not_true, Bool.not_false, List.length_map, hkk] <;> done) | (simp only [go_sem, valsIn, valIn, leafIn, leavesIn, nameIn, capsIn, handOk, decide_false, decide_true, Bool.not_true, Bool.not_false, List.length_map, hkk] <;> rfl) | (simp only [go_sem, valsIn, valIn, leafIn, leavesIn, nameIn, capsIn, handOk, decide_false, decide_true, Bool.not_true, Bool.not_false, List.length_map, hkk] <;> simp))))
    all_goals (rintro v m ⟨hR, hm⟩; subst hR; subst hm)
    all_goals refine And.intro (by (first | rfl | (simp only [go_sem, leafOutV, leafOutW, leafOut, okN, outOk, inv, decide_false, decide_true, Bool.not_true, Bool.not_false, List.length_map, hkk]; done) | (simp [go_sem, leafOutV, leafOutW, leafOut, okN, outOk, inv, look, decide_false, decide_true, Bool.not_true, Bool.not_false, List.length_map, hkk]; done))) (And.intro (by (first | rfl | (simp only [go_sem, leafOutV, leafOutW, leafOut, okN, outOk, inv, decide_false, decide_true, Bool.not_true, Bool.not_false, List.length_map, hkk]; done) | (simp [go_sem, leafOutV, leafOutW, leafOut, okN, outOk, inv, look, decide_false, decide_true, Bool.not_true, Bool.not_false, List.length_map, hkk]; done))) (And.intro (by (first | rfl | (simp only [go_sem, leafOutV, leafOutW, leafOut, okN, outOk, inv, decide_false, decide_true, Bool.not_true, Bool.not_false, List.length_map, hkk]; done) | (simp [go_sem, leafOutV, leafOutW, leafOut, okN, outOk, inv, look, decide_false, decide_true, Bool.not_true, Bool.not_false, List.length_map, hkk]; done))) ?_))
    all_goals (try simp only [go_sem, backM, outN, nameOut, Ob.ren, V.ren, W.ren, L.ren, setM, decide_false, decide_true, Bool.not_true, Bool.not_false, List.length_map, hkk])
    all_goals (try simp only [go_sem, decide_false, decide_true, Bool.not_true, Bool.not_false, List.length_map, hkk])
    all_goals repeat' (first | apply And.intro | intro _)
    all_goals
      refine hK4 _ ?_
      refine hN3 _ ?_
      refine ret_k ?_
      simp only [go_sem, decide_false, decide_true, Bool.not_true, Bool.not_false, List.length_map, hkk]
      all_goals (exact pins_same _)
set_option maxHeartbeats 400000 in
theorem revoke_w (l : List PinD) (hl : ∀ p ∈ l, p.ok) (ex : Bool) (s : List UInt8) :
    Ct Try.prog 33 [.w (.one (.pl (.R ex 34 (pinRows l)))), .w (.one (.pl (.str s)))] (Told (pinsV (turnP l s revM).2 (turnP l s revM).1)) := by
  refine Ct.k Try.func33 rfl Try.ntmps33 (congrArg Array.toList Try.results33) (by simp) fun w0 ro => ?_
  refine seq_k fun N1 M1 hN1 hM1 => ?_
  refine region_k fun K2 hK2 => ?_
  simp only [go_sem, decide_false, decide_true, Bool.not_true, Bool.not_false, List.length_map]
  all_goals repeat' (first | apply And.intro | intro _)
  all_goals
    refine hK2 _ ?_
    refine hN1 _ ?_
    refine seq_k fun N3 M3 hN3 hM3 => ?_
    refine region_k fun K4 hK4 => ?_
    simp only [go_sem, decide_false, decide_true, Bool.not_true, Bool.not_false, List.length_map]
    all_goals repeat' (first | apply And.intro | intro _)
    all_goals (refine call_hand false [] (fun k => k) (fun _ _ => rfl) ?_ (by decide) ?_ (ch_rev l hl ex s) ?_; (focus ( first | rfl | (simp only [go_sem, valsIn, valIn, leafIn, leavesIn, nameIn, capsIn, handOk, decide_false, decide_true, Bool.not_true, Bool.not_false, List.length_map] <;> done) | (simp only [go_sem, valsIn, valIn, leafIn, leavesIn, nameIn, capsIn, handOk, decide_false, decide_true, Bool.not_true, Bool.not_false, List.length_map] <;> rfl) | (simp only [go_sem, valsIn, valIn, leafIn, leavesIn, nameIn, capsIn, handOk, decide_false, decide_true, Bool.not_true, Bool.not_false, List.length_map] <;> simp))); (focus ( first | rfl | (simp only [go_sem, valsIn, valIn, leafIn, leavesIn, nameIn, capsIn, handOk, decide_false, decide_true, Bool.not_true, Bool.not_false, List.length_map] <;> done) | (simp only [go_sem, valsIn, valIn, leafIn, leavesIn, nameIn, capsIn, handOk, decide_false, decide_true, Bool.not_true, Bool.not_false, List.length_map] <;> rfl) | (simp only [go_sem, valsIn, valIn, leafIn, leavesIn, nameIn, capsIn, handOk, decide_false, decide_true, Bool.not_true, Bool.not_false, List.length_map] <;> simp))))
    all_goals (rintro v m ⟨hR, hm⟩; subst hR; subst hm)
    all_goals refine And.intro (by (first | rfl | (simp only [go_sem, leafOutV, leafOutW, leafOut, okN, outOk, inv, decide_false, decide_true, Bool.not_true, Bool.not_false, List.length_map]; done) | (simp [go_sem, leafOutV, leafOutW, leafOut, okN, outOk, inv, look, decide_false, decide_true, Bool.not_true, Bool.not_false, List.length_map]; done))) (And.intro (by (first | rfl | (simp only [go_sem, leafOutV, leafOutW, leafOut, okN, outOk, inv, decide_false, decide_true, Bool.not_true, Bool.not_false, List.length_map]; done) | (simp [go_sem, leafOutV, leafOutW, leafOut, okN, outOk, inv, look, decide_false, decide_true, Bool.not_true, Bool.not_false, List.length_map]; done))) (And.intro (by (first | rfl | (simp only [go_sem, leafOutV, leafOutW, leafOut, okN, outOk, inv, decide_false, decide_true, Bool.not_true, Bool.not_false, List.length_map]; done) | (simp [go_sem, leafOutV, leafOutW, leafOut, okN, outOk, inv, look, decide_false, decide_true, Bool.not_true, Bool.not_false, List.length_map]; done))) ?_))
    all_goals (try simp only [go_sem, backM, outN, nameOut, Ob.ren, V.ren, W.ren, L.ren, setM, decide_false, decide_true, Bool.not_true, Bool.not_false, List.length_map])
    all_goals (try simp only [go_sem, decide_false, decide_true, Bool.not_true, Bool.not_false, List.length_map])
    all_goals repeat' (first | apply And.intro | intro _)
    all_goals
      refine hK4 _ ?_
      refine hN3 _ ?_
      refine ret_k ?_
      simp only [go_sem, decide_false, decide_true, Bool.not_true, Bool.not_false, List.length_map]
      all_goals (exact pins_same _)
set_option maxHeartbeats 400000 in
theorem forget_w (l : List PinD) (hl : ∀ p ∈ l, p.ok) (ex : Bool) (s : List UInt8) :
    Ct Try.prog 34 [.w (.one (.pl (.R ex 34 (pinRows l)))), .w (.one (.pl (.str s)))] (Told (pinsV (turnP l s fgtM).2 (turnP l s fgtM).1)) := by
  refine Ct.k Try.func34 rfl Try.ntmps34 (congrArg Array.toList Try.results34) (by simp) fun w0 ro => ?_
  refine seq_k fun N1 M1 hN1 hM1 => ?_
  refine region_k fun K2 hK2 => ?_
  simp only [go_sem, decide_false, decide_true, Bool.not_true, Bool.not_false, List.length_map]
  all_goals repeat' (first | apply And.intro | intro _)
  all_goals
    refine hK2 _ ?_
    refine hN1 _ ?_
    refine seq_k fun N3 M3 hN3 hM3 => ?_
    refine region_k fun K4 hK4 => ?_
    simp only [go_sem, decide_false, decide_true, Bool.not_true, Bool.not_false, List.length_map]
    all_goals repeat' (first | apply And.intro | intro _)
    all_goals (refine call_hand false [] (fun k => k) (fun _ _ => rfl) ?_ (by decide) ?_ (ch_fgt l hl ex s) ?_; (focus ( first | rfl | (simp only [go_sem, valsIn, valIn, leafIn, leavesIn, nameIn, capsIn, handOk, decide_false, decide_true, Bool.not_true, Bool.not_false, List.length_map] <;> done) | (simp only [go_sem, valsIn, valIn, leafIn, leavesIn, nameIn, capsIn, handOk, decide_false, decide_true, Bool.not_true, Bool.not_false, List.length_map] <;> rfl) | (simp only [go_sem, valsIn, valIn, leafIn, leavesIn, nameIn, capsIn, handOk, decide_false, decide_true, Bool.not_true, Bool.not_false, List.length_map] <;> simp))); (focus ( first | rfl | (simp only [go_sem, valsIn, valIn, leafIn, leavesIn, nameIn, capsIn, handOk, decide_false, decide_true, Bool.not_true, Bool.not_false, List.length_map] <;> done) | (simp only [go_sem, valsIn, valIn, leafIn, leavesIn, nameIn, capsIn, handOk, decide_false, decide_true, Bool.not_true, Bool.not_false, List.length_map] <;> rfl) | (simp only [go_sem, valsIn, valIn, leafIn, leavesIn, nameIn, capsIn, handOk, decide_false, decide_true, Bool.not_true, Bool.not_false, List.length_map] <;> simp))))
    all_goals (rintro v m ⟨hR, hm⟩; subst hR; subst hm)
    all_goals refine And.intro (by (first | rfl | (simp only [go_sem, leafOutV, leafOutW, leafOut, okN, outOk, inv, decide_false, decide_true, Bool.not_true, Bool.not_false, List.length_map]; done) | (simp [go_sem, leafOutV, leafOutW, leafOut, okN, outOk, inv, look, decide_false, decide_true, Bool.not_true, Bool.not_false, List.length_map]; done))) (And.intro (by (first | rfl | (simp only [go_sem, leafOutV, leafOutW, leafOut, okN, outOk, inv, decide_false, decide_true, Bool.not_true, Bool.not_false, List.length_map]; done) | (simp [go_sem, leafOutV, leafOutW, leafOut, okN, outOk, inv, look, decide_false, decide_true, Bool.not_true, Bool.not_false, List.length_map]; done))) (And.intro (by (first | rfl | (simp only [go_sem, leafOutV, leafOutW, leafOut, okN, outOk, inv, decide_false, decide_true, Bool.not_true, Bool.not_false, List.length_map]; done) | (simp [go_sem, leafOutV, leafOutW, leafOut, okN, outOk, inv, look, decide_false, decide_true, Bool.not_true, Bool.not_false, List.length_map]; done))) ?_))
    all_goals (try simp only [go_sem, backM, outN, nameOut, Ob.ren, V.ren, W.ren, L.ren, setM, decide_false, decide_true, Bool.not_true, Bool.not_false, List.length_map])
    all_goals (try simp only [go_sem, decide_false, decide_true, Bool.not_true, Bool.not_false, List.length_map])
    all_goals repeat' (first | apply And.intro | intro _)
    all_goals
      refine hK4 _ ?_
      refine hN3 _ ?_
      refine ret_k ?_
      simp only [go_sem, decide_false, decide_true, Bool.not_true, Bool.not_false, List.length_map]
      all_goals (exact pins_same _)
end Go.Sy
