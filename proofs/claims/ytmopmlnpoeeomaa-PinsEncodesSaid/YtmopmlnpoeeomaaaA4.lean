/- Walks: pins.Encode, what the reference says of it, and their law. -/
import Derived.Test.YtmopmlnpoeeomaaaA2
import Derived.Test.YtmopmlnpoeeomaaaA3
import Derived.Test.YtmopmlnpoeeomaaD13
set_option linter.unusedVariables false
set_option linter.unusedSimpArgs false
namespace Go.Sy
open Go.Proofs
attribute [local irreducible] atCall HT runOps runD onC onE onO onG goV goA goS onSt onGuard
def pinBytes (p : PinD) : List UInt8 := byteI p.name.length :: (p.name ++ (p.key ++ [if p.gone then 1 else 0]))
def encP (l : List PinD) (i : Nat) : List UInt8 := byteI l.length :: ((l.take i).map pinBytes).flatten
theorem encP_zero (l : List PinD) : encP l 0 = [byteI l.length] := rfl
theorem encP_succ {l : List PinD} {i : Nat} {p : PinD} (h : l[i]? = some p) : encP l (i + 1) = encP l i ++ pinBytes p := by
  have hi := (List.getElem?_eq_some_iff.mp h)
  obtain ⟨hlt, e⟩ := hi
  unfold encP
  rw [List.take_succ_eq_append_getElem hlt, e]
  simp
theorem encP_len {l : List PinD} (hl : ∀ p ∈ l, p.ok) (hf : pinsFault l = 0) : ∀ i, i ≤ l.length → (encP l i).length ≤ 1 + 50 * i
  | 0, _ => by simp [encP]
  | i + 1, h => by
    obtain ⟨p, hp⟩ := get_lt (l := l) (i := i) (by omega)
    have ih := encP_len hl hf i (by omega)
    have hk := (hl p (List.mem_of_getElem? hp)).1
    have hn := good_name hp ((pinsFault_zero hf).2 i (by omega))
    simp only [nameOk, decide_eq_true_eq] at hn
    rw [encP_succ hp]
    simp [pinBytes, hk]; omega
theorem bytesC_snoc (a : List UInt8) (x : UInt8) (r : List L) : bytesC a ++ (.pl (.u8 x) :: r) = bytesC (a ++ [x]) ++ r := by simp [bytesC]
attribute [go_sem] bytesC_snoc
def pinsOut (l : List PinD) : Option (List UInt8) := if pinsFault l = 0 then some (encP l l.length) else none
theorem pinsOut_ok {l : List PinD} (h : pinsFault l = 0) : pinsOut l = some (encP l l.length) := if_pos h
theorem pinsOut_bad {l : List PinD} (h : ¬ pinsFault l = 0) : pinsOut l = none := if_neg h
theorem enc_cases (l : List PinD) (i : Nat) : (∃ p, l[i]? = some p ∧ i < l.length ∧ p.gone = true) ∨ (∃ p, l[i]? = some p ∧ i < l.length ∧ p.gone = false) ∨ l.length ≤ i := by
  rcases Nat.lt_or_ge i l.length with hlt | hge
  · obtain ⟨p, hp⟩ := get_lt hlt
    cases hg : p.gone with
    | true => exact .inl ⟨p, hp, hlt, hg⟩
    | false => exact .inr (.inl ⟨p, hp, hlt, hg⟩)
  · exact .inr (.inr hge)
theorem pins_of_rows {m : Nat} : ∀ {rows : List (List PL)}, (∀ r ∈ rows, Sh Try.prog m 47 r) → ∃ l : List PinD, rows = l.map pinC ∧ ∀ p ∈ l, p.ok
  | [], _ => ⟨[], rfl, fun p hp => (by cases hp)⟩
  | r :: rs, h => by
    have h1 := h r (by simp)
    obtain ⟨l, hl, hok⟩ := pins_of_rows (rows := rs) fun q hq => h q (by simp [hq])
    obtain ⟨psh1, mh1, rfl, hph1⟩ := sh_struct h1 Try.underlying47
    rcases hph1 with _ | ⟨h1a0, _ | ⟨h1a1, _ | ⟨h1a2, _ | _⟩⟩⟩
    obtain ⟨name, rfl, hname⟩ := sh_str h1a0 Try.underlying9
    obtain ⟨key, hkey, rfl⟩ := sh_bytes h1a1 Try.underlying23 Try.underlying5
    obtain ⟨gone, rfl⟩ := sh_bool h1a2 Try.underlying4
    exact ⟨⟨name, key, gone⟩ :: l, by rw [hl]; simp [pinC], fun p hp => by
      rcases List.mem_cons.mp hp with rfl | hp
      · exact ⟨hkey, hname⟩
      · exact hok p hp⟩
set_option maxHeartbeats 400000 in
theorem pins_encode_bad (l : List PinD) (hl : ∀ p ∈ l, p.ok) (ex : Bool) (hf : ¬ pinsFault l = 0) :
    Ct Try.prog 18 [.w (.one (.pl (.R ex 34 (l.map pinC))))] (Tidy (bytesOut (pinsOut l) (pinsFault l))) := by
  refine Ct.k Try.func18 rfl Try.ntmps18 (congrArg Array.toList Try.results18) (by simp) fun w0 ro => ?_
  refine seq_k fun N1 M1 hN1 hM1 => ?_
  refine region_k fun K2 hK2 => ?_
  simp only [go_sem, hf]
  all_goals repeat' (first | apply And.intro | intro _)
  all_goals
    refine hK2 _ ?_
    refine hN1 _ ?_
    refine seq_k fun N3 M3 hN3 hM3 => ?_
    refine seq_k fun N4 M4 hN4 hM4 => ?_
    refine region_k fun K5 hK5 => ?_
    simp only [go_sem, hf]
    all_goals repeat' (first | apply And.intro | intro _)
    all_goals refine call_view (fun k => k) (fun _ _ => rfl) (by first | rfl | (simp only [go_sem, hf]; rfl) | simp only [go_sem, hf]) ((pins_check l hl ex).plain fun _ _ h => h) ?_
    all_goals (rintro v m ⟨hR, hm⟩; subst hR; subst hm)
    all_goals refine And.intro (by first | rfl | simp only [go_sem]) (And.intro (by first | rfl | simp only [go_sem]) ?_)
    all_goals simp only [go_sem, hf]
    all_goals repeat' (first | apply And.intro | intro _)
    all_goals
      refine hK5 _ ?_
      refine hN4 _ ?_
      refine seq_k fun N6 M6 hN6 hM6 => ?_
      refine region_k fun K7 hK7 => ?_
      simp only [go_sem, hf]
      all_goals repeat' (first | apply And.intro | intro _)
      all_goals
        refine hK7 _ ?_
        refine hN6 _ ?_
        refine cond_k rfl (fun hc => ?_) (fun hc => ?_)
        · try simp only [go_sem, hf] at hc
          all_goals
            refine seq_k fun N8 M8 hN8 hM8 => ?_
            refine region_k fun K9 hK9 => ?_
            simp only [go_sem, hf]
            all_goals repeat' (first | apply And.intro | intro _)
            all_goals
              refine hK9 _ ?_
              refine hN8 _ ?_
              refine ret_k ?_
              refine hM3 _ _ ?_
              simp only [go_sem, hf]
              all_goals (rw [pinsOut_bad hf]; exact out_nil _)
        · exfalso; revert hc; simp [go_sem, hf]
set_option maxHeartbeats 1600000 in
theorem pins_encode_ok (l : List PinD) (hl : ∀ p ∈ l, p.ok) (ex : Bool) (hf : pinsFault l = 0) :
    Ct Try.prog 18 [.w (.one (.pl (.R ex 34 (l.map pinC))))] (Tidy (bytesOut (pinsOut l) (pinsFault l))) := by
  refine Ct.k Try.func18 rfl Try.ntmps18 (congrArg Array.toList Try.results18) (by simp) fun w0 ro => ?_
  refine seq_k fun N1 M1 hN1 hM1 => ?_
  refine region_k fun K2 hK2 => ?_
  (try simp only [go_sem, hf]); (repeat (simp (disch := (first | omega | (simp only [List.length_append, List.length_cons, List.length_nil, List.length_map, bytesC_length, hf]; omega))) only [w64, ipos, ineg, bin_add_str2]; try simp only [go_sem, hf]))
  all_goals repeat' (first | apply And.intro | intro _)
  all_goals
    refine hK2 _ ?_
    refine hN1 _ ?_
    refine seq_k fun N3 M3 hN3 hM3 => ?_
    refine seq_k fun N4 M4 hN4 hM4 => ?_
    refine region_k fun K5 hK5 => ?_
    (try simp only [go_sem, hf]); (repeat (simp (disch := (first | omega | (simp only [List.length_append, List.length_cons, List.length_nil, List.length_map, bytesC_length, hf]; omega))) only [w64, ipos, ineg, bin_add_str2]; try simp only [go_sem, hf]))
    all_goals repeat' (first | apply And.intro | intro _)
    all_goals refine call_view (fun k => k) (fun _ _ => rfl) (by first | rfl | (simp only [go_sem, hf]; rfl) | simp only [go_sem, hf]) ((pins_check l hl ex).plain fun _ _ h => h) ?_
    all_goals (rintro v m ⟨hR, hm⟩; subst hR; subst hm)
    all_goals refine And.intro (by first | rfl | simp only [go_sem]) (And.intro (by first | rfl | simp only [go_sem]) ?_)
    all_goals (try simp only [go_sem, hf]); (repeat (simp (disch := (first | omega | (simp only [List.length_append, List.length_cons, List.length_nil, List.length_map, bytesC_length, hf]; omega))) only [w64, ipos, ineg, bin_add_str2]; try simp only [go_sem, hf]))
    all_goals repeat' (first | apply And.intro | intro _)
    all_goals
      refine hK5 _ ?_
      refine hN4 _ ?_
      refine seq_k fun N6 M6 hN6 hM6 => ?_
      refine region_k fun K7 hK7 => ?_
      (try simp only [go_sem, hf]); (repeat (simp (disch := (first | omega | (simp only [List.length_append, List.length_cons, List.length_nil, List.length_map, bytesC_length, hf]; omega))) only [w64, ipos, ineg, bin_add_str2]; try simp only [go_sem, hf]))
      all_goals repeat' (first | apply And.intro | intro _)
      all_goals
        refine hK7 _ ?_
        refine hN6 _ ?_
        refine cond_k rfl (fun hc => ?_) (fun hc => ?_)
        · exfalso; revert hc; simp [go_sem, hf]
        · try simp only [go_sem, hf] at hc
          all_goals
            refine skip_k ?_
            refine hN3 _ ?_
            refine seq_k fun N8 M8 hN8 hM8 => ?_
            refine region_k fun K9 hK9 => ?_
            (try simp only [go_sem, hf]); (repeat (simp (disch := (first | omega | (simp only [List.length_append, List.length_cons, List.length_nil, List.length_map, bytesC_length, hf]; omega))) only [w64, ipos, ineg, bin_add_str2]; try simp only [go_sem, hf]))
            all_goals repeat' (first | apply And.intro | intro _)
            all_goals
              refine hK9 _ ?_
              refine hN8 _ ?_
              refine seq_k fun N10 M10 hN10 hM10 => ?_
              refine seq_k fun N11 M11 hN11 hM11 => ?_
              refine region_k fun K12 hK12 => ?_
              (try simp only [go_sem, hf]); (repeat (simp (disch := (first | omega | (simp only [List.length_append, List.length_cons, List.length_nil, List.length_map, bytesC_length, hf]; omega))) only [w64, ipos, ineg, bin_add_str2]; try simp only [go_sem, hf]))
              all_goals repeat' (first | apply And.intro | intro _)
              all_goals
                refine hK12 _ ?_
                refine hN11 _ ?_
                refine block_k fun B13 bn13 bx13 br13 bi13 => ?_
                refine ht_dropE [0, 4, 8, 9, 10, 11, 12, 13, 14, 15, 16] ?_
                simp only [dropE_mk, fgt_nil, fgt_cons, List.contains_cons, List.contains_nil, Nat.reduceBEq, beq_self_eq_true, Bool.or_false, Bool.or_true, Bool.true_or, Bool.false_or, Bool.false_eq_true, reduceIte]
                refine loop_k (fun i => [(19, .w (.one (.pl (.i (i.1 : Nat))))), (5, .w (.one (.s 16 [] (encP l i.1).length 1)))]) (fun i => [(16, ⟨true, bytesC (encP l i.1)⟩)]) (fun i => l.length - i.1) (⟨0, Nat.zero_le _⟩ : {i : Nat // i ≤ l.length}) ?_ ?_ ?_
                · (simp only [go_sem, leX, List.cons_append, List.nil_append]; try simp [encP_zero, byteI])
                · (simp only [go_sem, leX, List.cons_append, List.nil_append]; try simp [encP_zero, byteI, bytesC])
                intro ⟨i, hi⟩ N14 M14 hN14 hM14
                simp only [List.cons_append, List.nil_append]
                rcases enc_cases l i with ⟨p, hp, hlt, hgo⟩ | ⟨p, hp, hlt, hgo⟩ | hge
                · have hg0 := getD_map (f := pinC) (d := ([] : List PL)) hp
                  have hpo := hl p (List.mem_of_getElem? hp)
                  have hk := hpo.1
                  have hn := good_name hp ((pinsFault_zero hf).2 i hlt)
                  have hn1 : 1 ≤ p.name.length ∧ p.name.length ≤ 16 := by simpa [nameOk] using hn
                  have hle := encP_len hl hf i hi
                  have h8 := (pinsFault_zero hf).1
                  have hc1 : ((i : Nat) : Int) < ((l.length : Nat) : Int) := by omega
                  have hi1 : (0 : Int) ≤ ((i : Nat) : Int) := by omega
                  have hs1 : Go.RowKit.wrap64 (((i : Nat) : Int) + 1) = ((i + 1 : Nat) : Int) := by unfold Go.RowKit.wrap64; omega
                  have henc := encP_succ hp
                  refine seq_k fun N15 M15 hN15 hM15 => ?_
                  refine region_k fun K16 hK16 => ?_
                  (try simp only [go_sem, hf, List.length_map, hk, hg0, Int.toNat_natCast, hc1, hi1, hs1, hgo]); (repeat (simp (disch := (first | omega | (simp only [List.length_append, List.length_cons, List.length_nil, List.length_map, bytesC_length, hf, List.length_map, hk, hg0, Int.toNat_natCast, hc1, hi1, hs1, hgo]; omega))) only [w64, ipos, ineg, bin_add_str2]; try simp only [go_sem, hf, List.length_map, hk, hg0, Int.toNat_natCast, hc1, hi1, hs1, hgo]))
                  all_goals repeat' (first | apply And.intro | intro _)
                  all_goals
                    refine hK16 _ ?_
                    refine hN15 _ ?_
                    refine seq_k fun N17 M17 hN17 hM17 => ?_
                    refine cond_k rfl (fun hc => ?_) (fun hc => ?_)
                    · try simp only [go_sem, hf, List.length_map, hk, hg0, Int.toNat_natCast, hc1, hi1, hs1, hgo] at hc
                      all_goals
                        refine skip_k ?_
                        refine hN17 _ ?_
                        refine seq_k fun N18 M18 hN18 hM18 => ?_
                        refine block_k fun B19 bn19 bx19 br19 bi19 => ?_
                        refine seq_k fun N20 M20 hN20 hM20 => ?_
                        refine region_k fun K21 hK21 => ?_
                        (try simp only [go_sem, hf, List.length_map, hk, hg0, Int.toNat_natCast, hc1, hi1, hs1, hgo]); (repeat (simp (disch := (first | omega | (simp only [List.length_append, List.length_cons, List.length_nil, List.length_map, bytesC_length, hf, List.length_map, hk, hg0, Int.toNat_natCast, hc1, hi1, hs1, hgo]; omega))) only [w64, ipos, ineg, bin_add_str2]; try simp only [go_sem, hf, List.length_map, hk, hg0, Int.toNat_natCast, hc1, hi1, hs1, hgo]))
                        all_goals repeat' (first | apply And.intro | intro _)
                        all_goals
                          refine hK21 _ ?_
                          refine hN20 _ ?_
                          refine seq_k fun N22 M22 hN22 hM22 => ?_
                          refine draw_k [23, 24, 25, 26, 27, 28, 29, 30, 31, 32, 33, 34, 35, 5] [0, 0, 2, 6, 14, 30, 63, 0, 128, 511, 0, 1024, 4095, 8191] [(6, 7), (6, 8), (6, 10), (9, 10), (6, 11), (9, 11)] mixed (by kernel_rfl) (by simp only [go_sem]) fun K23 hK23 => ?_
                          (try simp only [go_sem, hf, List.length_map, hk, hg0, Int.toNat_natCast, hc1, hi1, hs1, hgo]); (repeat (simp (disch := (first | omega | (simp only [List.length_append, List.length_cons, List.length_nil, List.length_map, bytesC_length, hf, List.length_map, hk, hg0, Int.toNat_natCast, hc1, hi1, hs1, hgo]; omega))) only [w64, ipos, ineg, bin_add_str2]; try simp only [go_sem, hf, List.length_map, hk, hg0, Int.toNat_natCast, hc1, hi1, hs1, hgo]))
                          all_goals repeat' (first | apply And.intro | intro _)
                          all_goals
                            refine hK23 _ _ ?_ ?_
                            · first | trivial | (simp only [go_sem]; done) | (simp only [go_sem]; simp; done) | (simp only [go_sem]; simp; simp only [go_sem])
                            refine hN22 _ ?_
                            refine seq_k fun N24 M24 hN24 hM24 => ?_
                            refine region_k fun K25 hK25 => ?_
                            (try simp only [go_sem, hf, List.length_map, hk, hg0, Int.toNat_natCast, hc1, hi1, hs1, hgo]); (repeat (simp (disch := (first | omega | (simp only [List.length_append, List.length_cons, List.length_nil, List.length_map, bytesC_length, hf, List.length_map, hk, hg0, Int.toNat_natCast, hc1, hi1, hs1, hgo]; omega))) only [w64, ipos, ineg, bin_add_str2]; try simp only [go_sem, hf, List.length_map, hk, hg0, Int.toNat_natCast, hc1, hi1, hs1, hgo]))
                            all_goals repeat' (first | apply And.intro | intro _)
                            all_goals
                              refine hK25 _ ?_
                              refine hN24 _ ?_
                              refine cond_k rfl (fun hc => ?_) (fun hc => ?_)
                              · try simp only [go_sem, hf, List.length_map, hk, hg0, Int.toNat_natCast, hc1, hi1, hs1, hgo] at hc
                                all_goals
                                  refine region_k fun K26 hK26 => ?_
                                  (try simp only [go_sem, hf, List.length_map, hk, hg0, Int.toNat_natCast, hc1, hi1, hs1, hgo]); (repeat (simp (disch := (first | omega | (simp only [List.length_append, List.length_cons, List.length_nil, List.length_map, bytesC_length, hf, List.length_map, hk, hg0, Int.toNat_natCast, hc1, hi1, hs1, hgo]; omega))) only [w64, ipos, ineg, bin_add_str2]; try simp only [go_sem, hf, List.length_map, hk, hg0, Int.toNat_natCast, hc1, hi1, hs1, hgo]))
                                  all_goals repeat' (first | apply And.intro | intro _)
                                  all_goals
                                    refine hK26 _ ?_
                                    refine bn19 _ ?_
                                    refine hN18 _ ?_
                                    refine region_k fun K27 hK27 => ?_
                                    (try simp only [go_sem, hf, List.length_map, hk, hg0, Int.toNat_natCast, hc1, hi1, hs1, hgo]); (repeat (simp (disch := (first | omega | (simp only [List.length_append, List.length_cons, List.length_nil, List.length_map, bytesC_length, hf, List.length_map, hk, hg0, Int.toNat_natCast, hc1, hi1, hs1, hgo]; omega))) only [w64, ipos, ineg, bin_add_str2]; try simp only [go_sem, hf, List.length_map, hk, hg0, Int.toNat_natCast, hc1, hi1, hs1, hgo]))
                                    all_goals repeat' (first | apply And.intro | intro _)
                                    all_goals
                                      refine hK27 _ ?_
                                      refine hN14 ⟨i + 1, hlt⟩ _ ?_ ?_ ?_
                                      · (dsimp only; omega)
                                      · (simp only [go_sem, leX, List.cons_append, List.nil_append, henc]; try simp [pinBytes, hgo, hk, byteI]; try omega)
                                      · (simp only [go_sem, leX, List.cons_append, List.nil_append, henc]; try simp [pinBytes, hgo, byteI, bytesC])
                              · exfalso; revert hc; simp [go_sem, hf, List.length_map, hk, hg0, Int.toNat_natCast, hc1, hi1, hs1, hgo]
                    · exfalso; revert hc; simp [go_sem, hf, List.length_map, hk, hg0, Int.toNat_natCast, hc1, hi1, hs1, hgo]
                · have hg0 := getD_map (f := pinC) (d := ([] : List PL)) hp
                  have hpo := hl p (List.mem_of_getElem? hp)
                  have hk := hpo.1
                  have hn := good_name hp ((pinsFault_zero hf).2 i hlt)
                  have hn1 : 1 ≤ p.name.length ∧ p.name.length ≤ 16 := by simpa [nameOk] using hn
                  have hle := encP_len hl hf i hi
                  have h8 := (pinsFault_zero hf).1
                  have hc1 : ((i : Nat) : Int) < ((l.length : Nat) : Int) := by omega
                  have hi1 : (0 : Int) ≤ ((i : Nat) : Int) := by omega
                  have hs1 : Go.RowKit.wrap64 (((i : Nat) : Int) + 1) = ((i + 1 : Nat) : Int) := by unfold Go.RowKit.wrap64; omega
                  have henc := encP_succ hp
                  refine seq_k fun N28 M28 hN28 hM28 => ?_
                  refine region_k fun K29 hK29 => ?_
                  (try simp only [go_sem, hf, List.length_map, hk, hg0, Int.toNat_natCast, hc1, hi1, hs1, hgo]); (repeat (simp (disch := (first | omega | (simp only [List.length_append, List.length_cons, List.length_nil, List.length_map, bytesC_length, hf, List.length_map, hk, hg0, Int.toNat_natCast, hc1, hi1, hs1, hgo]; omega))) only [w64, ipos, ineg, bin_add_str2]; try simp only [go_sem, hf, List.length_map, hk, hg0, Int.toNat_natCast, hc1, hi1, hs1, hgo]))
                  all_goals repeat' (first | apply And.intro | intro _)
                  all_goals
                    refine hK29 _ ?_
                    refine hN28 _ ?_
                    refine seq_k fun N30 M30 hN30 hM30 => ?_
                    refine cond_k rfl (fun hc => ?_) (fun hc => ?_)
                    · try simp only [go_sem, hf, List.length_map, hk, hg0, Int.toNat_natCast, hc1, hi1, hs1, hgo] at hc
                      all_goals
                        refine skip_k ?_
                        refine hN30 _ ?_
                        refine seq_k fun N31 M31 hN31 hM31 => ?_
                        refine block_k fun B32 bn32 bx32 br32 bi32 => ?_
                        refine seq_k fun N33 M33 hN33 hM33 => ?_
                        refine region_k fun K34 hK34 => ?_
                        (try simp only [go_sem, hf, List.length_map, hk, hg0, Int.toNat_natCast, hc1, hi1, hs1, hgo]); (repeat (simp (disch := (first | omega | (simp only [List.length_append, List.length_cons, List.length_nil, List.length_map, bytesC_length, hf, List.length_map, hk, hg0, Int.toNat_natCast, hc1, hi1, hs1, hgo]; omega))) only [w64, ipos, ineg, bin_add_str2]; try simp only [go_sem, hf, List.length_map, hk, hg0, Int.toNat_natCast, hc1, hi1, hs1, hgo]))
                        all_goals repeat' (first | apply And.intro | intro _)
                        all_goals
                          refine hK34 _ ?_
                          refine hN33 _ ?_
                          refine seq_k fun N35 M35 hN35 hM35 => ?_
                          refine draw_k [23, 24, 25, 26, 27, 28, 29, 30, 31, 32, 33, 34, 35, 5] [0, 0, 2, 6, 14, 30, 63, 0, 128, 511, 0, 1024, 4095, 8191] [(6, 7), (6, 8), (6, 10), (9, 10), (6, 11), (9, 11)] mixed (by kernel_rfl) (by simp only [go_sem]) fun K36 hK36 => ?_
                          (try simp only [go_sem, hf, List.length_map, hk, hg0, Int.toNat_natCast, hc1, hi1, hs1, hgo]); (repeat (simp (disch := (first | omega | (simp only [List.length_append, List.length_cons, List.length_nil, List.length_map, bytesC_length, hf, List.length_map, hk, hg0, Int.toNat_natCast, hc1, hi1, hs1, hgo]; omega))) only [w64, ipos, ineg, bin_add_str2]; try simp only [go_sem, hf, List.length_map, hk, hg0, Int.toNat_natCast, hc1, hi1, hs1, hgo]))
                          all_goals repeat' (first | apply And.intro | intro _)
                          all_goals
                            refine hK36 _ _ ?_ ?_
                            · first | trivial | (simp only [go_sem]; done) | (simp only [go_sem]; simp; done) | (simp only [go_sem]; simp; simp only [go_sem])
                            refine hN35 _ ?_
                            refine seq_k fun N37 M37 hN37 hM37 => ?_
                            refine region_k fun K38 hK38 => ?_
                            (try simp only [go_sem, hf, List.length_map, hk, hg0, Int.toNat_natCast, hc1, hi1, hs1, hgo]); (repeat (simp (disch := (first | omega | (simp only [List.length_append, List.length_cons, List.length_nil, List.length_map, bytesC_length, hf, List.length_map, hk, hg0, Int.toNat_natCast, hc1, hi1, hs1, hgo]; omega))) only [w64, ipos, ineg, bin_add_str2]; try simp only [go_sem, hf, List.length_map, hk, hg0, Int.toNat_natCast, hc1, hi1, hs1, hgo]))
                            all_goals repeat' (first | apply And.intro | intro _)
                            all_goals
                              refine hK38 _ ?_
                              refine hN37 _ ?_
                              refine cond_k rfl (fun hc => ?_) (fun hc => ?_)
                              · exfalso; revert hc; simp [go_sem, hf, List.length_map, hk, hg0, Int.toNat_natCast, hc1, hi1, hs1, hgo]
                              · try simp only [go_sem, hf, List.length_map, hk, hg0, Int.toNat_natCast, hc1, hi1, hs1, hgo] at hc
                                all_goals
                                  refine region_k fun K39 hK39 => ?_
                                  (try simp only [go_sem, hf, List.length_map, hk, hg0, Int.toNat_natCast, hc1, hi1, hs1, hgo]); (repeat (simp (disch := (first | omega | (simp only [List.length_append, List.length_cons, List.length_nil, List.length_map, bytesC_length, hf, List.length_map, hk, hg0, Int.toNat_natCast, hc1, hi1, hs1, hgo]; omega))) only [w64, ipos, ineg, bin_add_str2]; try simp only [go_sem, hf, List.length_map, hk, hg0, Int.toNat_natCast, hc1, hi1, hs1, hgo]))
                                  all_goals repeat' (first | apply And.intro | intro _)
                                  all_goals
                                    refine hK39 _ ?_
                                    refine bn32 _ ?_
                                    refine hN31 _ ?_
                                    refine region_k fun K40 hK40 => ?_
                                    (try simp only [go_sem, hf, List.length_map, hk, hg0, Int.toNat_natCast, hc1, hi1, hs1, hgo]); (repeat (simp (disch := (first | omega | (simp only [List.length_append, List.length_cons, List.length_nil, List.length_map, bytesC_length, hf, List.length_map, hk, hg0, Int.toNat_natCast, hc1, hi1, hs1, hgo]; omega))) only [w64, ipos, ineg, bin_add_str2]; try simp only [go_sem, hf, List.length_map, hk, hg0, Int.toNat_natCast, hc1, hi1, hs1, hgo]))
                                    all_goals repeat' (first | apply And.intro | intro _)
                                    all_goals
                                      refine hK40 _ ?_
                                      refine hN14 ⟨i + 1, hlt⟩ _ ?_ ?_ ?_
                                      · (dsimp only; omega)
                                      · (simp only [go_sem, leX, List.cons_append, List.nil_append, henc]; try simp [pinBytes, hgo, hk, byteI]; try omega)
                                      · (simp only [go_sem, leX, List.cons_append, List.nil_append, henc]; try simp [pinBytes, hgo, byteI, bytesC])
                    · exfalso; revert hc; simp [go_sem, hf, List.length_map, hk, hg0, Int.toNat_natCast, hc1, hi1, hs1, hgo]
                · obtain rfl : i = l.length := by omega
                  have hc9 : ¬ ((l.length : Nat) : Int) < ((l.length : Nat) : Int) := by omega
                  refine seq_k fun N41 M41 hN41 hM41 => ?_
                  refine region_k fun K42 hK42 => ?_
                  (try simp only [go_sem, hf, List.length_map, hc9]); (repeat (simp (disch := (first | omega | (simp only [List.length_append, List.length_cons, List.length_nil, List.length_map, bytesC_length, hf, List.length_map, hc9]; omega))) only [w64, ipos, ineg, bin_add_str2]; try simp only [go_sem, hf, List.length_map, hc9]))
                  all_goals repeat' (first | apply And.intro | intro _)
                  all_goals
                    refine hK42 _ ?_
                    refine hN41 _ ?_
                    refine seq_k fun N43 M43 hN43 hM43 => ?_
                    refine cond_k rfl (fun hc => ?_) (fun hc => ?_)
                    · exfalso; revert hc; simp [go_sem, hf, List.length_map, hc9]
                    · try simp only [go_sem, hf, List.length_map, hc9] at hc
                      all_goals
                        refine exit_k ?_
                        refine hM43 _ _ ?_
                        refine hM14 _ _ ?_
                        refine bx13 _ ?_
                        refine hN10 _ ?_
                        refine seq_k fun N44 M44 hN44 hM44 => ?_
                        refine region_k fun K45 hK45 => ?_
                        (try simp only [go_sem, hf, List.length_map, hc9]); (repeat (simp (disch := (first | omega | (simp only [List.length_append, List.length_cons, List.length_nil, List.length_map, bytesC_length, hf, List.length_map, hc9]; omega))) only [w64, ipos, ineg, bin_add_str2]; try simp only [go_sem, hf, List.length_map, hc9]))
                        all_goals repeat' (first | apply And.intro | intro _)
                        all_goals
                          refine hK45 _ ?_
                          refine hN44 _ ?_
                          refine ret_k ?_
                          (try simp only [go_sem, hf, List.length_map, hc9]); (repeat (simp (disch := (first | omega | (simp only [List.length_append, List.length_cons, List.length_nil, List.length_map, bytesC_length, hf, List.length_map, hc9]; omega))) only [w64, ipos, ineg, bin_add_str2]; try simp only [go_sem, hf, List.length_map, hc9]))
                          all_goals (rw [pinsOut_ok hf]; (try rw [hf]); exact out_own rfl (by simp [look]))
theorem pins_encode (l : List PinD) (hl : ∀ p ∈ l, p.ok) (ex : Bool) : Ct Try.prog 18 [.w (.one (.pl (.R ex 34 (l.map pinC))))] (Tidy (bytesOut (pinsOut l) (pinsFault l))) := by
  by_cases hf : pinsFault l = 0
  · exact pins_encode_ok l hl ex hf
  · exact pins_encode_bad l hl ex hf
set_option maxHeartbeats 400000 in
theorem pins_bytes_bad (l : List PinD) (hl : ∀ p ∈ l, p.ok) (ex : Bool) (hf : ¬ pinsFault l = 0) :
    Ct Try.prog 19 [.w (.one (.pl (.R ex 34 (l.map pinC))))] (Tidy (bytesOut (pinsOut l) (pinsFault l))) := by
  refine Ct.k Try.func19 rfl Try.ntmps19 (congrArg Array.toList Try.results19) (by simp) fun w0 ro => ?_
  refine seq_k fun N1 M1 hN1 hM1 => ?_
  refine region_k fun K2 hK2 => ?_
  simp only [go_sem, hf]
  all_goals repeat' (first | apply And.intro | intro _)
  all_goals
    refine hK2 _ ?_
    refine hN1 _ ?_
    refine seq_k fun N3 M3 hN3 hM3 => ?_
    refine seq_k fun N4 M4 hN4 hM4 => ?_
    refine region_k fun K5 hK5 => ?_
    simp only [go_sem, hf]
    all_goals repeat' (first | apply And.intro | intro _)
    all_goals refine call_view (fun k => k) (fun _ _ => rfl) (by first | rfl | (simp only [go_sem, hf]; rfl) | simp only [go_sem, hf]) ((pins_fault l hl ex).plain fun _ _ h => h) ?_
    all_goals (rintro v m ⟨hR, hm⟩; subst hR; subst hm)
    all_goals refine And.intro (by first | rfl | simp only [go_sem]) (And.intro (by first | rfl | simp only [go_sem]) ?_)
    all_goals simp only [go_sem, hf]
    all_goals repeat' (first | apply And.intro | intro _)
    all_goals
      refine hK5 _ ?_
      refine hN4 _ ?_
      refine seq_k fun N6 M6 hN6 hM6 => ?_
      refine region_k fun K7 hK7 => ?_
      simp only [go_sem, hf]
      all_goals repeat' (first | apply And.intro | intro _)
      all_goals
        refine hK7 _ ?_
        refine hN6 _ ?_
        refine cond_k rfl (fun hc => ?_) (fun hc => ?_)
        · try simp only [go_sem, hf] at hc
          all_goals
            refine seq_k fun N8 M8 hN8 hM8 => ?_
            refine region_k fun K9 hK9 => ?_
            simp only [go_sem, hf]
            all_goals repeat' (first | apply And.intro | intro _)
            all_goals
              refine hK9 _ ?_
              refine hN8 _ ?_
              refine ret_k ?_
              refine hM3 _ _ ?_
              simp only [go_sem, hf]
              all_goals (rw [pinsOut_bad hf]; exact out_nil _)
        · exfalso; revert hc; simp [go_sem, hf]
set_option maxHeartbeats 1600000 in
theorem pins_bytes_ok (l : List PinD) (hl : ∀ p ∈ l, p.ok) (ex : Bool) (hf : pinsFault l = 0) :
    Ct Try.prog 19 [.w (.one (.pl (.R ex 34 (l.map pinC))))] (Tidy (bytesOut (pinsOut l) (pinsFault l))) := by
  refine Ct.k Try.func19 rfl Try.ntmps19 (congrArg Array.toList Try.results19) (by simp) fun w0 ro => ?_
  refine seq_k fun N1 M1 hN1 hM1 => ?_
  refine region_k fun K2 hK2 => ?_
  (try simp only [go_sem, hf]); (repeat (simp (disch := (first | omega | (simp only [List.length_append, List.length_cons, List.length_nil, List.length_map, bytesC_length, hf]; omega))) only [w64, ipos, ineg, bin_add_str2]; try simp only [go_sem, hf]))
  all_goals repeat' (first | apply And.intro | intro _)
  all_goals
    refine hK2 _ ?_
    refine hN1 _ ?_
    refine seq_k fun N3 M3 hN3 hM3 => ?_
    refine seq_k fun N4 M4 hN4 hM4 => ?_
    refine region_k fun K5 hK5 => ?_
    (try simp only [go_sem, hf]); (repeat (simp (disch := (first | omega | (simp only [List.length_append, List.length_cons, List.length_nil, List.length_map, bytesC_length, hf]; omega))) only [w64, ipos, ineg, bin_add_str2]; try simp only [go_sem, hf]))
    all_goals repeat' (first | apply And.intro | intro _)
    all_goals refine call_view (fun k => k) (fun _ _ => rfl) (by first | rfl | (simp only [go_sem, hf]; rfl) | simp only [go_sem, hf]) ((pins_fault l hl ex).plain fun _ _ h => h) ?_
    all_goals (rintro v m ⟨hR, hm⟩; subst hR; subst hm)
    all_goals refine And.intro (by first | rfl | simp only [go_sem]) (And.intro (by first | rfl | simp only [go_sem]) ?_)
    all_goals (try simp only [go_sem, hf]); (repeat (simp (disch := (first | omega | (simp only [List.length_append, List.length_cons, List.length_nil, List.length_map, bytesC_length, hf]; omega))) only [w64, ipos, ineg, bin_add_str2]; try simp only [go_sem, hf]))
    all_goals repeat' (first | apply And.intro | intro _)
    all_goals
      refine hK5 _ ?_
      refine hN4 _ ?_
      refine seq_k fun N6 M6 hN6 hM6 => ?_
      refine region_k fun K7 hK7 => ?_
      (try simp only [go_sem, hf]); (repeat (simp (disch := (first | omega | (simp only [List.length_append, List.length_cons, List.length_nil, List.length_map, bytesC_length, hf]; omega))) only [w64, ipos, ineg, bin_add_str2]; try simp only [go_sem, hf]))
      all_goals repeat' (first | apply And.intro | intro _)
      all_goals
        refine hK7 _ ?_
        refine hN6 _ ?_
        refine cond_k rfl (fun hc => ?_) (fun hc => ?_)
        · exfalso; revert hc; simp [go_sem, hf]
        · try simp only [go_sem, hf] at hc
          all_goals
            refine skip_k ?_
            refine hN3 _ ?_
            refine seq_k fun N8 M8 hN8 hM8 => ?_
            refine region_k fun K9 hK9 => ?_
            (try simp only [go_sem, hf]); (repeat (simp (disch := (first | omega | (simp only [List.length_append, List.length_cons, List.length_nil, List.length_map, bytesC_length, hf]; omega))) only [w64, ipos, ineg, bin_add_str2]; try simp only [go_sem, hf]))
            all_goals repeat' (first | apply And.intro | intro _)
            all_goals
              refine hK9 _ ?_
              refine hN8 _ ?_
              refine seq_k fun N10 M10 hN10 hM10 => ?_
              refine seq_k fun N11 M11 hN11 hM11 => ?_
              refine region_k fun K12 hK12 => ?_
              (try simp only [go_sem, hf]); (repeat (simp (disch := (first | omega | (simp only [List.length_append, List.length_cons, List.length_nil, List.length_map, bytesC_length, hf]; omega))) only [w64, ipos, ineg, bin_add_str2]; try simp only [go_sem, hf]))
              all_goals repeat' (first | apply And.intro | intro _)
              all_goals
                refine hK12 _ ?_
                refine hN11 _ ?_
                refine block_k fun B13 bn13 bx13 br13 bi13 => ?_
                refine ht_dropE [0, 4, 9, 10, 11, 12, 13, 14, 15, 16, 17, 18] ?_
                simp only [dropE_mk, fgt_nil, fgt_cons, List.contains_cons, List.contains_nil, Nat.reduceBEq, beq_self_eq_true, Bool.or_false, Bool.or_true, Bool.true_or, Bool.false_or, Bool.false_eq_true, reduceIte]
                refine loop_k (fun i => [(21, .w (.one (.pl (.i (i.1 : Nat))))), (5, .w (.one (.pl (.str (encP l i.1)))))]) (fun i => []) (fun i => l.length - i.1) (⟨0, Nat.zero_le _⟩ : {i : Nat // i ≤ l.length}) ?_ ?_ ?_
                · (simp only [go_sem, leX, List.cons_append, List.nil_append]; try simp [encP_zero, byteI])
                · (simp only [go_sem, leX, List.cons_append, List.nil_append]; try simp [encP_zero, byteI, bytesC])
                intro ⟨i, hi⟩ N14 M14 hN14 hM14
                simp only [List.cons_append, List.nil_append]
                rcases enc_cases l i with ⟨p, hp, hlt, hgo⟩ | ⟨p, hp, hlt, hgo⟩ | hge
                · have hg0 := getD_map (f := pinC) (d := ([] : List PL)) hp
                  have hpo := hl p (List.mem_of_getElem? hp)
                  have hk := hpo.1
                  have hn := good_name hp ((pinsFault_zero hf).2 i hlt)
                  have hn1 : 1 ≤ p.name.length ∧ p.name.length ≤ 16 := by simpa [nameOk] using hn
                  have hle := encP_len hl hf i hi
                  have h8 := (pinsFault_zero hf).1
                  have hc1 : ((i : Nat) : Int) < ((l.length : Nat) : Int) := by omega
                  have hi1 : (0 : Int) ≤ ((i : Nat) : Int) := by omega
                  have hs1 : Go.RowKit.wrap64 (((i : Nat) : Int) + 1) = ((i + 1 : Nat) : Int) := by unfold Go.RowKit.wrap64; omega
                  have henc := encP_succ hp
                  refine seq_k fun N15 M15 hN15 hM15 => ?_
                  refine region_k fun K16 hK16 => ?_
                  (try simp only [go_sem, hf, List.length_map, hk, hg0, Int.toNat_natCast, hc1, hi1, hs1, hgo]); (repeat (simp (disch := (first | omega | (simp only [List.length_append, List.length_cons, List.length_nil, List.length_map, bytesC_length, hf, List.length_map, hk, hg0, Int.toNat_natCast, hc1, hi1, hs1, hgo]; omega))) only [w64, ipos, ineg, bin_add_str2]; try simp only [go_sem, hf, List.length_map, hk, hg0, Int.toNat_natCast, hc1, hi1, hs1, hgo]))
                  all_goals repeat' (first | apply And.intro | intro _)
                  all_goals
                    refine hK16 _ ?_
                    refine hN15 _ ?_
                    refine seq_k fun N17 M17 hN17 hM17 => ?_
                    refine cond_k rfl (fun hc => ?_) (fun hc => ?_)
                    · try simp only [go_sem, hf, List.length_map, hk, hg0, Int.toNat_natCast, hc1, hi1, hs1, hgo] at hc
                      all_goals
                        refine skip_k ?_
                        refine hN17 _ ?_
                        refine seq_k fun N18 M18 hN18 hM18 => ?_
                        refine block_k fun B19 bn19 bx19 br19 bi19 => ?_
                        refine seq_k fun N20 M20 hN20 hM20 => ?_
                        refine region_k fun K21 hK21 => ?_
                        (try simp only [go_sem, hf, List.length_map, hk, hg0, Int.toNat_natCast, hc1, hi1, hs1, hgo]); (repeat (simp (disch := (first | omega | (simp only [List.length_append, List.length_cons, List.length_nil, List.length_map, bytesC_length, hf, List.length_map, hk, hg0, Int.toNat_natCast, hc1, hi1, hs1, hgo]; omega))) only [w64, ipos, ineg, bin_add_str2]; try simp only [go_sem, hf, List.length_map, hk, hg0, Int.toNat_natCast, hc1, hi1, hs1, hgo]))
                        all_goals repeat' (first | apply And.intro | intro _)
                        all_goals
                          refine hK21 _ ?_
                          refine hN20 _ ?_
                          refine seq_k fun N22 M22 hN22 hM22 => ?_
                          refine region_k fun K23 hK23 => ?_
                          (try simp only [go_sem, hf, List.length_map, hk, hg0, Int.toNat_natCast, hc1, hi1, hs1, hgo]); (repeat (simp (disch := (first | omega | (simp only [List.length_append, List.length_cons, List.length_nil, List.length_map, bytesC_length, hf, List.length_map, hk, hg0, Int.toNat_natCast, hc1, hi1, hs1, hgo]; omega))) only [w64, ipos, ineg, bin_add_str2]; try simp only [go_sem, hf, List.length_map, hk, hg0, Int.toNat_natCast, hc1, hi1, hs1, hgo]))
                          all_goals repeat' (first | apply And.intro | intro _)
                          all_goals
                            refine hK23 _ ?_
                            refine hN22 _ ?_
                            refine seq_k fun N24 M24 hN24 hM24 => ?_
                            refine seq_k fun N25 M25 hN25 hM25 => ?_
                            refine region_k fun K26 hK26 => ?_
                            (try simp only [go_sem, hf, List.length_map, hk, hg0, Int.toNat_natCast, hc1, hi1, hs1, hgo]); (repeat (simp (disch := (first | omega | (simp only [List.length_append, List.length_cons, List.length_nil, List.length_map, bytesC_length, hf, List.length_map, hk, hg0, Int.toNat_natCast, hc1, hi1, hs1, hgo]; omega))) only [w64, ipos, ineg, bin_add_str2]; try simp only [go_sem, hf, List.length_map, hk, hg0, Int.toNat_natCast, hc1, hi1, hs1, hgo]))
                            all_goals repeat' (first | apply And.intro | intro _)
                            all_goals
                              refine hK26 _ ?_
                              refine hN25 _ ?_
                              refine cond_k rfl (fun hc => ?_) (fun hc => ?_)
                              · try simp only [go_sem, hf, List.length_map, hk, hg0, Int.toNat_natCast, hc1, hi1, hs1, hgo] at hc
                                all_goals
                                  refine region_k fun K27 hK27 => ?_
                                  (try simp only [go_sem, hf, List.length_map, hk, hg0, Int.toNat_natCast, hc1, hi1, hs1, hgo]); (repeat (simp (disch := (first | omega | (simp only [List.length_append, List.length_cons, List.length_nil, List.length_map, bytesC_length, hf, List.length_map, hk, hg0, Int.toNat_natCast, hc1, hi1, hs1, hgo]; omega))) only [w64, ipos, ineg, bin_add_str2]; try simp only [go_sem, hf, List.length_map, hk, hg0, Int.toNat_natCast, hc1, hi1, hs1, hgo]))
                                  all_goals repeat' (first | apply And.intro | intro _)
                                  all_goals
                                    refine hK27 _ ?_
                                    refine hN24 _ ?_
                                    refine draw_k [27, 28, 29, 30, 31, 32, 33, 34, 35, 36, 37, 38, 39, 40, 41, 42, 43, 5] [0, 0, 2, 6, 14, 30, 62, 0, 128, 510, 0, 1024, 3072, 8190, 0, 32766, 65535, 131071] [] mixed (by kernel_rfl) (by simp only [go_sem]) fun K28 hK28 => ?_
                                    (try simp only [go_sem, hf, List.length_map, hk, hg0, Int.toNat_natCast, hc1, hi1, hs1, hgo]); (repeat (simp (disch := (first | omega | (simp only [List.length_append, List.length_cons, List.length_nil, List.length_map, bytesC_length, hf, List.length_map, hk, hg0, Int.toNat_natCast, hc1, hi1, hs1, hgo]; omega))) only [w64, ipos, ineg, bin_add_str2]; try simp only [go_sem, hf, List.length_map, hk, hg0, Int.toNat_natCast, hc1, hi1, hs1, hgo]))
                                    all_goals repeat' (first | apply And.intro | intro _)
                                    all_goals refine call_draw (fun k => k) _ [] (fun _ _ => rfl) (by first | rfl | (simp only [go_sem, hf, List.length_map, hk, hg0, Int.toNat_natCast, hc1, hi1, hs1, hgo]; rfl) | simp only [go_sem, hf, List.length_map, hk, hg0, Int.toNat_natCast, hc1, hi1, hs1, hgo]) ((text_ p.key hk).plain fun _ _ h => h) ?_ ?_
                                    all_goals try (refine And.intro ?_ (And.intro ?_ (And.intro ?_ ?_)) <;> first | rfl | simp only [go_sem])
                                    all_goals (try simp only [go_sem, hf, List.length_map, hk, hg0, Int.toNat_natCast, hc1, hi1, hs1, hgo]); (repeat (simp (disch := (first | omega | (simp only [List.length_append, List.length_cons, List.length_nil, List.length_map, bytesC_length, hf, List.length_map, hk, hg0, Int.toNat_natCast, hc1, hi1, hs1, hgo]; omega))) only [w64, ipos, ineg, bin_add_str2]; try simp only [go_sem, hf, List.length_map, hk, hg0, Int.toNat_natCast, hc1, hi1, hs1, hgo]))
                                    all_goals repeat' (first | apply And.intro | intro _)
                                    all_goals
                                      refine hK28 _ _ ?_ ?_
                                      · first | trivial | (simp only [go_sem]; done) | (simp only [go_sem]; simp; done) | (simp only [go_sem]; simp; simp only [go_sem])
                                      refine bn19 _ ?_
                                      refine hN18 _ ?_
                                      refine region_k fun K29 hK29 => ?_
                                      (try simp only [go_sem, hf, List.length_map, hk, hg0, Int.toNat_natCast, hc1, hi1, hs1, hgo]); (repeat (simp (disch := (first | omega | (simp only [List.length_append, List.length_cons, List.length_nil, List.length_map, bytesC_length, hf, List.length_map, hk, hg0, Int.toNat_natCast, hc1, hi1, hs1, hgo]; omega))) only [w64, ipos, ineg, bin_add_str2]; try simp only [go_sem, hf, List.length_map, hk, hg0, Int.toNat_natCast, hc1, hi1, hs1, hgo]))
                                      all_goals repeat' (first | apply And.intro | intro _)
                                      all_goals
                                        refine hK29 _ ?_
                                        refine hN14 ⟨i + 1, hlt⟩ _ ?_ ?_ ?_
                                        · (dsimp only; omega)
                                        · (simp only [go_sem, leX, List.cons_append, List.nil_append, henc]; try simp [pinBytes, hgo, hk, byteI]; try omega)
                                        · (simp only [go_sem, leX, List.cons_append, List.nil_append, henc]; try simp [pinBytes, hgo, byteI, bytesC])
                              · exfalso; revert hc; simp [go_sem, hf, List.length_map, hk, hg0, Int.toNat_natCast, hc1, hi1, hs1, hgo]
                    · exfalso; revert hc; simp [go_sem, hf, List.length_map, hk, hg0, Int.toNat_natCast, hc1, hi1, hs1, hgo]
                · have hg0 := getD_map (f := pinC) (d := ([] : List PL)) hp
                  have hpo := hl p (List.mem_of_getElem? hp)
                  have hk := hpo.1
                  have hn := good_name hp ((pinsFault_zero hf).2 i hlt)
                  have hn1 : 1 ≤ p.name.length ∧ p.name.length ≤ 16 := by simpa [nameOk] using hn
                  have hle := encP_len hl hf i hi
                  have h8 := (pinsFault_zero hf).1
                  have hc1 : ((i : Nat) : Int) < ((l.length : Nat) : Int) := by omega
                  have hi1 : (0 : Int) ≤ ((i : Nat) : Int) := by omega
                  have hs1 : Go.RowKit.wrap64 (((i : Nat) : Int) + 1) = ((i + 1 : Nat) : Int) := by unfold Go.RowKit.wrap64; omega
                  have henc := encP_succ hp
                  refine seq_k fun N30 M30 hN30 hM30 => ?_
                  refine region_k fun K31 hK31 => ?_
                  (try simp only [go_sem, hf, List.length_map, hk, hg0, Int.toNat_natCast, hc1, hi1, hs1, hgo]); (repeat (simp (disch := (first | omega | (simp only [List.length_append, List.length_cons, List.length_nil, List.length_map, bytesC_length, hf, List.length_map, hk, hg0, Int.toNat_natCast, hc1, hi1, hs1, hgo]; omega))) only [w64, ipos, ineg, bin_add_str2]; try simp only [go_sem, hf, List.length_map, hk, hg0, Int.toNat_natCast, hc1, hi1, hs1, hgo]))
                  all_goals repeat' (first | apply And.intro | intro _)
                  all_goals
                    refine hK31 _ ?_
                    refine hN30 _ ?_
                    refine seq_k fun N32 M32 hN32 hM32 => ?_
                    refine cond_k rfl (fun hc => ?_) (fun hc => ?_)
                    · try simp only [go_sem, hf, List.length_map, hk, hg0, Int.toNat_natCast, hc1, hi1, hs1, hgo] at hc
                      all_goals
                        refine skip_k ?_
                        refine hN32 _ ?_
                        refine seq_k fun N33 M33 hN33 hM33 => ?_
                        refine block_k fun B34 bn34 bx34 br34 bi34 => ?_
                        refine seq_k fun N35 M35 hN35 hM35 => ?_
                        refine region_k fun K36 hK36 => ?_
                        (try simp only [go_sem, hf, List.length_map, hk, hg0, Int.toNat_natCast, hc1, hi1, hs1, hgo]); (repeat (simp (disch := (first | omega | (simp only [List.length_append, List.length_cons, List.length_nil, List.length_map, bytesC_length, hf, List.length_map, hk, hg0, Int.toNat_natCast, hc1, hi1, hs1, hgo]; omega))) only [w64, ipos, ineg, bin_add_str2]; try simp only [go_sem, hf, List.length_map, hk, hg0, Int.toNat_natCast, hc1, hi1, hs1, hgo]))
                        all_goals repeat' (first | apply And.intro | intro _)
                        all_goals
                          refine hK36 _ ?_
                          refine hN35 _ ?_
                          refine seq_k fun N37 M37 hN37 hM37 => ?_
                          refine region_k fun K38 hK38 => ?_
                          (try simp only [go_sem, hf, List.length_map, hk, hg0, Int.toNat_natCast, hc1, hi1, hs1, hgo]); (repeat (simp (disch := (first | omega | (simp only [List.length_append, List.length_cons, List.length_nil, List.length_map, bytesC_length, hf, List.length_map, hk, hg0, Int.toNat_natCast, hc1, hi1, hs1, hgo]; omega))) only [w64, ipos, ineg, bin_add_str2]; try simp only [go_sem, hf, List.length_map, hk, hg0, Int.toNat_natCast, hc1, hi1, hs1, hgo]))
                          all_goals repeat' (first | apply And.intro | intro _)
                          all_goals
                            refine hK38 _ ?_
                            refine hN37 _ ?_
                            refine seq_k fun N39 M39 hN39 hM39 => ?_
                            refine seq_k fun N40 M40 hN40 hM40 => ?_
                            refine region_k fun K41 hK41 => ?_
                            (try simp only [go_sem, hf, List.length_map, hk, hg0, Int.toNat_natCast, hc1, hi1, hs1, hgo]); (repeat (simp (disch := (first | omega | (simp only [List.length_append, List.length_cons, List.length_nil, List.length_map, bytesC_length, hf, List.length_map, hk, hg0, Int.toNat_natCast, hc1, hi1, hs1, hgo]; omega))) only [w64, ipos, ineg, bin_add_str2]; try simp only [go_sem, hf, List.length_map, hk, hg0, Int.toNat_natCast, hc1, hi1, hs1, hgo]))
                            all_goals repeat' (first | apply And.intro | intro _)
                            all_goals
                              refine hK41 _ ?_
                              refine hN40 _ ?_
                              refine cond_k rfl (fun hc => ?_) (fun hc => ?_)
                              · exfalso; revert hc; simp [go_sem, hf, List.length_map, hk, hg0, Int.toNat_natCast, hc1, hi1, hs1, hgo]
                              · try simp only [go_sem, hf, List.length_map, hk, hg0, Int.toNat_natCast, hc1, hi1, hs1, hgo] at hc
                                all_goals
                                  refine skip_k ?_
                                  refine hN39 _ ?_
                                  refine draw_k [27, 28, 29, 30, 31, 32, 33, 34, 35, 36, 37, 38, 39, 40, 41, 42, 43, 5] [0, 0, 2, 6, 14, 30, 62, 0, 128, 510, 0, 1024, 3072, 8190, 0, 32766, 65535, 131071] [] mixed (by kernel_rfl) (by simp only [go_sem]) fun K42 hK42 => ?_
                                  (try simp only [go_sem, hf, List.length_map, hk, hg0, Int.toNat_natCast, hc1, hi1, hs1, hgo]); (repeat (simp (disch := (first | omega | (simp only [List.length_append, List.length_cons, List.length_nil, List.length_map, bytesC_length, hf, List.length_map, hk, hg0, Int.toNat_natCast, hc1, hi1, hs1, hgo]; omega))) only [w64, ipos, ineg, bin_add_str2]; try simp only [go_sem, hf, List.length_map, hk, hg0, Int.toNat_natCast, hc1, hi1, hs1, hgo]))
                                  all_goals repeat' (first | apply And.intro | intro _)
                                  all_goals refine call_draw (fun k => k) _ [] (fun _ _ => rfl) (by first | rfl | (simp only [go_sem, hf, List.length_map, hk, hg0, Int.toNat_natCast, hc1, hi1, hs1, hgo]; rfl) | simp only [go_sem, hf, List.length_map, hk, hg0, Int.toNat_natCast, hc1, hi1, hs1, hgo]) ((text_ p.key hk).plain fun _ _ h => h) ?_ ?_
                                  all_goals try (refine And.intro ?_ (And.intro ?_ (And.intro ?_ ?_)) <;> first | rfl | simp only [go_sem])
                                  all_goals (try simp only [go_sem, hf, List.length_map, hk, hg0, Int.toNat_natCast, hc1, hi1, hs1, hgo]); (repeat (simp (disch := (first | omega | (simp only [List.length_append, List.length_cons, List.length_nil, List.length_map, bytesC_length, hf, List.length_map, hk, hg0, Int.toNat_natCast, hc1, hi1, hs1, hgo]; omega))) only [w64, ipos, ineg, bin_add_str2]; try simp only [go_sem, hf, List.length_map, hk, hg0, Int.toNat_natCast, hc1, hi1, hs1, hgo]))
                                  all_goals repeat' (first | apply And.intro | intro _)
                                  all_goals
                                    refine hK42 _ _ ?_ ?_
                                    · first | trivial | (simp only [go_sem]; done) | (simp only [go_sem]; simp; done) | (simp only [go_sem]; simp; simp only [go_sem])
                                    refine bn34 _ ?_
                                    refine hN33 _ ?_
                                    refine region_k fun K43 hK43 => ?_
                                    (try simp only [go_sem, hf, List.length_map, hk, hg0, Int.toNat_natCast, hc1, hi1, hs1, hgo]); (repeat (simp (disch := (first | omega | (simp only [List.length_append, List.length_cons, List.length_nil, List.length_map, bytesC_length, hf, List.length_map, hk, hg0, Int.toNat_natCast, hc1, hi1, hs1, hgo]; omega))) only [w64, ipos, ineg, bin_add_str2]; try simp only [go_sem, hf, List.length_map, hk, hg0, Int.toNat_natCast, hc1, hi1, hs1, hgo]))
                                    all_goals repeat' (first | apply And.intro | intro _)
                                    all_goals
                                      refine hK43 _ ?_
                                      refine hN14 ⟨i + 1, hlt⟩ _ ?_ ?_ ?_
                                      · (dsimp only; omega)
                                      · (simp only [go_sem, leX, List.cons_append, List.nil_append, henc]; try simp [pinBytes, hgo, hk, byteI]; try omega)
                                      · (simp only [go_sem, leX, List.cons_append, List.nil_append, henc]; try simp [pinBytes, hgo, byteI, bytesC])
                    · exfalso; revert hc; simp [go_sem, hf, List.length_map, hk, hg0, Int.toNat_natCast, hc1, hi1, hs1, hgo]
                · obtain rfl : i = l.length := by omega
                  have hc9 : ¬ ((l.length : Nat) : Int) < ((l.length : Nat) : Int) := by omega
                  refine seq_k fun N44 M44 hN44 hM44 => ?_
                  refine region_k fun K45 hK45 => ?_
                  (try simp only [go_sem, hf, List.length_map, hc9]); (repeat (simp (disch := (first | omega | (simp only [List.length_append, List.length_cons, List.length_nil, List.length_map, bytesC_length, hf, List.length_map, hc9]; omega))) only [w64, ipos, ineg, bin_add_str2]; try simp only [go_sem, hf, List.length_map, hc9]))
                  all_goals repeat' (first | apply And.intro | intro _)
                  all_goals
                    refine hK45 _ ?_
                    refine hN44 _ ?_
                    refine seq_k fun N46 M46 hN46 hM46 => ?_
                    refine cond_k rfl (fun hc => ?_) (fun hc => ?_)
                    · exfalso; revert hc; simp [go_sem, hf, List.length_map, hc9]
                    · try simp only [go_sem, hf, List.length_map, hc9] at hc
                      all_goals
                        refine exit_k ?_
                        refine hM46 _ _ ?_
                        refine hM14 _ _ ?_
                        refine bx13 _ ?_
                        refine hN10 _ ?_
                        refine seq_k fun N47 M47 hN47 hM47 => ?_
                        refine region_k fun K48 hK48 => ?_
                        (try simp only [go_sem, hf, List.length_map, hc9]); (repeat (simp (disch := (first | omega | (simp only [List.length_append, List.length_cons, List.length_nil, List.length_map, bytesC_length, hf, List.length_map, hc9]; omega))) only [w64, ipos, ineg, bin_add_str2]; try simp only [go_sem, hf, List.length_map, hc9]))
                        all_goals repeat' (first | apply And.intro | intro _)
                        all_goals
                          refine hK48 _ ?_
                          refine hN47 _ ?_
                          refine ret_k ?_
                          (try simp only [go_sem, hf, List.length_map, hc9]); (repeat (simp (disch := (first | omega | (simp only [List.length_append, List.length_cons, List.length_nil, List.length_map, bytesC_length, hf, List.length_map, hc9]; omega))) only [w64, ipos, ineg, bin_add_str2]; try simp only [go_sem, hf, List.length_map, hc9]))
                          all_goals (rw [pinsOut_ok hf]; (try rw [hf]); exact out_own rfl (by simp [look]))
theorem pins_bytes (l : List PinD) (hl : ∀ p ∈ l, p.ok) (ex : Bool) : Ct Try.prog 19 [.w (.one (.pl (.R ex 34 (l.map pinC))))] (Tidy (bytesOut (pinsOut l) (pinsFault l))) := by
  by_cases hf : pinsFault l = 0
  · exact pins_bytes_ok l hl ex hf
  · exact pins_bytes_bad l hl ex hf
set_option maxHeartbeats 400000 in
theorem pins_encodes_none (l : List PinD) (hl : ∀ p ∈ l, p.ok) (ex : Bool) (ho : pinsOut l = none) :
    Ct Try.prog 5 [.w (.one (.pl (.R ex 34 (l.map pinC))))] (fun v m => v = .w (.one (.pl (.b true)))) := by
  refine Ct.k Try.func5 rfl Try.ntmps5 (congrArg Array.toList Try.results5) (by simp) fun w0 ro => ?_
  refine seq_k fun N1 M1 hN1 hM1 => ?_
  refine region_k fun K2 hK2 => ?_
  simp only [go_sem]
  all_goals repeat' (first | apply And.intro | intro _)
  all_goals
    refine hK2 _ ?_
    refine hN1 _ ?_
    refine seq_k fun N3 M3 hN3 hM3 => ?_
    refine region_k fun K4 hK4 => ?_
    simp only [go_sem]
    all_goals repeat' (first | apply And.intro | intro _)
    all_goals refine call_view (fun _ => 100) (fun _ _ => rfl) (by first | rfl | (simp only [go_sem]; rfl) | simp only [go_sem]) ((pins_encode l hl ex).tidied.mono fun v m hR => by rw [ho] at hR; exact hR) ?_
    all_goals (rintro v m ⟨hR, hm⟩; subst hR; subst hm)
    all_goals refine And.intro (by first | rfl | simp only [go_sem]) (And.intro (by first | rfl | simp only [go_sem]) ?_)
    all_goals simp only [go_sem]
    all_goals repeat' (first | apply And.intro | intro _)
    all_goals
      refine hK4 _ ?_
      refine hN3 _ ?_
      refine seq_k fun N5 M5 hN5 hM5 => ?_
      refine region_k fun K6 hK6 => ?_
      simp only [go_sem]
      all_goals repeat' (first | apply And.intro | intro _)
      all_goals refine call_view (fun _ => 101) (fun _ _ => rfl) (by first | rfl | (simp only [go_sem]; rfl) | simp only [go_sem]) ((pins_bytes l hl ex).tidied.mono fun v m hR => by rw [ho] at hR; exact hR) ?_
      all_goals (rintro v m ⟨hR, hm⟩; subst hR; subst hm)
      all_goals refine And.intro (by first | rfl | simp only [go_sem]) (And.intro (by first | rfl | simp only [go_sem]) ?_)
      all_goals simp only [go_sem]
      all_goals repeat' (first | apply And.intro | intro _)
      all_goals
        refine hK6 _ ?_
        refine hN5 _ ?_
        refine seq_k fun N7 M7 hN7 hM7 => ?_
        refine region_k fun K8 hK8 => ?_
        simp only [go_sem]
        all_goals repeat' (first | apply And.intro | intro _)
        all_goals refine call_view (fun k => k) (fun _ _ => rfl) (by first | rfl | (simp only [go_sem]; rfl) | simp only [go_sem]) ((same_bytes true true [] []).plain fun _ _ h => h) ?_
        all_goals (rintro v m ⟨hR, hm⟩; subst hR; subst hm)
        all_goals refine And.intro (by first | rfl | simp only [go_sem]) (And.intro (by first | rfl | simp only [go_sem]) ?_)
        all_goals simp only [go_sem]
        all_goals repeat' (first | apply And.intro | intro _)
        all_goals
          refine hK8 _ ?_
          refine hN7 _ ?_
          refine ret_k ?_
          simp only [go_sem]
          all_goals (first | rfl | simp)
set_option maxHeartbeats 400000 in
theorem pins_encodes_some (l : List PinD) (hl : ∀ p ∈ l, p.ok) (ex : Bool) (out : List UInt8) (ho : pinsOut l = some out) :
    Ct Try.prog 5 [.w (.one (.pl (.R ex 34 (l.map pinC))))] (fun v m => v = .w (.one (.pl (.b true)))) := by
  refine Ct.k Try.func5 rfl Try.ntmps5 (congrArg Array.toList Try.results5) (by simp) fun w0 ro => ?_
  refine seq_k fun N1 M1 hN1 hM1 => ?_
  refine region_k fun K2 hK2 => ?_
  simp only [go_sem]
  all_goals repeat' (first | apply And.intro | intro _)
  all_goals
    refine hK2 _ ?_
    refine hN1 _ ?_
    refine seq_k fun N3 M3 hN3 hM3 => ?_
    refine region_k fun K4 hK4 => ?_
    simp only [go_sem]
    all_goals repeat' (first | apply And.intro | intro _)
    all_goals refine call_view (fun _ => 100) (fun _ _ => rfl) (by first | rfl | (simp only [go_sem]; rfl) | simp only [go_sem]) ((pins_encode l hl ex).tidied.mono fun v m hR => by rw [ho] at hR; exact hR) ?_
    all_goals (rintro v m ⟨hR, hm⟩; subst hR; subst hm)
    all_goals refine And.intro (by first | rfl | simp only [go_sem]) (And.intro (by first | rfl | simp only [go_sem]) ?_)
    all_goals simp only [go_sem]
    all_goals repeat' (first | apply And.intro | intro _)
    all_goals
      refine hK4 _ ?_
      refine hN3 _ ?_
      refine seq_k fun N5 M5 hN5 hM5 => ?_
      refine region_k fun K6 hK6 => ?_
      simp only [go_sem]
      all_goals repeat' (first | apply And.intro | intro _)
      all_goals refine call_view (fun _ => 101) (fun _ _ => rfl) (by first | rfl | (simp only [go_sem]; rfl) | simp only [go_sem]) ((pins_bytes l hl ex).tidied.mono fun v m hR => by rw [ho] at hR; exact hR) ?_
      all_goals (rintro v m ⟨hR, hm⟩; subst hR; subst hm)
      all_goals refine And.intro (by first | rfl | simp only [go_sem]) (And.intro (by first | rfl | simp only [go_sem]) ?_)
      all_goals simp only [go_sem]
      all_goals repeat' (first | apply And.intro | intro _)
      all_goals
        refine hK6 _ ?_
        refine hN5 _ ?_
        refine seq_k fun N7 M7 hN7 hM7 => ?_
        refine region_k fun K8 hK8 => ?_
        simp only [go_sem]
        all_goals repeat' (first | apply And.intro | intro _)
        all_goals refine call_view (fun k => k) (fun _ _ => rfl) (by first | rfl | (simp only [go_sem]; rfl) | simp only [go_sem]) ((same_bytes false false out out).plain fun _ _ h => h) ?_
        all_goals (rintro v m ⟨hR, hm⟩; subst hR; subst hm)
        all_goals refine And.intro (by first | rfl | simp only [go_sem]) (And.intro (by first | rfl | simp only [go_sem]) ?_)
        all_goals simp only [go_sem]
        all_goals repeat' (first | apply And.intro | intro _)
        all_goals
          refine hK8 _ ?_
          refine hN7 _ ?_
          refine ret_k ?_
          simp only [go_sem]
          all_goals (first | rfl | simp)
theorem pins_encodes (l : List PinD) (hl : ∀ p ∈ l, p.ok) (ex : Bool) : Ct Try.prog 5 [.w (.one (.pl (.R ex 34 (l.map pinC))))] (fun v m => v = .w (.one (.pl (.b true)))) := by
  cases h : pinsOut l with
  | none => exact pins_encodes_none l hl ex h
  | some out => exact pins_encodes_some l hl ex out h
end Go.Sy
