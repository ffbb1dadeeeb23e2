/- Walks: a pattern's name, as the document tells it; the law. -/
import Derived.Test.YtbfllkipgfpkkaaDoorvdH3
set_option linter.unusedVariables false
set_option linter.unusedSimpArgs false
namespace Go.Sy
open Go.Proofs
attribute [local irreducible] atCall HT runOps runD onC onE onO onG goV goA goS onSt onGuard
set_option maxHeartbeats 400000 in
set_option maxRecDepth 100000 in
theorem name_no (bs : List UInt8) (lt te : Bool) (ps p0 p1 : Bool × List Int) (ts : List (Bool × List Int)) (d : PD) (hw : wRes bs ps.2 = .ok d) (hs : samP bs bs lt d.1 ps.2 ps.2 p0.2 (eP d.2.1).2 p1.2 (eP d.2.2.1).2 ts (d.2.2.2.map eP) = false) :
 CtM Tryd.prog 12 [.w (.agg [.pl (.str bs), .pl (.b lt), .pl (rI ps), .pl (rI p0), .pl (rI p1), .pl (.R te 1 (rT ts))])] [(1000000, ⟨false, bytesC spaceL⟩)] (Told (fun v m => v = .tup [.one (.pl (.str [])), .one (.pl (.i 3))] ∧ m = [])) := by
 have hV : CtM Tryd.prog 7 [.w (.one (.pl (.str bs))), .w (.one (.pl (.R ps.1 1 (iRows ps.2))))] [(1000000, ⟨false, bytesC spaceL⟩)] (fun v m => v = .tup [.agg [.pl (.str bs), .pl (.b d.1), .pl (rI (ps.1, ps.2)), .pl (rI (eP d.2.1)), .pl (rI (eP d.2.2.1)), .pl (.R false 1 (rT (d.2.2.2.map eP)))], .one (.pl (.i 0))] ∧ m = []) := by
  have h := rwith_all bs ps.2 ps.1
  rw [hw, outPV, pX_pQ] at h
  exact h
 obtain ⟨k0, k1, k2, k3, k4⟩ := wRes_ok hw
 have kl : (d.2.2.2.map eP).length ≤ 1000000 := by rw [List.length_map]; exact Nat.le_trans k3 (by decide)
 have kt : ∀ t ∈ d.2.2.2.map eP, t.2.length ≤ 1000000 := fun t ht => by
  obtain ⟨u, hu, rfl⟩ := List.mem_map.mp ht
  exact Nat.le_trans (k4 u hu) (by decide)
 have kp0 : (eP d.2.1).2.length ≤ 1000000 := Nat.le_trans k1 (by decide)
 have kp1 : (eP d.2.2.1).2.length ≤ 1000000 := Nat.le_trans k2 (by decide)
 have kps : (ps.1, ps.2).2.length ≤ 1000000 := Nat.le_trans k0 (by decide)
 have hS := samep_ bs bs lt d.1 te false ps (ps.1, ps.2) p0 (eP d.2.1) p1 (eP d.2.2.1) ts (d.2.2.2.map eP) kps kp0 kp1 kl kt
 rw [hs] at hS
 have F0 := rI_def
 have ch0 := CtM.ch [] (hV)
 have ch1 := CtM.ch [] ((hS.plain fun _ _ h => h).hands)
 exact CtM.w Tryd.func12 rfl Tryd.ntmps12 Tryd.results12
theorem bL1 (b : UInt8) : bytesL [L.pl (.u8 b)] = some [b] := rfl
set_option maxHeartbeats 1600000 in
set_option maxRecDepth 100000 in
theorem name_yes (bs : List UInt8) (lt te : Bool) (ps p0 p1 : Bool × List Int) (ts : List (Bool × List Int)) (d : PD) (hw : wRes bs ps.2 = .ok d) (hs : samP bs bs lt d.1 ps.2 ps.2 p0.2 (eP d.2.1).2 p1.2 (eP d.2.2.1).2 ts (d.2.2.2.map eP) = true) :
 CtM Tryd.prog 12 [.w (.agg [.pl (.str bs), .pl (.b lt), .pl (rI ps), .pl (rI p0), .pl (rI p1), .pl (.R te 1 (rT ts))])] [(1000000, ⟨false, bytesC spaceL⟩)] (Told (fun v m => v = .tup [.one (.pl (.str (nameS bs ps.2))), .one (.pl (.i 0))] ∧ m = [])) := by
 have hV : CtM Tryd.prog 7 [.w (.one (.pl (.str bs))), .w (.one (.pl (.R ps.1 1 (iRows ps.2))))] [(1000000, ⟨false, bytesC spaceL⟩)] (fun v m => v = .tup [.agg [.pl (.str bs), .pl (.b d.1), .pl (rI (ps.1, ps.2)), .pl (rI (eP d.2.1)), .pl (rI (eP d.2.2.1)), .pl (.R false 1 (rT (d.2.2.2.map eP)))], .one (.pl (.i 0))] ∧ m = []) := by
  have h := rwith_all bs ps.2 ps.1
  rw [hw, outPV, pX_pQ] at h
  exact h
 obtain ⟨k0, k1, k2, k3, k4⟩ := wRes_ok hw
 have kl : (d.2.2.2.map eP).length ≤ 1000000 := by rw [List.length_map]; exact Nat.le_trans k3 (by decide)
 have kt : ∀ t ∈ d.2.2.2.map eP, t.2.length ≤ 1000000 := fun t ht => by
  obtain ⟨u, hu, rfl⟩ := List.mem_map.mp ht
  exact Nat.le_trans (k4 u hu) (by decide)
 have kp0 : (eP d.2.1).2.length ≤ 1000000 := Nat.le_trans k1 (by decide)
 have kp1 : (eP d.2.2.1).2.length ≤ 1000000 := Nat.le_trans k2 (by decide)
 have kps : (ps.1, ps.2).2.length ≤ 1000000 := Nat.le_trans k0 (by decide)
 have hS := samep_ bs bs lt d.1 te false ps (ps.1, ps.2) p0 (eP d.2.1) p1 (eP d.2.2.1) ts (d.2.2.2.map eP) kps kp0 kp1 kl kt
 rw [hs] at hS
 have hS1 := (hS.plain fun _ _ h => h).hands
 obtain ⟨hb, hhb⟩ : ∃ hb, [78, 111, 105, 115, 101, 95] ++ bs = hb := ⟨_, rfl⟩
 have g1 : ∀ P t, binV P .add t (.w (.one (.pl (.str [78, 111, 105, 115, 101, 95])))) (.w (.one (.pl (.str bs)))) = some (.w (.one (.pl (.str hb)))) := fun P t => by rw [bin_add_str2 P t [78, 111, 105, 115, 101, 95] bs (by have := wRes_name hw; show 6 + bs.length ≤ _; omega), hhb]
 have ht0 : hb ++ pskJ (ps.2.take 0) = hb := List.append_nil hb
 have ht1 : hb ++ pskJ [] = hb := List.append_nil hb
 have F0 := And.intro rI_def <| And.intro iRows_length <| And.intro g1 <| And.intro ht0 <| ht1
 refine CtM.k Tryd.func12 rfl Tryd.ntmps12 (congrArg Array.toList Tryd.results12) (by simp) fun w0 ro may fx => ?_
 refine top_k fun zZ zhZ => ?_
 iterate 24 first
  | (refine sr_k fun zK zhK => ?_; simp only [go_sem, F0]; (repeat' (first | apply And.intro | intro _)))
  | refine zhK _ ?_
  | refine skip_k ?_
  | (refine zhN _ ?_; clear zhN zhM)
  | refine block_k fun zB zbn zbx zbr zbi => ?_
  | ((all_goals (refine call_hand false [] (fun k => k) (fun _ _ => rfl) ?_ (by decide) ?_ hV ?_; iterate 2 (focus (first | rfl | (simp only [go_sem, F0] <;> first | done | rfl | simp))))); (all_goals (rintro v m ⟨hR, hm⟩; subst hR; subst hm)); (all_goals (refine And.intro ?_ (And.intro ?_ (And.intro ?_ ?_)); iterate 3 (focus (first | rfl | (simp only [go_sem, F0]; done) | (simp [go_sem, look, F0]; done))))); (all_goals (try simp only [go_sem, F0])); (all_goals (try simp only [go_sem, F0])); (all_goals repeat' (first | apply And.intro | intro _)))
  | ((all_goals (refine call_hand false [] (fun k => k) (fun _ _ => rfl) ?_ (by decide) ?_ hS1 ?_; iterate 2 (focus (first | rfl | (simp only [go_sem, F0] <;> first | done | rfl | simp))))); (all_goals (rintro v m ⟨hR, hm⟩; subst hR; subst hm)); (all_goals (refine And.intro ?_ (And.intro ?_ (And.intro ?_ ?_)); iterate 3 (focus (first | rfl | (simp only [go_sem, F0]; done) | (simp [go_sem, look, F0]; done))))); (all_goals (try simp only [go_sem, F0])); (all_goals (try simp only [go_sem, F0])); (all_goals repeat' (first | apply And.intro | intro _)))
  | refine seq_k fun zN zM zhN zhM => ?_
  | (refine condF_k ?_ ?_; focus (first | rfl | (simp [go_sem, F0]; done)))
 refine loop_k (fun y => [(30, .w (.one (.pl (.i ((y.1 : Nat) : Int))))), (6, .w (.one (.pl (.str (hb ++ pskJ (ps.2.take y.1))))))]) (fun _ => []) (fun y => ps.2.length - y.1) (⟨0, Nat.zero_le _⟩ : {y : Nat // y ≤ ps.2.length}) ?_ ?_ ?_
 · (simp only [go_sem, leX, List.cons_append, List.nil_append, F0]; try simp)
 · (simp only [go_sem, leX, List.cons_append, List.nil_append, F0]; try simp)
 intro yy zN zM zhN zhM
 simp only [List.cons_append, List.nil_append]
 have yN0 := zhN
 obtain ⟨i, h1⟩ := yy
 have hd : (i < ps.2.length ∧ i = 0) ∨ (i < ps.2.length ∧ ¬ i = 0) ∨ i = ps.2.length := by omega
 simp only
 rcases hd with ⟨glt, hi⟩ | ⟨glt, hi⟩ | rfl
 · have gcq := ltI glt
   have gj := Int.natCast_nonneg i
   have gg := iRows_get glt
   have gs1 := wsucc glt (Nat.le_trans k0 (by decide))
   have hxm : ps.2.getD i 0 ∈ ps.2 := by simp [List.getD, List.getElem?_eq_getElem glt]
   have htk : ps.2.take (i + 1) = ps.2.take i ++ [ps.2.getD i 0] := by
    rw [List.take_add_one, List.getElem?_eq_getElem glt]; simp [List.getD, List.getElem?_eq_getElem glt]
   obtain ⟨x, hx⟩ : ∃ x, ps.2.getD i 0 = x := ⟨_, rfl⟩
   rw [hx] at gg hxm htk
   obtain ⟨x0, x1⟩ := wRes_range hw x hxm
   have hbl : hb.length ≤ 16 := by rw [← hhb, List.length_append]; have := wRes_name hw; show 6 + bs.length ≤ 16; omega
   have hJl := pskJ_len (ps.2.take i)
   have htl : (ps.2.take i).length ≤ 4 := by rw [List.length_take]; omega
   have hJ := pskJ_take glt
   rw [hx] at hJ
   have hpw : (pskW x).length = 4 := rfl
   obtain ⟨S, hS⟩ : ∃ S, hb ++ pskJ (ps.2.take i) = S := ⟨_, rfl⟩
   have hSl : S.length ≤ 40 := by rw [← hS, List.length_append]; omega
   have ga : ∀ P t, binV P .add t (.w (.one (.pl (.str [112, 115, 107])))) (.w (.one (.pl (.str [dig x])))) = some (.w (.one (.pl (.str (pskW x))))) := fun P t => bin_add_str2 P t [112, 115, 107] [dig x] (show 3 + 1 ≤ 9223372036854775807 by decide)
   have gdu := dig_u8 x0 x1
   have hi1 : ¬ (0 : Int) < (i : Int) := by omega
   rw [if_pos hi, List.nil_append] at hJ
   have gb : ∀ P t, binV P .add t (.w (.one (.pl (.str S)))) (.w (.one (.pl (.str (pskW x))))) = some (.w (.one (.pl (.str (hb ++ pskJ (ps.2.take (i + 1))))))) := fun P t => by
    rw [bin_add_str2 P t S (pskW x) (by omega), hJ, ← List.append_assoc, hS]
   rw [hS]

   have F0 := And.intro gcq <| And.intro gj <| And.intro glt <| And.intro gg <| And.intro gs1 <| And.intro ga <| And.intro gdu <| And.intro bL1 <| And.intro hi1 <| And.intro gb <| F0
   have zL := fun S2 => yN0 ⟨i + 1, glt⟩ S2 (by exact Nat.sub_lt_sub_left glt (Nat.lt_succ_self i))
   exact HT.w
 · have gcq := ltI glt
   have gj := Int.natCast_nonneg i
   have gg := iRows_get glt
   have gs1 := wsucc glt (Nat.le_trans k0 (by decide))
   have hxm : ps.2.getD i 0 ∈ ps.2 := by simp [List.getD, List.getElem?_eq_getElem glt]
   have htk : ps.2.take (i + 1) = ps.2.take i ++ [ps.2.getD i 0] := by
    rw [List.take_add_one, List.getElem?_eq_getElem glt]; simp [List.getD, List.getElem?_eq_getElem glt]
   obtain ⟨x, hx⟩ : ∃ x, ps.2.getD i 0 = x := ⟨_, rfl⟩
   rw [hx] at gg hxm htk
   obtain ⟨x0, x1⟩ := wRes_range hw x hxm
   have hbl : hb.length ≤ 16 := by rw [← hhb, List.length_append]; have := wRes_name hw; show 6 + bs.length ≤ 16; omega
   have hJl := pskJ_len (ps.2.take i)
   have htl : (ps.2.take i).length ≤ 4 := by rw [List.length_take]; omega
   have hJ := pskJ_take glt
   rw [hx] at hJ
   have hpw : (pskW x).length = 4 := rfl
   obtain ⟨S, hS⟩ : ∃ S, hb ++ pskJ (ps.2.take i) = S := ⟨_, rfl⟩
   have hSl : S.length ≤ 40 := by rw [← hS, List.length_append]; omega
   have ga : ∀ P t, binV P .add t (.w (.one (.pl (.str [112, 115, 107])))) (.w (.one (.pl (.str [dig x])))) = some (.w (.one (.pl (.str (pskW x))))) := fun P t => bin_add_str2 P t [112, 115, 107] [dig x] (show 3 + 1 ≤ 9223372036854775807 by decide)
   have gdu := dig_u8 x0 x1
   have hi1 : (0 : Int) < (i : Int) := by omega
   rw [if_neg hi] at hJ
   obtain ⟨S2, hS2⟩ : ∃ S2, S ++ [43] = S2 := ⟨_, rfl⟩
   have hS2l : S2.length ≤ 50 := by rw [← hS2, List.length_append]; show S.length + 1 ≤ 50; omega
   have gc : ∀ P t, binV P .add t (.w (.one (.pl (.str S)))) (.w (.one (.pl (.str [43])))) = some (.w (.one (.pl (.str S2)))) := fun P t => by
    rw [bin_add_str2 P t S [43] (show S.length + 1 ≤ 9223372036854775807 by omega), hS2]
   have gb : ∀ P t, binV P .add t (.w (.one (.pl (.str S2)))) (.w (.one (.pl (.str (pskW x))))) = some (.w (.one (.pl (.str (hb ++ pskJ (ps.2.take (i + 1))))))) := fun P t => by
    rw [bin_add_str2 P t S2 (pskW x) (by omega), hJ, ← hS2, ← hS]; simp
   rw [hS]

   have F0 := And.intro gcq <| And.intro gj <| And.intro glt <| And.intro gg <| And.intro gs1 <| And.intro ga <| And.intro gdu <| And.intro bL1 <| And.intro hi1 <| And.intro gc <| And.intro gb <| F0
   have zL := fun S2 => yN0 ⟨i + 1, glt⟩ S2 (by exact Nat.sub_lt_sub_left glt (Nat.lt_succ_self i))
   exact HT.w
 · have gcq := nltI (n := ps.2.length)
   rw [List.take_length]
   have hbl : hb.length ≤ 16 := by rw [← hhb, List.length_append]; have := wRes_name hw; show 6 + bs.length ≤ 16; omega
   have hJl := pskJ_len ps.2
   have g3 := fun P t => bin_add_str2 P t (hb ++ pskJ ps.2) [95, 50, 53, 53, 49, 57, 95, 67, 104, 97, 67, 104, 97, 80, 111, 108, 121, 95, 66, 76, 65, 75, 69, 50, 115] (by rw [List.length_append]; show hb.length + _ + 25 ≤ _; omega)
   have zE := fun m => told_plain (R := (fun v m => v = .tup [.one (.pl (.str (nameS bs ps.2))), .one (.pl (.i 0))] ∧ m = [])) (m := m) (v := .tup [.one (.pl (.str (hb ++ pskJ ps.2 ++ [95, 50, 53, 53, 49, 57, 95, 67, 104, 97, 67, 104, 97, 80, 111, 108, 121, 95, 66, 76, 65, 75, 69, 50, 115]))), .one (.pl (.i 0))]) rfl ⟨by rw [← hhb]; rfl, rfl⟩

   have F0 := And.intro gcq <| And.intro g3 <| F0
   exact HT.w
def shOut (bs : List UInt8) (lt : Bool) (ps p0 p1 : Bool × List Int) (ts : List (Bool × List Int)) : List UInt8 × Int := match wRes bs ps.2 with
 | .error e => ([], e)
 | .ok d => if samP bs bs lt d.1 ps.2 ps.2 p0.2 (eP d.2.1).2 p1.2 (eP d.2.2.1).2 ts (d.2.2.2.map eP) = true then (nameS bs ps.2, 0) else ([], 3)
theorem samP_iff {bs lt lt' ps p0 p0' p1 p1' ts ts'} : samP bs bs lt lt' ps ps p0 p0' p1 p1' ts ts' = true ↔ lt = lt' ∧ ts.map Prod.snd = ts'.map Prod.snd ∧ p0 = p0' ∧ p1 = p1' := by
 simp only [samP, sixB, Bool.and_eq_true, decide_eq_true_eq]
 constructor
 · rintro ⟨⟨_, h1, _, _, h2, h3⟩, h4⟩; exact ⟨h1, h4, h2, h3⟩
 · rintro ⟨h1, h2, h3, h4⟩
   have hl : ts.length = ts'.length := by have := congrArg List.length h2; simpa using this
   exact ⟨⟨trivial, h1, hl, trivial, h3, h4⟩, h2⟩
theorem show_all (bs : List UInt8) (lt te : Bool) (ps p0 p1 : Bool × List Int) (ts : List (Bool × List Int)) : Ct Tryd.prog 11 [.w (.agg [.pl (.str bs), .pl (.b lt), .pl (rI ps), .pl (rI p0), .pl (rI p1), .pl (.R te 1 (rT ts))])] (fun v m => v = .tup [.one (.pl (.str (shOut bs lt ps p0 p1 ts).1)), .one (.pl (.i (shOut bs lt ps p0 p1 ts).2))] ∧ m = []) := by
 unfold shOut
 cases hw : wRes bs ps.2 with
 | error e => exact (show_err bs lt te ps p0 p1 ts e hw).told
 | ok d =>
  by_cases hs : samP bs bs lt d.1 ps.2 ps.2 p0.2 (eP d.2.1).2 p1.2 (eP d.2.2.1).2 ts (d.2.2.2.map eP) = true
  · simp only [if_pos hs]
    obtain ⟨a0, a1, a2, a3⟩ := samP_iff.mp hs
    exact (show_yes bs lt te ps p0 p1 ts d hw a0 a1 a2 a3).told
  · simp only [if_neg hs]
    by_cases a0 : lt = d.1
    · by_cases a1 : ts.map Prod.snd = (d.2.2.2.map eP).map Prod.snd
      · by_cases a2 : p0.2 = (eP d.2.1).2
        · by_cases a3 : p1.2 = (eP d.2.2.1).2
          · exact absurd (samP_iff.mpr ⟨a0, a1, a2, a3⟩) hs
          · exact (show_n3 bs lt te ps p0 p1 ts d hw a0 a1 a2 a3).told
        · exact (show_n2 bs lt te ps p0 p1 ts d hw a0 a1 a2).told
      · exact (show_n1 bs lt te ps p0 p1 ts d hw a0 a1).told
    · exact (show_n0 bs lt te ps p0 p1 ts d hw a0).told
theorem name_all (bs : List UInt8) (lt te : Bool) (ps p0 p1 : Bool × List Int) (ts : List (Bool × List Int)) : CtM Tryd.prog 12 [.w (.agg [.pl (.str bs), .pl (.b lt), .pl (rI ps), .pl (rI p0), .pl (rI p1), .pl (.R te 1 (rT ts))])] [(1000000, ⟨false, bytesC spaceL⟩)] (fun v m => v = .tup [.one (.pl (.str (shOut bs lt ps p0 p1 ts).1)), .one (.pl (.i (shOut bs lt ps p0 p1 ts).2))] ∧ m = []) := by
 unfold shOut
 cases hw : wRes bs ps.2 with
 | error e => exact (name_err bs lt te ps p0 p1 ts e hw).told
 | ok d =>
  by_cases hs : samP bs bs lt d.1 ps.2 ps.2 p0.2 (eP d.2.1).2 p1.2 (eP d.2.2.1).2 ts (d.2.2.2.map eP) = true
  · simp only [if_pos hs]; exact (name_yes bs lt te ps p0 p1 ts d hw hs).told
  · simp only [if_neg hs]; exact (name_no bs lt te ps p0 p1 ts d hw (by simpa using hs)).told
set_option maxHeartbeats 400000 in
theorem psl_ (bs : List UInt8) (lt te : Bool) (ps p0 p1 : Bool × List Int) (ts : List (Bool × List Int)) (z : List UInt8) (e : Int) (hP : Ct Tryd.prog 11 [.w (.agg [.pl (.str bs), .pl (.b lt), .pl (rI ps), .pl (rI p0), .pl (rI p1), .pl (.R te 1 (rT ts))])] (fun v m => v = .tup [.one (.pl (.str z)), .one (.pl (.i e))] ∧ m = [])) (hQ : CtM Tryd.prog 12 [.w (.agg [.pl (.str bs), .pl (.b lt), .pl (rI ps), .pl (rI p0), .pl (rI p1), .pl (.R te 1 (rT ts))])] [(1000000, ⟨false, bytesC spaceL⟩)] (fun v m => v = .tup [.one (.pl (.str z)), .one (.pl (.i e))] ∧ m = [])) :
 CtM Tryd.prog 5 [.w (.agg [.pl (.str bs), .pl (.b lt), .pl (rI ps), .pl (rI p0), .pl (rI p1), .pl (.R te 1 (rT ts))])] [(1000000, ⟨false, bytesC spaceL⟩)] (fun v m => v = .w (.one (.pl (.b true)))) := by
 have F0 := rI_def
 have ch0 := CtM.ch [] (hP.hands)
 have ch1 := CtM.ch [] (hQ)
 exact CtM.w Tryd.func5 rfl Tryd.ntmps5 Tryd.results5
theorem tRows_rT (ts : List (List Int)) : tRows ts = rT (ts.map fun l => (false, l)) := by rw [rT, List.map_map]; rfl
theorem patternshows_gs (bs : List UInt8) (lt : Bool) (ps p0 p1 : List Int) (ts : List (List Int)) : CtM Tryd.prog 5 [.w (.agg [.pl (.str bs), .pl (.b lt), .pl (.R false 1 (iRows ps)), .pl (.R false 1 (iRows p0)), .pl (.R false 1 (iRows p1)), .pl (.R false 1 (tRows ts))])] (globM [(1000000, spaceL.map PL.u8)]) (Told (fun v m => v = .w (.one (.pl (.b true))) ∧ m = [])) := by
 have h := psl_ bs lt false (false, ps) (false, p0) (false, p1) (ts.map fun l => (false, l)) _ _ (show_all bs lt false (false, ps) (false, p0) (false, p1) (ts.map fun l => (false, l))) (name_all bs lt false (false, ps) (false, p0) (false, p1) (ts.map fun l => (false, l)))
 rw [← tRows_rT] at h
 rw [space_g]
 exact h.mono fun v m h => by subst h; exact told_plain rfl ⟨rfl, rfl⟩
end Go.Sy

