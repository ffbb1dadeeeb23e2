/- Walks: a pattern shown as the name of a protocol. -/
import Derived.Test.YtbfllkipgfpkkaaDoorvdH2
set_option linter.unusedVariables false
set_option linter.unusedSimpArgs false
namespace Go.Sy
open Go.Proofs
attribute [local irreducible] atCall HT runOps runD onC onE onO onG goV goA goS onSt onGuard
@[go_sem] theorem bin_neq_bool {P : Program} {t : TypeId} (ht : P.underlying t = some .bool) (a b : Bool) : binV P .neq t (.w (.one (.pl (.b a)))) (.w (.one (.pl (.b b)))) = some (.w (.one (.pl (.b (!(a == b)))))) := by simp [binV, ht]
theorem sealS {nm : Nat} (l : List (List UInt8)) : sealL nm (l.map PL.str) (.s nm [] l.length 1) = .pl (.R false 1 (sRows l)) := by
 have h0 : pok (l.map PL.str).length [] ∧ psz (l.map PL.str).length [] = l.length * 1 := ⟨trivial, by simp [psz]⟩
 simp only [sealL, if_true, if_pos h0]
 rw [show rd (l.map PL.str) [] = l.map PL.str from rfl, chunks_s]
set_option maxHeartbeats 400000 in
theorem show_err (bs : List UInt8) (lt te : Bool) (ps p0 p1 : Bool × List Int) (ts : List (Bool × List Int)) (e : Int) (hw : wRes bs ps.2 = .error e) :
 Ct Tryd.prog 11 [.w (.agg [.pl (.str bs), .pl (.b lt), .pl (rI ps), .pl (rI p0), .pl (rI p1), .pl (.R te 1 (rT ts))])] (Told (fun v m => v = .tup [.one (.pl (.str [])), .one (.pl (.i e))] ∧ m = [])) := by
 have hW : Ct Tryd.prog 6 [.w (.one (.pl (.str bs))), .w (.one (.pl (.R ps.1 1 (iRows ps.2))))] (fun v m => v = .tup [.agg zeroP, .one (.pl (.i e))]) := by
  have h := with_all bs ps.2 ps.1
  rw [hw, outPV] at h
  exact h
 have he := wRes_err hw
 have F0 := And.intro he <| rI_def
 have ch0 := CtM.ch [] ((hW.plain fun _ _ h => h).hands)
 exact Ct.w Tryd.func11 rfl Tryd.ntmps11 Tryd.results11
set_option maxHeartbeats 400000 in
theorem name_err (bs : List UInt8) (lt te : Bool) (ps p0 p1 : Bool × List Int) (ts : List (Bool × List Int)) (e : Int) (hw : wRes bs ps.2 = .error e) :
 CtM Tryd.prog 12 [.w (.agg [.pl (.str bs), .pl (.b lt), .pl (rI ps), .pl (rI p0), .pl (rI p1), .pl (.R te 1 (rT ts))])] [(1000000, ⟨false, bytesC spaceL⟩)] (Told (fun v m => v = .tup [.one (.pl (.str [])), .one (.pl (.i e))] ∧ m = [])) := by
 have hW : CtM Tryd.prog 7 [.w (.one (.pl (.str bs))), .w (.one (.pl (.R ps.1 1 (iRows ps.2))))] [(1000000, ⟨false, bytesC spaceL⟩)] (fun v m => v = .tup [.agg zeroP, .one (.pl (.i e))] ∧ m = []) := by
  have h := rwith_all bs ps.2 ps.1
  rw [hw, outPV] at h
  exact h
 have he := wRes_err hw
 have F0 := And.intro he <| rI_def
 have ch0 := CtM.ch [] (hW)
 exact CtM.w Tryd.func12 rfl Tryd.ntmps12 Tryd.results12
set_option maxHeartbeats 400000 in
set_option maxRecDepth 100000 in
theorem show_n0 (bs : List UInt8) (lt te : Bool) (ps p0 p1 : Bool × List Int) (ts : List (Bool × List Int)) (d : PD) (hw : wRes bs ps.2 = .ok d) (a0 : ¬ lt = d.1) :
 Ct Tryd.prog 11 [.w (.agg [.pl (.str bs), .pl (.b lt), .pl (rI ps), .pl (rI p0), .pl (rI p1), .pl (.R te 1 (rT ts))])] (Told (fun v m => v = .tup [.one (.pl (.str [])), .one (.pl (.i 3))] ∧ m = [])) := by
 have hW : Ct Tryd.prog 6 [.w (.one (.pl (.str bs))), .w (.one (.pl (.R ps.1 1 (iRows ps.2))))] (fun v m => v = .tup [.agg [.pl (.str bs), .pl (.b d.1), .pl (rI (false, ps.2)), .pl (rI (eP d.2.1)), .pl (rI (eP d.2.2.1)), .pl (.R false 1 (rT (d.2.2.2.map eP)))], .one (.pl (.i 0))]) := by
  have h := with_all bs ps.2 ps.1
  rw [hw, outPV, pX_pQ] at h
  exact h
 obtain ⟨k0, k1, k2, k3, k4⟩ := wRes_ok hw
 have kl : (d.2.2.2.map eP).length ≤ 1000000 := by rw [List.length_map]; exact Nat.le_trans k3 (by decide)
 have kt : ∀ t ∈ d.2.2.2.map eP, t.2.length ≤ 1000000 := fun t ht => by
  obtain ⟨u, hu, rfl⟩ := List.mem_map.mp ht
  exact Nat.le_trans (k4 u hu) (by decide)
 have kp0 : (eP d.2.1).2.length ≤ 1000000 := Nat.le_trans k1 (by decide)
 have kp1 : (eP d.2.2.1).2.length ≤ 1000000 := Nat.le_trans k2 (by decide)
 have kps : (false, ps.2).2.length ≤ 1000000 := Nat.le_trans k0 (by decide)
 have b1 := beq_no a0
 have F0 := And.intro b1 <| rI_def
 have ch0 := CtM.ch [] ((hW.plain fun _ _ h => h).hands)
 exact Ct.w Tryd.func11 rfl Tryd.ntmps11 Tryd.results11
set_option maxHeartbeats 400000 in
set_option maxRecDepth 100000 in
theorem show_n1 (bs : List UInt8) (lt te : Bool) (ps p0 p1 : Bool × List Int) (ts : List (Bool × List Int)) (d : PD) (hw : wRes bs ps.2 = .ok d) (a0 : lt = d.1) (a1 : ¬ ts.map Prod.snd = (d.2.2.2.map eP).map Prod.snd) :
 Ct Tryd.prog 11 [.w (.agg [.pl (.str bs), .pl (.b lt), .pl (rI ps), .pl (rI p0), .pl (rI p1), .pl (.R te 1 (rT ts))])] (Told (fun v m => v = .tup [.one (.pl (.str [])), .one (.pl (.i 3))] ∧ m = [])) := by
 have hW : Ct Tryd.prog 6 [.w (.one (.pl (.str bs))), .w (.one (.pl (.R ps.1 1 (iRows ps.2))))] (fun v m => v = .tup [.agg [.pl (.str bs), .pl (.b d.1), .pl (rI (false, ps.2)), .pl (rI (eP d.2.1)), .pl (rI (eP d.2.2.1)), .pl (.R false 1 (rT (d.2.2.2.map eP)))], .one (.pl (.i 0))]) := by
  have h := with_all bs ps.2 ps.1
  rw [hw, outPV, pX_pQ] at h
  exact h
 obtain ⟨k0, k1, k2, k3, k4⟩ := wRes_ok hw
 have kl : (d.2.2.2.map eP).length ≤ 1000000 := by rw [List.length_map]; exact Nat.le_trans k3 (by decide)
 have kt : ∀ t ∈ d.2.2.2.map eP, t.2.length ≤ 1000000 := fun t ht => by
  obtain ⟨u, hu, rfl⟩ := List.mem_map.mp ht
  exact Nat.le_trans (k4 u hu) (by decide)
 have kp0 : (eP d.2.1).2.length ≤ 1000000 := Nat.le_trans k1 (by decide)
 have kp1 : (eP d.2.2.1).2.length ≤ 1000000 := Nat.le_trans k2 (by decide)
 have kps : (false, ps.2).2.length ≤ 1000000 := Nat.le_trans k0 (by decide)
 have b1 : (lt == d.1) = true := by rw [a0]; exact beq_yes _
 have F0 := And.intro b1 <| rI_def
 have ch0 := CtM.ch [] ((hW.plain fun _ _ h => h).hands)
 have ch1 := CtM.ch [] (((eqf_ ts (d.2.2.2.map eP) te false kl kt false (decide_eq_false a1)).plain fun _ _ h => h).hands)
 exact Ct.w Tryd.func11 rfl Tryd.ntmps11 Tryd.results11
set_option maxHeartbeats 400000 in
set_option maxRecDepth 100000 in
theorem show_n2 (bs : List UInt8) (lt te : Bool) (ps p0 p1 : Bool × List Int) (ts : List (Bool × List Int)) (d : PD) (hw : wRes bs ps.2 = .ok d) (a0 : lt = d.1) (a1 : ts.map Prod.snd = (d.2.2.2.map eP).map Prod.snd) (a2 : ¬ p0.2 = (eP d.2.1).2) :
 Ct Tryd.prog 11 [.w (.agg [.pl (.str bs), .pl (.b lt), .pl (rI ps), .pl (rI p0), .pl (rI p1), .pl (.R te 1 (rT ts))])] (Told (fun v m => v = .tup [.one (.pl (.str [])), .one (.pl (.i 3))] ∧ m = [])) := by
 have hW : Ct Tryd.prog 6 [.w (.one (.pl (.str bs))), .w (.one (.pl (.R ps.1 1 (iRows ps.2))))] (fun v m => v = .tup [.agg [.pl (.str bs), .pl (.b d.1), .pl (rI (false, ps.2)), .pl (rI (eP d.2.1)), .pl (rI (eP d.2.2.1)), .pl (.R false 1 (rT (d.2.2.2.map eP)))], .one (.pl (.i 0))]) := by
  have h := with_all bs ps.2 ps.1
  rw [hw, outPV, pX_pQ] at h
  exact h
 obtain ⟨k0, k1, k2, k3, k4⟩ := wRes_ok hw
 have kl : (d.2.2.2.map eP).length ≤ 1000000 := by rw [List.length_map]; exact Nat.le_trans k3 (by decide)
 have kt : ∀ t ∈ d.2.2.2.map eP, t.2.length ≤ 1000000 := fun t ht => by
  obtain ⟨u, hu, rfl⟩ := List.mem_map.mp ht
  exact Nat.le_trans (k4 u hu) (by decide)
 have kp0 : (eP d.2.1).2.length ≤ 1000000 := Nat.le_trans k1 (by decide)
 have kp1 : (eP d.2.2.1).2.length ≤ 1000000 := Nat.le_trans k2 (by decide)
 have kps : (false, ps.2).2.length ≤ 1000000 := Nat.le_trans k0 (by decide)
 have b1 : (lt == d.1) = true := by rw [a0]; exact beq_yes _
 have F0 := And.intro b1 <| rI_def
 have cv0 := Ct.cv (eqs_ p0.2 (eP d.2.1).2 p0.1 (eP d.2.1).1 kp0 false (decide_eq_false a2))
 have ch0 := CtM.ch [] ((hW.plain fun _ _ h => h).hands)
 have ch1 := CtM.ch [] (((eqf_ ts (d.2.2.2.map eP) te false kl kt true (by simp only [a1, decide_true])).plain fun _ _ h => h).hands)
 exact Ct.w Tryd.func11 rfl Tryd.ntmps11 Tryd.results11
set_option maxHeartbeats 400000 in
set_option maxRecDepth 100000 in
theorem show_n3 (bs : List UInt8) (lt te : Bool) (ps p0 p1 : Bool × List Int) (ts : List (Bool × List Int)) (d : PD) (hw : wRes bs ps.2 = .ok d) (a0 : lt = d.1) (a1 : ts.map Prod.snd = (d.2.2.2.map eP).map Prod.snd) (a2 : p0.2 = (eP d.2.1).2) (a3 : ¬ p1.2 = (eP d.2.2.1).2) :
 Ct Tryd.prog 11 [.w (.agg [.pl (.str bs), .pl (.b lt), .pl (rI ps), .pl (rI p0), .pl (rI p1), .pl (.R te 1 (rT ts))])] (Told (fun v m => v = .tup [.one (.pl (.str [])), .one (.pl (.i 3))] ∧ m = [])) := by
 have hW : Ct Tryd.prog 6 [.w (.one (.pl (.str bs))), .w (.one (.pl (.R ps.1 1 (iRows ps.2))))] (fun v m => v = .tup [.agg [.pl (.str bs), .pl (.b d.1), .pl (rI (false, ps.2)), .pl (rI (eP d.2.1)), .pl (rI (eP d.2.2.1)), .pl (.R false 1 (rT (d.2.2.2.map eP)))], .one (.pl (.i 0))]) := by
  have h := with_all bs ps.2 ps.1
  rw [hw, outPV, pX_pQ] at h
  exact h
 obtain ⟨k0, k1, k2, k3, k4⟩ := wRes_ok hw
 have kl : (d.2.2.2.map eP).length ≤ 1000000 := by rw [List.length_map]; exact Nat.le_trans k3 (by decide)
 have kt : ∀ t ∈ d.2.2.2.map eP, t.2.length ≤ 1000000 := fun t ht => by
  obtain ⟨u, hu, rfl⟩ := List.mem_map.mp ht
  exact Nat.le_trans (k4 u hu) (by decide)
 have kp0 : (eP d.2.1).2.length ≤ 1000000 := Nat.le_trans k1 (by decide)
 have kp1 : (eP d.2.2.1).2.length ≤ 1000000 := Nat.le_trans k2 (by decide)
 have kps : (false, ps.2).2.length ≤ 1000000 := Nat.le_trans k0 (by decide)
 have b1 : (lt == d.1) = true := by rw [a0]; exact beq_yes _
 have F0 := And.intro b1 <| rI_def
 have cv0 := Ct.cv (eqs_ p0.2 (eP d.2.1).2 p0.1 (eP d.2.1).1 kp0 true (decide_eq_true a2))
 have cv1 := Ct.cv (eqs_ p1.2 (eP d.2.2.1).2 p1.1 (eP d.2.2.1).1 kp1 false (decide_eq_false a3))
 have ch0 := CtM.ch [] ((hW.plain fun _ _ h => h).hands)
 have ch1 := CtM.ch [] (((eqf_ ts (d.2.2.2.map eP) te false kl kt true (by simp only [a1, decide_true])).plain fun _ _ h => h).hands)
 exact Ct.w Tryd.func11 rfl Tryd.ntmps11 Tryd.results11
set_option maxHeartbeats 1600000 in
set_option maxRecDepth 100000 in
theorem show_yes (bs : List UInt8) (lt te : Bool) (ps p0 p1 : Bool × List Int) (ts : List (Bool × List Int)) (d : PD) (hw : wRes bs ps.2 = .ok d) (a0 : lt = d.1) (a1 : ts.map Prod.snd = (d.2.2.2.map eP).map Prod.snd) (a2 : p0.2 = (eP d.2.1).2) (a3 : p1.2 = (eP d.2.2.1).2) :
 Ct Tryd.prog 11 [.w (.agg [.pl (.str bs), .pl (.b lt), .pl (rI ps), .pl (rI p0), .pl (rI p1), .pl (.R te 1 (rT ts))])] (Told (fun v m => v = .tup [.one (.pl (.str (nameS bs ps.2))), .one (.pl (.i 0))] ∧ m = [])) := by
 have hW : Ct Tryd.prog 6 [.w (.one (.pl (.str bs))), .w (.one (.pl (.R ps.1 1 (iRows ps.2))))] (fun v m => v = .tup [.agg [.pl (.str bs), .pl (.b d.1), .pl (rI (false, ps.2)), .pl (rI (eP d.2.1)), .pl (rI (eP d.2.2.1)), .pl (.R false 1 (rT (d.2.2.2.map eP)))], .one (.pl (.i 0))]) := by
  have h := with_all bs ps.2 ps.1
  rw [hw, outPV, pX_pQ] at h
  exact h
 obtain ⟨k0, k1, k2, k3, k4⟩ := wRes_ok hw
 have kl : (d.2.2.2.map eP).length ≤ 1000000 := by rw [List.length_map]; exact Nat.le_trans k3 (by decide)
 have kt : ∀ t ∈ d.2.2.2.map eP, t.2.length ≤ 1000000 := fun t ht => by
  obtain ⟨u, hu, rfl⟩ := List.mem_map.mp ht
  exact Nat.le_trans (k4 u hu) (by decide)
 have kp0 : (eP d.2.1).2.length ≤ 1000000 := Nat.le_trans k1 (by decide)
 have kp1 : (eP d.2.2.1).2.length ≤ 1000000 := Nat.le_trans k2 (by decide)
 have kps : (false, ps.2).2.length ≤ 1000000 := Nat.le_trans k0 (by decide)
 have ht0 : List.map pskW (List.take 0 ps.2) = [] := rfl
 have b1 : (lt == d.1) = true := by rw [a0]; exact beq_yes _
 have hW1 := (hW.plain fun _ _ h => h).hands
 have hEF := ((eqf_ ts (d.2.2.2.map eP) te false kl kt true (by simp only [a1, decide_true])).plain fun _ _ h => h).hands
 have hE0 := ((eqs_ p0.2 (eP d.2.1).2 p0.1 (eP d.2.1).1 kp0 true (decide_eq_true a2)).plain fun _ _ h => h)
 have hE1 := ((eqs_ p1.2 (eP d.2.2.1).2 p1.1 (eP d.2.2.1).1 kp1 true (decide_eq_true a3)).plain fun _ _ h => h)
 have F0 := And.intro b1 <| And.intro rI_def <| And.intro iRows_length <| And.intro sV_nil <| And.intro sM_nil <| And.intro ht0 <| And.intro (@leX_self Ob) <| And.intro sV_snoc <| And.intro sM_snoc <| And.intro sC_length <| And.intro sC_has <| And.intro sC_kill <| And.intro plsL_nil <| flatPL_nil
 refine Ct.k Tryd.func11 rfl Tryd.ntmps11 (congrArg Array.toList Tryd.results11) (by simp) fun w0 ro => ?_
 refine top_k fun zZ zhZ => ?_
 iterate 26 first
  | (refine sr_k fun zK zhK => ?_; simp only [go_sem, F0]; (repeat' (first | apply And.intro | intro _)))
  | refine zhK _ ?_
  | refine skip_k ?_
  | (refine zhN _ ?_; clear zhN zhM)
  | refine block_k fun zB zbn zbx zbr zbi => ?_
  | ((all_goals (refine call_hand false [] (fun k => k) (fun _ _ => rfl) ?_ (by decide) ?_ hW1 ?_; iterate 2 (focus (first | rfl | (simp only [go_sem, F0] <;> first | done | rfl | simp))))); (all_goals (rintro v m ⟨hR, hm⟩; subst hR; subst hm)); (all_goals (refine And.intro ?_ (And.intro ?_ (And.intro ?_ ?_)); iterate 3 (focus (first | rfl | (simp only [go_sem, F0]; done) | (simp [go_sem, look, F0]; done))))); (all_goals (try simp only [go_sem, F0])); (all_goals (try simp only [go_sem, F0])); (all_goals repeat' (first | apply And.intro | intro _)))
  | ((all_goals (refine call_hand false [] (fun k => k) (fun _ _ => rfl) ?_ (by decide) ?_ hEF ?_; iterate 2 (focus (first | rfl | (simp only [go_sem, F0] <;> first | done | rfl | simp))))); (all_goals (rintro v m ⟨hR, hm⟩; subst hR; subst hm)); (all_goals (refine And.intro ?_ (And.intro ?_ (And.intro ?_ ?_)); iterate 3 (focus (first | rfl | (simp only [go_sem, F0]; done) | (simp [go_sem, look, F0]; done))))); (all_goals (try simp only [go_sem, F0])); (all_goals (try simp only [go_sem, F0])); (all_goals repeat' (first | apply And.intro | intro _)))
  | ((all_goals (refine call_view (fun k => k) (fun _ _ => rfl) ?_ hE0 ?_; focus (first | rfl | (simp only [go_sem, F0] <;> rfl)))); (all_goals (rintro v m ⟨hR, hm⟩; subst hR; subst hm)); (all_goals refine And.intro (by first | rfl | simp only [go_sem, F0]) (And.intro (by first | rfl | simp only [go_sem, F0]) ?_)); (all_goals simp only [go_sem, F0]); (all_goals repeat' (first | apply And.intro | intro _)))
  | ((all_goals (refine call_view (fun k => k) (fun _ _ => rfl) ?_ hE1 ?_; focus (first | rfl | (simp only [go_sem, F0] <;> rfl)))); (all_goals (rintro v m ⟨hR, hm⟩; subst hR; subst hm)); (all_goals refine And.intro (by first | rfl | simp only [go_sem, F0]) (And.intro (by first | rfl | simp only [go_sem, F0]) ?_)); (all_goals simp only [go_sem, F0]); (all_goals repeat' (first | apply And.intro | intro _)))
  | refine seq_k fun zN zM zhN zhM => ?_
  | (refine condF_k ?_ ?_; focus (first | rfl | (simp [go_sem, F0]; done)))
 refine loop_k (fun y => [(56, .w (.one (.pl (.i ((y.1 : Nat) : Int))))), (6, sV 67 ((ps.2.take y.1).map pskW))]) (fun y => sM 67 ((ps.2.take y.1).map pskW)) (fun y => ps.2.length - y.1) (⟨0, Nat.zero_le _⟩ : {y : Nat // y ≤ ps.2.length}) ?_ ?_ ?_
 · (simp only [go_sem, leX, List.cons_append, List.nil_append, F0]; try simp)
 · (simp only [go_sem, leX, List.cons_append, List.nil_append, F0]; try simp)
 intro yy zN zM zhN zhM
 simp only [List.cons_append, List.nil_append]
 have yN0 := zhN
 obtain ⟨i, h1⟩ := yy
 have hd : (i < ps.2.length ∧ ((ps.2.take i).map pskW) = []) ∨ (i < ps.2.length ∧ ((ps.2.take i).map pskW) ≠ []) ∨ (i = ps.2.length ∧ ps.2 = []) ∨ (i = ps.2.length ∧ ps.2 ≠ []) := by
  rcases Nat.lt_or_ge i ps.2.length with h | h
  · by_cases ha : ((ps.2.take i).map pskW) = []
    · exact .inl ⟨h, ha⟩
    · exact .inr (.inl ⟨h, ha⟩)
  · by_cases ha : ps.2 = []
    · exact .inr (.inr (.inl ⟨Nat.le_antisymm h1 h, ha⟩))
    · exact .inr (.inr (.inr ⟨Nat.le_antisymm h1 h, ha⟩))
 simp only
 rcases hd with ⟨glt, hnil⟩ | ⟨glt, hne⟩ | ⟨rfl, hnil⟩ | ⟨rfl, hne⟩
 · have gcq := ltI glt
   have gj := Int.natCast_nonneg i
   have gg := iRows_get glt
   have gs1 := wsucc glt (Nat.le_trans k0 (by decide))
   have hxm : ps.2.getD i 0 ∈ ps.2 := by simp [List.getD, List.getElem?_eq_getElem glt]
   have htk : ps.2.take (i + 1) = ps.2.take i ++ [ps.2.getD i 0] := by
    rw [List.take_add_one, List.getElem?_eq_getElem glt]; simp [List.getD, List.getElem?_eq_getElem glt]
   obtain ⟨x, hx⟩ : ∃ x, ps.2.getD i 0 = x := ⟨_, rfl⟩
   rw [hx] at gg hxm htk
   obtain ⟨x0, x1⟩ := wRes_range hw x hxm
   have hml : ((ps.2.take (i + 1)).map pskW) = ((ps.2.take i).map pskW) ++ [pskW x] := by rw [htk, List.map_append]; rfl
   obtain ⟨acc, hac⟩ : ∃ acc, (ps.2.take i).map pskW = acc := ⟨_, rfl⟩
   rw [hac] at hml
   have hal : acc.length ≤ 4 := by rw [← hac, List.length_map, List.length_take]; omega
   have r0 : 0 ≤ 48 + x := by omega
   have r1 : 48 + x < 128 := by omega
   have gd : UInt8.ofNat (48 + x).toNat = dig x := rfl
   have ga : ∀ P t, binV P .add t (.w (.one (.pl (.str [112, 115, 107])))) (.w (.one (.pl (.str [dig x])))) = some (.w (.one (.pl (.str (pskW x))))) := fun P t => bin_add_str2 P t [112, 115, 107] [dig x] (show 3 + 1 ≤ 9223372036854775807 by decide)
   have gp : ([112, 115, 107] : List UInt8) ++ [dig x] = pskW x := rfl
   have gp2 : [112, 115, 107, dig x] = pskW x := rfl
   have gcap : (acc.length + 1) * 16 ≤ 140737488355328 := by omega
   have gw := w48 x0 x1
   rw [hac] at hnil ⊢
   subst hnil
   rw [List.nil_append] at hml

   have F0 := And.intro gcq <| And.intro gj <| And.intro glt <| And.intro gg <| And.intro gs1 <| And.intro gw <| And.intro r0 <| And.intro r1 <| And.intro gd <| And.intro ga <| And.intro gp <| And.intro gp2 <| And.intro gcap <| And.intro sV_nil <| And.intro sM_nil <| And.intro sV_one <| And.intro sM_one <| And.intro hml <| F0
   have zL := fun S2 => yN0 ⟨i + 1, glt⟩ S2 (by exact Nat.sub_lt_sub_left glt (Nat.lt_succ_self i))
   exact HT.w
 · have gcq := ltI glt
   have gj := Int.natCast_nonneg i
   have gg := iRows_get glt
   have gs1 := wsucc glt (Nat.le_trans k0 (by decide))
   have hxm : ps.2.getD i 0 ∈ ps.2 := by simp [List.getD, List.getElem?_eq_getElem glt]
   have htk : ps.2.take (i + 1) = ps.2.take i ++ [ps.2.getD i 0] := by
    rw [List.take_add_one, List.getElem?_eq_getElem glt]; simp [List.getD, List.getElem?_eq_getElem glt]
   obtain ⟨x, hx⟩ : ∃ x, ps.2.getD i 0 = x := ⟨_, rfl⟩
   rw [hx] at gg hxm htk
   obtain ⟨x0, x1⟩ := wRes_range hw x hxm
   have hml : ((ps.2.take (i + 1)).map pskW) = ((ps.2.take i).map pskW) ++ [pskW x] := by rw [htk, List.map_append]; rfl
   obtain ⟨acc, hac⟩ : ∃ acc, (ps.2.take i).map pskW = acc := ⟨_, rfl⟩
   rw [hac] at hml
   have hal : acc.length ≤ 4 := by rw [← hac, List.length_map, List.length_take]; omega
   have r0 : 0 ≤ 48 + x := by omega
   have r1 : 48 + x < 128 := by omega
   have gd : UInt8.ofNat (48 + x).toNat = dig x := rfl
   have ga : ∀ P t, binV P .add t (.w (.one (.pl (.str [112, 115, 107])))) (.w (.one (.pl (.str [dig x])))) = some (.w (.one (.pl (.str (pskW x))))) := fun P t => bin_add_str2 P t [112, 115, 107] [dig x] (show 3 + 1 ≤ 9223372036854775807 by decide)
   have gp : ([112, 115, 107] : List UInt8) ++ [dig x] = pskW x := rfl
   have gp2 : [112, 115, 107, dig x] = pskW x := rfl
   have gcap : (acc.length + 1) * 16 ≤ 140737488355328 := by omega
   have gw := w48 x0 x1
   rw [hac] at hne ⊢
   have hv := sV_own (nm := 67) hne
   have hm := sM_own (nm := 67) hne

   have F0 := And.intro gcq <| And.intro gj <| And.intro glt <| And.intro gg <| And.intro gs1 <| And.intro gw <| And.intro r0 <| And.intro r1 <| And.intro gd <| And.intro ga <| And.intro gp <| And.intro gp2 <| And.intro gcap <| And.intro hv <| And.intro hm <| And.intro hml <| F0
   have zL := fun S2 => yN0 ⟨i + 1, glt⟩ S2 (by exact Nat.sub_lt_sub_left glt (Nat.lt_succ_self i))
   exact HT.w
 · have gcq := nltI (n := ps.2.length)
   have hnl : ((ps.2.take ps.2.length).map pskW) = [] := by rw [List.take_length, hnil]; rfl
   have hjl : pskJ ps.2 = [] := by rw [hnil]; rfl
   rw [hnl]
   have hjn := join_no true [43]
   have g1 := fun P t => bin_add_str2 P t [78, 111, 105, 115, 101, 95] bs (by have := wRes_name hw; show 6 + bs.length ≤ _; omega)
   have g2 := fun P t => bin_add_str2 P t ([78, 111, 105, 115, 101, 95] ++ bs) (pskJ ps.2) (by have := wRes_name hw; have := pskJ_len ps.2; rw [List.length_append]; show 6 + bs.length + _ ≤ _; omega)
   have g3 := fun P t => bin_add_str2 P t ([78, 111, 105, 115, 101, 95] ++ bs ++ pskJ ps.2) [95, 50, 53, 53, 49, 57, 95, 67, 104, 97, 67, 104, 97, 80, 111, 108, 121, 95, 66, 76, 65, 75, 69, 50, 115] (by have := wRes_name hw; have := pskJ_len ps.2; rw [List.length_append, List.length_append]; show 6 + bs.length + _ + 25 ≤ _; omega)
   have zE := fun m => told_plain (R := (fun v m => v = .tup [.one (.pl (.str (nameS bs ps.2))), .one (.pl (.i 0))] ∧ m = [])) (m := m) (v := .tup [.one (.pl (.str ([78, 111, 105, 115, 101, 95] ++ bs ++ pskJ ps.2 ++ [95, 50, 53, 53, 49, 57, 95, 67, 104, 97, 67, 104, 97, 80, 111, 108, 121, 95, 66, 76, 65, 75, 69, 50, 115]))), .one (.pl (.i 0))]) rfl ⟨rfl, rfl⟩
   rw [hjl] at g2 g3 zE
   obtain ⟨hb, hhb⟩ : ∃ hb, [78, 111, 105, 115, 101, 95] ++ bs = hb := ⟨_, rfl⟩
   rw [hhb] at g1 g2 g3 zE
   simp only [List.append_nil] at g2 g3 zE

   have F0 := And.intro gcq <| And.intro sV_nil <| And.intro sM_nil <| And.intro g1 <| And.intro g2 <| And.intro g3 <| F0
   refine sr_k fun zK zhK => ?_
   simp only [go_sem, F0]
   repeat' (first | apply And.intro | intro _)
   refine zhK _ ?_
   refine seq_k fun zN zM zhN zhM => ?_
   (refine condF_k ?_ ?_; focus (first | rfl | (simp [go_sem, F0]; done)))
   refine exit_k ?_
   refine zhM _ _ ?_; clear zhN zhM
   refine zhM _ _ ?_; clear zhN zhM
   refine zbx _ ?_; clear zbn zbx zbr zbi
   refine zhN _ ?_; clear zhN zhM
   refine sd_k (id := 12) [69, 70, 71, 72, 73, 74, 75, 2, 3] [0, 1, 3, 0, 8, 31, 63, 127, 255] [] mixed (by kernel_rfl) (by simp only [go_sem]) fun zK zhK => ?_
   simp only [go_sem, F0]
   repeat' (first | apply And.intro | intro _)
   all_goals (refine call_draw (fun k => k) (.w (.one (.pl (.str [])))) [] (fun _ _ => rfl) ?_ hjn ?_ ?_; focus (first | rfl | (simp only [go_sem, F0] <;> rfl)))
   all_goals try (refine And.intro ?_ (And.intro ?_ (And.intro ?_ ?_)) <;> first | rfl | simp only [go_sem])
   all_goals simp only [go_sem, F0]
   all_goals repeat' (first | apply And.intro | intro _)
   refine zhK _ _ trivial ?_
   refine ret_k ?_
   refine zhZ _ _ ?_
   simp only [go_sem, F0]
   all_goals (exact zE _)
 · have gcq := nltI (n := ps.2.length)
   rw [List.take_length]
   have hne2 : ps.2.map pskW ≠ [] := by intro e; rw [List.map_eq_nil_iff] at e; exact hne e
   obtain ⟨acc, hac⟩ : ∃ acc, ps.2.map pskW = acc := ⟨_, rfl⟩
   have hjl : pskJ ps.2 = Lib.join acc [43] := by rw [← hac]; rfl
   have hal : acc.length ≤ 4 := by rw [← hac, List.length_map]; exact k0
   have hjb : (Lib.join acc [43]).length ≤ 20 := by rw [← hjl]; have := pskJ_len ps.2; omega
   rw [hac] at hne2 ⊢
   have hv := sV_own (nm := 67) hne2
   have hm := sM_own (nm := 67) hne2
   have hjn := join_ acc false [43] hne2 (Nat.le_trans hal (by decide)) (Nat.le_trans hjb (by decide))
   rw [← hjl] at hjn
   have g1 := fun P t => bin_add_str2 P t [78, 111, 105, 115, 101, 95] bs (by have := wRes_name hw; show 6 + bs.length ≤ _; omega)
   have g2 := fun P t => bin_add_str2 P t ([78, 111, 105, 115, 101, 95] ++ bs) (pskJ ps.2) (by have := wRes_name hw; have := pskJ_len ps.2; rw [List.length_append]; show 6 + bs.length + _ ≤ _; omega)
   have g3 := fun P t => bin_add_str2 P t ([78, 111, 105, 115, 101, 95] ++ bs ++ pskJ ps.2) [95, 50, 53, 53, 49, 57, 95, 67, 104, 97, 67, 104, 97, 80, 111, 108, 121, 95, 66, 76, 65, 75, 69, 50, 115] (by have := wRes_name hw; have := pskJ_len ps.2; rw [List.length_append, List.length_append]; show 6 + bs.length + _ + 25 ≤ _; omega)
   have zE := fun m => told_plain (R := (fun v m => v = .tup [.one (.pl (.str (nameS bs ps.2))), .one (.pl (.i 0))] ∧ m = [])) (m := m) (v := .tup [.one (.pl (.str ([78, 111, 105, 115, 101, 95] ++ bs ++ pskJ ps.2 ++ [95, 50, 53, 53, 49, 57, 95, 67, 104, 97, 67, 104, 97, 80, 111, 108, 121, 95, 66, 76, 65, 75, 69, 50, 115]))), .one (.pl (.i 0))]) rfl ⟨rfl, rfl⟩
   obtain ⟨hb, hhb⟩ : ∃ hb, [78, 111, 105, 115, 101, 95] ++ bs = hb := ⟨_, rfl⟩
   rw [hhb] at g1 g2 g3 zE

   have F0 := And.intro gcq <| And.intro hv <| And.intro hm <| And.intro g1 <| And.intro g2 <| And.intro g3 <| F0
   refine sr_k fun zK zhK => ?_
   simp only [go_sem, F0]
   repeat' (first | apply And.intro | intro _)
   refine zhK _ ?_
   refine seq_k fun zN zM zhN zhM => ?_
   (refine condF_k ?_ ?_; focus (first | rfl | (simp [go_sem, F0]; done)))
   refine exit_k ?_
   refine zhM _ _ ?_; clear zhN zhM
   refine zhM _ _ ?_; clear zhN zhM
   refine zbx _ ?_; clear zbn zbx zbr zbi
   refine zhN _ ?_; clear zhN zhM
   refine ht_dropE [0, 4, 5, 7, 8, 9, 10, 11, 12, 13, 14, 15, 16, 17, 18, 19, 20, 21, 22, 23, 24, 25, 26, 27, 28, 29, 30, 31, 32, 33, 34, 35, 36, 37, 38, 39, 40, 41, 42, 43, 44, 45, 46, 47, 48, 49, 50, 51, 52, 53, 54, 55, 56, 57, 58, 59, 60, 61, 62, 63, 64, 65, 66, 67, 68, 69, 70, 71, 72, 73, 74, 75] ?_
   simp only [dropE_mk, fgt_nil, fgt_cons, List.contains_cons, List.contains_nil, Nat.reduceBEq, beq_self_eq_true, Bool.or_false, Bool.or_true, Bool.true_or, Bool.false_or, Bool.false_eq_true, reduceIte]
   refine ht_seal 67 (acc.map PL.str) (b := true) (by simp only [look, F0, Nat.reduceEqDiff, if_true, if_false, reduceIte, sC_pls]) (by decide) ?_
   simp only [St.laid, sealE, sealM, sealV, sealW, List.map_cons, List.map_nil, sealL_pl, sealL_fn0, sealS, sealL_pne (j := 1) (k := 67) (by decide), sealL_pne (j := 4) (k := 67) (by decide), seal_pls, Nat.reduceLT, Nat.reduceEqDiff, if_true, if_false, reduceIte]
   refine sd_k (id := 12) [69, 70, 71, 72, 73, 74, 75, 2, 3] [0, 1, 3, 0, 8, 31, 63, 127, 255] [] mixed (by kernel_rfl) (by simp only [go_sem]) fun zK zhK => ?_
   simp only [go_sem, F0]
   repeat' (first | apply And.intro | intro _)
   all_goals (refine call_draw (fun k => k) (.w (.one (.pl (.str (pskJ ps.2))))) [] (fun _ _ => rfl) ?_ hjn ?_ ?_; focus (first | rfl | (simp only [go_sem, F0] <;> rfl)))
   all_goals try (refine And.intro ?_ (And.intro ?_ (And.intro ?_ ?_)) <;> first | rfl | simp only [go_sem])
   all_goals simp only [go_sem, F0]
   all_goals repeat' (first | apply And.intro | intro _)
   refine zhK _ _ trivial ?_
   refine ret_k ?_
   refine zhZ _ _ ?_
   simp only [go_sem, F0]
   all_goals (exact zE _)
end Go.Sy

