/- Walks: the pattern NK with psks. -/
import Derived.Test.YtbfllkipgfpkkaaDoorvdB1
import Derived.Test.YtbfllkipgfpkkaaDoorvE3
import Derived.Test.YtbfllkipgfpkkaaDoorvU4
set_option linter.unusedVariables false
set_option linter.unusedSimpArgs false
namespace Go.Sy
open Go.Proofs
attribute [local irreducible] atCall HT runOps runD onC onE onO onG goV goA goS onSt onGuard
set_option maxHeartbeats 3200000 in
set_option maxRecDepth 100000 in
theorem with_NKw (ps : List Int) (ex : Bool) (hps : ps.length ≤ 1000000) (hl : ¬ (4 : Int) < ((ps.length : Nat) : Int)) :
 Ct Tryd.prog 6 [.w (.one (.pl (.str [78, 75]))), .w (.one (.pl (.R ex 1 (iRows ps))))] (Told (fun v m => v = withV [78, 75] false [] [2] [[1, 4], [1, 3]] 2 ps)) := by
 have hB := (base_NK).hands
 have F0 := And.intro iRows_length <| hl
 refine Ct.k Tryd.func6 rfl Tryd.ntmps6 (congrArg Array.toList Tryd.results6) (by simp) fun w0 ro => ?_
 refine top_k fun zZ zhZ => ?_
 iterate 21 first
  | (refine sr_k fun zK zhK => ?_; simp only [go_sem, F0]; (repeat' (first | apply And.intro | intro _)))
  | refine zhK _ ?_
  | refine skip_k ?_
  | (refine zhN _ ?_; clear zhN zhM)
  | refine block_k fun zB zbn zbx zbr zbi => ?_
  | ((all_goals (refine call_hand false [] (fun k => k) (fun _ _ => rfl) ?_ (by decide) ?_ hB ?_; iterate 2 (focus (first | rfl | (simp only [go_sem, F0] <;> first | done | rfl | simp))))); (all_goals (rintro v m ⟨hR, hm⟩; subst hR; subst hm)); (all_goals (refine And.intro ?_ (And.intro ?_ (And.intro ?_ ?_)); iterate 3 (focus (first | rfl | (simp only [go_sem, F0]; done) | (simp [go_sem, look, F0]; done))))); (all_goals (try simp only [go_sem, F0])); (all_goals (try simp only [go_sem, F0])); (all_goals repeat' (first | apply And.intro | intro _)))
  | refine seq_k fun zN zM zhN zhM => ?_
  | (refine condF_k ?_ ?_; focus (first | rfl | (simp [go_sem, F0]; done)))
 refine loop_k (fun y => [(26, .w (.one (.pl (.i ((y.1 : Nat) : Int)))))]) (fun _ => []) (fun y => ps.length - y.1) (⟨0, Nat.zero_le _, rfl⟩ : {y : Nat // y ≤ ps.length ∧ wchk 2 (lastP ps y) (ps.drop y) = wchk 2 (-1) ps}) ?_ ?_ ?_
 · (simp only [go_sem, leX, List.cons_append, List.nil_append, F0]; try simp)
 · (simp only [go_sem, leX, List.cons_append, List.nil_append, F0]; try simp)
 intro yy zN zM zhN zhM
 simp only [List.cons_append, List.nil_append]
 have yN0 := zhN
 obtain ⟨i, h1, h4⟩ := yy
 have hd : (i < ps.length ∧ ps.getD i 0 < 0) ∨ (i < ps.length ∧ ¬ ps.getD i 0 < 0 ∧ 2 < ps.getD i 0) ∨ (i < ps.length ∧ ¬ ps.getD i 0 < 0 ∧ ¬ 2 < ps.getD i 0 ∧ 0 < i ∧ ps.getD i 0 ≤ lastP ps i) ∨ (i < ps.length ∧ ¬ ps.getD i 0 < 0 ∧ ¬ 2 < ps.getD i 0 ∧ 0 < i ∧ ¬ ps.getD i 0 ≤ lastP ps i) ∨ (i < ps.length ∧ ¬ ps.getD i 0 < 0 ∧ ¬ 2 < ps.getD i 0 ∧ i = 0) ∨ i = ps.length := by omega
 rcases hd with ⟨glt, hb⟩ | ⟨glt, hb, hc⟩ | ⟨glt, hb, hc, hpos, hle⟩ | ⟨glt, hb, hc, hpos, hle⟩ | ⟨glt, hb, hc, rfl⟩ | rfl
 · have gcq := ltI glt
   have gj := Int.natCast_nonneg i
   have gg := iRows_get glt
   obtain ⟨x, hx⟩ : ∃ x, ps.getD i 0 = x := ⟨_, rfl⟩
   rw [drop_getD (z := 0) glt, wchk_cons, hx] at h4
   rw [hx] at gg hb
   rw [if_pos (.inl hb)] at h4
   have zE := fun m => told_plain (R := (fun v m => v = withV [78, 75] false [] [2] [[1, 4], [1, 3]] 2 ps)) (m := m) rfl (withV_bad (n := 2) h4 (by decide)).symm
   have F0 := And.intro gcq <| And.intro gj <| And.intro glt <| And.intro gg <| And.intro hb <| F0
   exact HT.w
 · have gcq := ltI glt
   have gj := Int.natCast_nonneg i
   have gg := iRows_get glt
   obtain ⟨x, hx⟩ : ∃ x, ps.getD i 0 = x := ⟨_, rfl⟩
   rw [drop_getD (z := 0) glt, wchk_cons, hx] at h4
   rw [hx] at gg hb hc
   rw [if_pos (.inr hc)] at h4
   have zE := fun m => told_plain (R := (fun v m => v = withV [78, 75] false [] [2] [[1, 4], [1, 3]] 2 ps)) (m := m) rfl (withV_bad (n := 2) h4 (by decide)).symm
   have F0 := And.intro gcq <| And.intro gj <| And.intro glt <| And.intro gg <| And.intro hb <| And.intro hc <| F0
   exact HT.w
 · have gcq := ltI glt
   have gj := Int.natCast_nonneg i
   have gg := iRows_get glt
   obtain ⟨x, hx⟩ : ∃ x, ps.getD i 0 = x := ⟨_, rfl⟩
   rw [drop_getD (z := 0) glt, wchk_cons, hx] at h4
   rw [hx] at gg hb hc hle
   have gp : 0 < ((i : Nat) : Int) := Int.natCast_pos.mpr hpos
   have gpi : i - 1 < ps.length := Nat.lt_of_le_of_lt (Nat.sub_le _ _) glt
   have gpg := iRows_get gpi
   have gpc := ltI gpi
   have gw := wpred hpos (Nat.le_trans (Nat.le_of_lt glt) hps)
   have gp0 := Int.natCast_nonneg (i - 1)
   rw [lastP, if_neg (Nat.pos_iff_ne_zero.mp hpos)] at hle h4
   rw [if_neg (by omega), if_pos hle] at h4
   have zE := fun m => told_plain (R := (fun v m => v = withV [78, 75] false [] [2] [[1, 4], [1, 3]] 2 ps)) (m := m) rfl (withV_bad (n := 2) h4 (by decide)).symm
   have F0 := And.intro gcq <| And.intro gj <| And.intro glt <| And.intro gg <| And.intro hb <| And.intro hc <| And.intro hle <| And.intro gp <| And.intro gpi <| And.intro gpg <| And.intro gpc <| And.intro gw <| And.intro gp0 <| F0
   exact HT.w
 · have gcq := ltI glt
   have gj := Int.natCast_nonneg i
   have gg := iRows_get glt
   obtain ⟨x, hx⟩ : ∃ x, ps.getD i 0 = x := ⟨_, rfl⟩
   rw [drop_getD (z := 0) glt, wchk_cons, hx] at h4
   rw [hx] at gg hb hc hle
   have gp : 0 < ((i : Nat) : Int) := Int.natCast_pos.mpr hpos
   have gpi : i - 1 < ps.length := Nat.lt_of_le_of_lt (Nat.sub_le _ _) glt
   have gpg := iRows_get gpi
   have gpc := ltI gpi
   have gw := wpred hpos (Nat.le_trans (Nat.le_of_lt glt) hps)
   have gp0 := Int.natCast_nonneg (i - 1)
   rw [lastP, if_neg (Nat.pos_iff_ne_zero.mp hpos)] at hle h4
   rw [if_neg (by omega), if_neg hle] at h4
   have gs1 := wsucc glt hps

   have F0 := And.intro gcq <| And.intro gj <| And.intro glt <| And.intro gg <| And.intro hb <| And.intro hc <| And.intro hle <| And.intro gs1 <| And.intro gp <| And.intro gpi <| And.intro gpg <| And.intro gpc <| And.intro gw <| And.intro gp0 <| F0
   have zL := fun S2 => yN0 ⟨i + 1, glt, by rw [lastP, if_neg (Nat.succ_ne_zero i), Nat.add_sub_cancel, hx]; exact h4⟩ S2 (by exact Nat.sub_lt_sub_left glt (Nat.lt_succ_self i))
   exact HT.w
 · have gcq := ltI glt
   have gj := Int.natCast_nonneg 0
   have gg := iRows_get glt
   obtain ⟨x, hx⟩ : ∃ x, ps.getD 0 0 = x := ⟨_, rfl⟩
   rw [drop_getD (z := 0) glt, wchk_cons, hx] at h4
   rw [hx] at gg hb hc
   rw [if_neg (by omega), if_neg (show ¬ x ≤ lastP ps 0 from fun h => by rw [lastP, if_pos rfl] at h; omega)] at h4
   have gs1 := wsucc glt hps
   have gz : (0 : Int) < ((ps.length : Nat) : Int) := Int.natCast_pos.mpr glt
   have F0 := And.intro gcq <| And.intro gj <| And.intro glt <| And.intro gg <| And.intro hb <| And.intro hc <| And.intro gs1 <| And.intro gz <| F0
   have zL := fun S2 => yN0 ⟨0 + 1, glt, by rw [lastP, if_neg (Nat.succ_ne_zero 0), Nat.add_sub_cancel, hx]; exact h4⟩ S2 (by exact Nat.sub_lt_sub_left glt (Nat.lt_succ_self 0))
   exact HT.w
 · rw [List.drop_length, wchk_nil] at h4
   have F0 := And.intro ir_nil <| And.intro ir_cons <| And.intro gd0 <| And.intro gd1 <| And.intro gd2 <| And.intro gd3 <| F0
   rcases wv2_0 h4.symm with rfl | rfl | rfl | rfl | rfl | rfl | rfl | rfl
   all_goals (have zF : FG [73, 74, 75, 76, 77, 78, 79, 80, 81, 82, 83, 84, 86, 88, 89] := trivial; have zd0 : DR 18 [62, 63, 64, 65, 66, 67, 68, 69, 70] [0, 1, 0, 0, 8, 24, 56, 124, 255, 511] [(0, 7), (1, 7)] := trivial; have zd1 : DR 19 [71, 72, 73, 74, 75, 76, 77, 78, 79, 80, 81, 82, 83] [0, 1, 0, 4, 0, 16, 0, 64, 240, 496, 0, 2032, 4095, 8191] [(0, 11), (1, 11), (2, 11), (3, 11)] := trivial; exact HT.run)
end Go.Sy

