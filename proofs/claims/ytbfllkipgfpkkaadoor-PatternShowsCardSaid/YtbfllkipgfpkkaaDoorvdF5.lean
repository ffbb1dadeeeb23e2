/- Walks: a pattern of three turns with psks, as the document tells it. -/
import Derived.Test.YtbfllkipgfpkkaaDoorvdF4
set_option linter.unusedVariables false
set_option linter.unusedSimpArgs false
namespace Go.Sy
open Go.Proofs
attribute [local irreducible] atCall HT runOps runD onC onE onO onG goV goA goS onSt onGuard
set_option maxHeartbeats 3200000 in
set_option maxRecDepth 100000 in
theorem rwith3_w (bs s s1 A B : List UInt8) (lt : Bool) (L0 : List (List UInt8)) (ps : List Int) (ex : Bool) (hbs : decide (bs = [88, 88, 102, 97, 108, 108, 98, 97, 99, 107]) = lt) (hs : ¬ s = []) (hl : ¬ (4 : Int) < ((ps.length : Nat) : Int)) (hok : okT 3 0 A B L0) (c1 : Ct Tryd.prog 14 [.w (.one (.pl (.str bs)))] (fun v m => v = .w (.one (.pl (.str s))))) (c2 : Ct Tryd.prog 16 [.w (.one (.pl (.str s))), .w (.one (.pl (.str [59])))] (fun v m => v = .w (.one (.pl (.str s1))))) (c3 : Ct Tryd.prog 15 [.w (.one (.pl (.str s1))), .w (.one (.pl (.str [59])))] (fun v m => v = .w (.one (.s 1031 [(0, 5)] 5 1)) ∧ m = [(1031, ⟨true, strC L0⟩)])) :
 CtM Tryd.prog 7 [.w (.one (.pl (.str bs))), .w (.one (.pl (.R ex 1 (iRows ps))))] [(1000000, ⟨false, bytesC spaceL⟩)] (Told (fun v m => v = rwV bs lt 3 L0 ps ex ∧ m = [])) := by
 have hps : ps.length ≤ 1000000 := by omega
 have hL0 := hok.1
 have F0 := And.intro tL_nil <| And.intro tM_nil <| And.intro iRows_length <| And.intro hl <| And.intro hs <| And.intro strC_pls <| And.intro mapS_length <| And.intro iV_nil <| (@leX_self Ob)
 refine CtM.k Tryd.func7 rfl Tryd.ntmps7 (congrArg Array.toList Tryd.results7) (by simp) fun w0 ro may fx => ?_
 refine top_k fun zZ zhZ => ?_
 iterate 29 first
  | (refine sr_k fun zK zhK => ?_; simp only [go_sem, F0]; (repeat' (first | apply And.intro | intro _)))
  | refine zhK _ ?_
  | refine skip_k ?_
  | (refine zhN _ ?_; clear zhN zhM)
  | refine block_k fun zB zbn zbx zbr zbi => ?_
  | ((all_goals (refine call_view (fun k => k) (fun _ _ => rfl) ?_ (c1.plain fun _ _ h => h) ?_; focus (first | rfl | (simp only [go_sem, F0] <;> rfl)))); (all_goals (rintro v m ⟨hR, hm⟩; subst hR; subst hm)); (all_goals refine And.intro (by first | rfl | simp only [go_sem, F0]) (And.intro (by first | rfl | simp only [go_sem, F0]) ?_)); (all_goals simp only [go_sem, F0]); (all_goals repeat' (first | apply And.intro | intro _)))
  | ((all_goals (refine call_view (fun k => k) (fun _ _ => rfl) ?_ (c2.plain fun _ _ h => h) ?_; focus (first | rfl | (simp only [go_sem, F0] <;> rfl)))); (all_goals (rintro v m ⟨hR, hm⟩; subst hR; subst hm)); (all_goals refine And.intro (by first | rfl | simp only [go_sem, F0]) (And.intro (by first | rfl | simp only [go_sem, F0]) ?_)); (all_goals simp only [go_sem, F0]); (all_goals repeat' (first | apply And.intro | intro _)))
  | ((all_goals (refine call_hand false [] (fun k => k) (fun _ _ => rfl) ?_ (by decide) ?_ c3.hands ?_; iterate 2 (focus (first | rfl | (simp only [go_sem, F0] <;> first | done | rfl | simp))))); (all_goals (rintro v m ⟨hR, hm⟩; subst hR; subst hm)); (all_goals (refine And.intro ?_ (And.intro ?_ (And.intro ?_ ?_)); iterate 3 (focus (first | rfl | (simp only [go_sem, F0]; done) | (simp [go_sem, look, F0]; done))))); (all_goals (try simp only [go_sem, F0])); (all_goals (try simp only [go_sem, F0])); (all_goals repeat' (first | apply And.intro | intro _)))
  | refine seq_k fun zN zM zhN zhM => ?_
  | (refine condF_k ?_ ?_; focus (first | rfl | (simp [go_sem, F0]; done)))
 refine loop_k (fun y => [(32, .w (.one (.pl (.i ((y.1.1 : Nat) : Int))))), (9, .w (.one (.pl (.i y.1.2.1))))]) (fun y => [(1031, ⟨true, strC y.1.2.2⟩)]) (fun y => ps.length - y.1.1) (⟨(0, -1, L0), Nat.zero_le _, rfl, rfl, hok⟩ : {y : Nat × Int × List (List UInt8) // y.1 ≤ ps.length ∧ wchk 3 y.2.1 (ps.drop y.1) = wchk 3 (-1) ps ∧ addT y.2.2 (ps.drop y.1) = addT L0 ps ∧ okT 3 y.1 A B y.2.2}) ?_ ?_ ?_
 · (simp only [go_sem, leX, List.cons_append, List.nil_append, F0]; try simp)
 · (simp only [go_sem, leX, List.cons_append, List.nil_append, F0]; try simp)
 intro yy zN zM zhN zhM
 simp only [List.cons_append, List.nil_append]
 have yN0 := zhN
 obtain ⟨⟨i, last, l⟩, h1, h2, h3, h4⟩ := yy
 simp only at h1 h2 h3 h4
 have hd : (i < ps.length ∧ ps.getD i 0 < 0) ∨ (i < ps.length ∧ ¬ ps.getD i 0 < 0 ∧ 3 < ps.getD i 0) ∨ (i < ps.length ∧ ¬ ps.getD i 0 < 0 ∧ ¬ 3 < ps.getD i 0 ∧ ps.getD i 0 ≤ last) ∨ (i < ps.length ∧ ¬ ps.getD i 0 ≤ last ∧ ps.getD i 0 = 0) ∨ (i < ps.length ∧ ¬ ps.getD i 0 < 0 ∧ ¬ 3 < ps.getD i 0 ∧ ¬ ps.getD i 0 ≤ last ∧ ¬ ps.getD i 0 = 0) ∨ i = ps.length := by omega
 rcases hd with ⟨glt, hb⟩ | ⟨glt, hb, hc⟩ | ⟨glt, hb, hc, hle⟩ | ⟨glt, hle, h0⟩ | ⟨glt, hb, hc, hle, h0⟩ | rfl
 · have gcq := ltI glt
   have gj := Int.natCast_nonneg i
   have gg := iRows_get glt
   obtain ⟨x, hx⟩ : ∃ x, ps.getD i 0 = x := ⟨_, rfl⟩
   rw [drop_getD (z := 0) glt, wchk_cons, hx] at h2
   rw [drop_getD (z := 0) glt, addT_cons, hx] at h3
   rw [hx] at gg hb
   rw [if_pos (.inl hb)] at h2
   have zE := fun m => told_plain (R := (fun v m => v = rwV bs lt 3 L0 ps ex ∧ m = [])) (m := m) rfl ⟨(rwV_bad (T := 3) h2 (by decide)).symm, rfl⟩
   have F0 := And.intro gcq <| And.intro gj <| And.intro glt <| And.intro gg <| And.intro hb <| F0
   exact HT.w
 · have gcq := ltI glt
   have gj := Int.natCast_nonneg i
   have gg := iRows_get glt
   obtain ⟨x, hx⟩ : ∃ x, ps.getD i 0 = x := ⟨_, rfl⟩
   rw [drop_getD (z := 0) glt, wchk_cons, hx] at h2
   rw [drop_getD (z := 0) glt, addT_cons, hx] at h3
   rw [hx] at gg hb hc
   rw [if_pos (.inr hc)] at h2
   have zE := fun m => told_plain (R := (fun v m => v = rwV bs lt 3 L0 ps ex ∧ m = [])) (m := m) rfl ⟨(rwV_bad (T := 3) h2 (by decide)).symm, rfl⟩
   have F0 := And.intro gcq <| And.intro gj <| And.intro glt <| And.intro gg <| And.intro hb <| And.intro hc <| F0
   exact HT.w
 · have gcq := ltI glt
   have gj := Int.natCast_nonneg i
   have gg := iRows_get glt
   obtain ⟨x, hx⟩ : ∃ x, ps.getD i 0 = x := ⟨_, rfl⟩
   rw [drop_getD (z := 0) glt, wchk_cons, hx] at h2
   rw [drop_getD (z := 0) glt, addT_cons, hx] at h3
   rw [hx] at gg hb hc hle
   rw [if_neg (by omega), if_pos hle] at h2
   have zE := fun m => told_plain (R := (fun v m => v = rwV bs lt 3 L0 ps ex ∧ m = [])) (m := m) rfl ⟨(rwV_bad (T := 3) h2 (by decide)).symm, rfl⟩
   have F0 := And.intro gcq <| And.intro gj <| And.intro glt <| And.intro gg <| And.intro hb <| And.intro hc <| And.intro hle <| F0
   exact HT.w
 · have gcq := ltI glt
   have gj := Int.natCast_nonneg i
   have gg := iRows_get glt
   obtain ⟨x, hx⟩ : ∃ x, ps.getD i 0 = x := ⟨_, rfl⟩
   rw [drop_getD (z := 0) glt, wchk_cons, hx] at h2
   rw [drop_getD (z := 0) glt, addT_cons, hx] at h3
   rw [hx] at gg hle h0
   subst h0
   have hle0 := hle
   rw [if_neg (by omega), if_neg hle] at h2
   rw [if_pos rfl] at h3
   have gadd := fun P t => bin_add_str2 P t [112, 115, 107, 32] (l.getD 2 []) (add_ok (okT_get h4 (k := 2) (by decide)).2 glt hps)
   have hlen : l.length = 5 := h4.1
   have ga := strP_at (lt_of_ok h4 (k := 2) (by decide))
   have gset := set_put (t := psk1 ++ l.getD 2 []) (lt_of_ok h4 (k := 2) (by decide))
   have gset2 := set_put2 (t := psk1 ++ l.getD 2 []) (lt_of_ok h4 (k := 2) (by decide))
   have gpk : ∀ t : List UInt8, [112, 115, 107, 32] ++ t = psk1 ++ t := fun _ => rfl
   have g32 := wsucc glt hps

   have F0 := And.intro gcq <| And.intro gj <| And.intro glt <| And.intro gg <| And.intro g32 <| And.intro gadd <| And.intro hle <| And.intro hlen <| And.intro ga <| And.intro gset <| And.intro gset2 <| And.intro gpk <| F0
   have zL := fun S2 => yN0 ⟨(i + 1, 0, l.set 2 (psk1 ++ l.getD 2 [])), glt, h2, h3, okT_front h4 (by decide)⟩ S2 (by exact Nat.sub_lt_sub_left glt (Nat.lt_succ_self i))
   exact HT.w
 · have gcq := ltI glt
   have gj := Int.natCast_nonneg i
   have gg := iRows_get glt
   obtain ⟨x, hx⟩ : ∃ x, ps.getD i 0 = x := ⟨_, rfl⟩
   rw [drop_getD (z := 0) glt, wchk_cons, hx] at h2
   rw [drop_getD (z := 0) glt, addT_cons, hx] at h3
   rw [hx] at gg hb hc hle h0
   rw [if_neg (by omega), if_neg hle] at h2
   rw [if_neg h0] at h3
   obtain ⟨k, rfl⟩ : ∃ k : Nat, x = (k : Int) := ⟨x.toNat, by omega⟩
   rw [Int.toNat_natCast] at h3
   have hk3 : 1 ≤ k ∧ k ≤ 3 := by omega
   have hk4 : k + 1 < 3 + 2 := by omega
   have gkl : ((k + 1 : Nat) : Int) < 5 := by omega
   have gkn : k + 1 < 5 := by omega
   have gk2 : k + 1 + 1 ≤ 5 := by omega
   have gadd := fun P t => bin_add_str2 P t (l.getD (k + 1) []) [32, 112, 115, 107] (add_ok2 (okT_get h4 hk4).2 glt hps)
   have hlen : l.length = 5 := h4.1
   have ga := strP_at (lt_of_ok h4 hk4)
   have gset := set_put (t := l.getD (k + 1) [] ++ psk2) (lt_of_ok h4 hk4)
   have gset2 := set_put2 (t := l.getD (k + 1) [] ++ psk2) (lt_of_ok h4 hk4)
   have gpk : ∀ t : List UInt8, t ++ [32, 112, 115, 107] = t ++ psk2 := fun _ => rfl
   have gkg := i_ge (k + 1)
   have gwk := wk1 (k := k) (Nat.le_trans hk3.2 (by decide))
   have g32 := wsucc glt hps

   have F0 := And.intro gcq <| And.intro gj <| And.intro glt <| And.intro gg <| And.intro g32 <| And.intro gadd <| And.intro hb <| And.intro hc <| And.intro hle <| And.intro h0 <| And.intro hlen <| And.intro ga <| And.intro gset <| And.intro gset2 <| And.intro gpk <| And.intro gwk <| And.intro gkl <| And.intro gkn <| And.intro gkg <| And.intro gk2 <| F0
   have zL := fun S2 => yN0 ⟨(i + 1, (k : Int), l.set (k + 1) (l.getD (k + 1) [] ++ psk2)), glt, h2, h3, okT_back h4 hk3.1 hk3.2⟩ S2 (by exact Nat.sub_lt_sub_left glt (Nat.lt_succ_self i))
   exact HT.w
 · rw [List.drop_length, wchk_nil] at h2
   rw [List.drop_length, addT_nil] at h3
   have hlen : l.length = 5 := h4.1
   have gcq := nltI (n := ps.length)
   have ga0 := strP_at (lt_of_ok h4 (k := 0) (by decide))
   have ga1 := strP_at (lt_of_ok h4 (k := 1) (by decide))
   rw [h4.2.2.1] at ga0
   rw [h4.2.2.2] at ga1
   have ga00 : List.take 1 (pls (l.map PL.str)) = [.pl (.str A)] := ga0
   have gA : (∀ b ∈ A, b.toNat < 128) ∧ A.length ≤ 100 + 4 * ps.length := by have := okT_get h4 (k := 0) (by decide); rw [h4.2.2.1] at this; exact this
   have gB : (∀ b ∈ B, b.toNat < 128) ∧ B.length ≤ 100 + 4 * ps.length := by have := okT_get h4 (k := 1) (by decide); rw [h4.2.2.2] at this; exact this
   have tkA := (tokens_w A gA.1 (by omega)).told
   have tkB := (tokens_w B gB.1 (by omega)).told

   have F0 := And.intro gcq <| And.intro hlen <| And.intro ga0 <| And.intro ga00 <| And.intro ga1 <| And.intro hbs <| F0
   refine sr_k fun zK zhK => ?_
   simp only [go_sem, F0]
   repeat' (first | apply And.intro | intro _)
   refine zhK _ ?_
   refine seq_k fun zN zM zhN zhM => ?_
   (refine condF_k ?_ ?_; focus (first | rfl | (simp [go_sem, F0]; done)))
   refine exit_k ?_
   refine zhM _ _ ?_; clear zhN zhM
   refine zhM _ _ ?_; clear zhN zhM
   refine zbx _ ?_; clear zbn zbx zbr zbi
   refine zhN _ ?_; clear zhN zhM
   refine sd_k (id := 21) [65, 66, 67, 68, 69, 70, 71, 72, 73, 74, 75, 76, 77, 78, 12] [0, 0, 2, 0, 0, 16, 48, 112, 0, 256, 768, 2032, 4080, 8191, 0, 32767] [] mixed (by kernel_rfl) (by simp only [go_sem]) fun zK zhK => ?_
   simp only [go_sem, F0]
   repeat' (first | apply And.intro | intro _)
   all_goals (refine call_drawh false (fun k => k) (.w (.one (.pl (rowP (tokL A))))) [] (fun _ _ => rfl) ?_ ?_ ?_ tkA ?_ ?_; (iterate 2 (focus (first | rfl | (simp only [go_sem, F0] <;> first | done | rfl | simp)))); (first | kernel_rfl | rfl | simp [fixO, fixL, pls]))
   all_goals try (refine And.intro ?_ (And.intro ?_ (And.intro ?_ ?_)) <;> (first | rfl | (simp only [go_sem, F0]; done) | (simp [go_sem, look, F0]; done)))
   all_goals (try simp only [go_sem, F0])
   all_goals (try simp only [go_sem, F0])
   all_goals repeat' (first | apply And.intro | intro _)
   all_goals (refine call_drawh false (fun k => k) (.w (.one (.pl (rowP (tokL B))))) [] (fun _ _ => rfl) ?_ ?_ ?_ tkB ?_ ?_; (iterate 2 (focus (first | rfl | (simp only [go_sem, F0] <;> first | done | rfl | simp)))); (first | kernel_rfl | rfl | simp [fixO, fixL, pls]))
   all_goals try (refine And.intro ?_ (And.intro ?_ (And.intro ?_ ?_)) <;> (first | rfl | (simp only [go_sem, F0]; done) | (simp [go_sem, look, F0]; done)))
   all_goals (try simp only [go_sem, F0])
   all_goals (try simp only [go_sem, F0])
   all_goals repeat' (first | apply And.intro | intro _)
   refine zhK _ _ trivial ?_
   refine seq_k fun zN zM zhN zhM => ?_
   refine sr_k fun zK zhK => ?_
   simp only [go_sem, F0]
   repeat' (first | apply And.intro | intro _)
   refine zhK _ ?_
   refine block_k fun zB zbn zbx zbr zbi => ?_
   refine loop_k (fun y => [(82, .w (.one (.pl (.i ((y.1.1 : Nat) : Int)))))]) (fun y => (12, ⟨false, [.pl (.str bs), .pl (.b lt), .pl (.R ex 1 (iRows ps)), .pl (rowP (tokL A)), .pl (rowP (tokL B)), tLf 91 y.1.2]⟩) :: tMf 91 y.1.2) (fun y => 3 - y.1.1) (⟨(0, []), Nat.zero_le _, rfl⟩ : {y : Nat × List (List Int) // y.1 ≤ 3 ∧ y.2 = ((l.drop 2).take y.1).map tokL}) ?_ ?_ ?_
   · (simp only [go_sem, leX, List.cons_append, List.nil_append, F0]; try simp)
   · (simp only [go_sem, leX, List.cons_append, List.nil_append, F0]; try simp)
   intro zz zN zM zhN zhM
   simp only [List.cons_append, List.nil_append]
   have yN1 := zhN
   obtain ⟨⟨j, ds⟩, k1, k2⟩ := zz
   simp only at k1 k2
   have hd1 : (j < 3 ∧ ds = []) ∨ (j < 3 ∧ ds ≠ []) ∨ j = 3 := by by_cases ds = [] <;> simp_all <;> omega
   rcases hd1 with ⟨jlt, rfl⟩ | ⟨jlt, hne⟩ | rfl
   · have gcq1 : (j : Int) < 3 := by omega
     have gj1 := Int.natCast_nonneg j
     have gaj := strP_at (lt_of_ok h4 (k := j + 2) (by omega))
     have gaj2 : List.take 1 (List.drop (2 + j) (pls (l.map PL.str))) = [.pl (.str (l.getD (j + 2) []))] := by rw [Nat.add_comm]; exact gaj
     have gaj3 := (sub_at (X := pls (l.map PL.str)) (k := 2) jlt).trans gaj2
     have gtk := okT_get h4 (k := j + 2) (by omega)
     have tkJ := (tokens_w (l.getD (j + 2) []) gtk.1 (by omega)).told
     have gj4 : j + 1 ≤ 3 := jlt
     have gdl := done_len k2 hlen k1
     have gcap : (j + 1) * 8 ≤ 140737488355328 := by omega
     have gcap24 : (j + 1) * 24 ≤ 140737488355328 := by omega
     have gjs : Go.RowKit.wrap64 ((j : Int) + 1) = ((j + 1 : Nat) : Int) := wnat (by omega) (by omega)

     have F0 := And.intro gcq1 <| And.intro gj1 <| And.intro gjs <| And.intro gaj <| And.intro gaj2 <| And.intro gaj3 <| And.intro gj4 <| And.intro gcap <| And.intro gcap24 <| And.intro tL_nil <| And.intro tM_nil <| And.intro tL_one <| And.intro tM_one <| And.intro plsL_nil <| And.intro flatPL_nil <| F0
     refine sr_k fun zK zhK => ?_
     simp only [go_sem, F0]
     repeat' (first | apply And.intro | intro _)
     refine zhK _ ?_
     refine seq_k fun zN zM zhN zhM => ?_
     (refine condT_k ?_ ?_; focus (first | rfl | (simp [go_sem, F0]; done)))
     refine skip_k ?_
     refine zhN _ ?_; clear zhN zhM
     refine seq_k fun zN zM zhN zhM => ?_
     refine block_k fun zB zbn zbx zbr zbi => ?_
     refine sr_k fun zK zhK => ?_
     simp only [go_sem, F0]
     repeat' (first | apply And.intro | intro _)
     refine zhK _ ?_
     refine draw_k (id := 25) [86, 87, 88, 89, 90, 91, 92] [0, 1, 0, 4, 12, 31, 63, 127] [] mixed (by kernel_rfl) (by simp only [go_sem]) fun zK zhK => ?_
     simp only [go_sem, F0]
     repeat' (first | apply And.intro | intro _)
     all_goals (refine call_drawh false (fun k => k) (.w (.one (.pl (rowP (tokL (l.getD (j + 2) [])))))) [] (fun _ _ => rfl) ?_ ?_ ?_ tkJ ?_ ?_; (iterate 2 (focus (first | rfl | (simp only [go_sem, F0] <;> first | done | rfl | simp)))); (first | kernel_rfl | rfl | simp [fixO, fixL, pls]))
     all_goals try (refine And.intro ?_ (And.intro ?_ (And.intro ?_ ?_)) <;> (first | rfl | (simp only [go_sem, F0]; done) | (simp [go_sem, look, F0]; done)))
     all_goals (try simp only [go_sem, F0])
     all_goals (try simp only [go_sem, F0])
     all_goals repeat' (first | apply And.intro | intro _)
     refine zhK _ _ trivial ?_
     refine zbn _ ?_; clear zbn zbx zbr zbi
     refine zhN _ ?_; clear zhN zhM
     refine region_k fun zK zhK => ?_
     simp only [go_sem, F0]
     repeat' (first | apply And.intro | intro _)
     refine zhK _ ?_
     refine zhN ⟨(j + 1, [tokL (l.getD (j + 2) [])]), jlt, done_snoc k2 hlen jlt⟩ _ ?_ ?_ ?_
     · exact Nat.sub_lt_sub_left jlt (Nat.lt_succ_self j)
     · (simp only [go_sem, leX, List.cons_append, List.nil_append, F0]; try simp)
     · (simp only [go_sem, leX, List.cons_append, List.nil_append, F0]; try simp)
   · have gcq1 : (j : Int) < 3 := by omega
     have gj1 := Int.natCast_nonneg j
     have gaj := strP_at (lt_of_ok h4 (k := j + 2) (by omega))
     have gaj2 : List.take 1 (List.drop (2 + j) (pls (l.map PL.str))) = [.pl (.str (l.getD (j + 2) []))] := by rw [Nat.add_comm]; exact gaj
     have gaj3 := (sub_at (X := pls (l.map PL.str)) (k := 2) jlt).trans gaj2
     have gtk := okT_get h4 (k := j + 2) (by omega)
     have tkJ := (tokens_w (l.getD (j + 2) []) gtk.1 (by omega)).told
     have gj4 : j + 1 ≤ 3 := jlt
     have gdl := done_len k2 hlen k1
     have gcap : (j + 1) * 8 ≤ 140737488355328 := by omega
     have gcap24 : (j + 1) * 24 ≤ 140737488355328 := by omega
     have gjs : Go.RowKit.wrap64 ((j : Int) + 1) = ((j + 1 : Nat) : Int) := wnat (by omega) (by omega)
     have hv := tL_own (nm := 91) hne
     have hm := tM_own (nm := 91) hne

     have F0 := And.intro gcq1 <| And.intro gj1 <| And.intro gjs <| And.intro gaj <| And.intro gaj2 <| And.intro gaj3 <| And.intro gj4 <| And.intro gcap <| And.intro gcap24 <| And.intro hv <| And.intro hm <| And.intro gdl <| And.intro rowP_len <| And.intro tL_snoc <| And.intro tM_snoc <| F0
     refine sr_k fun zK zhK => ?_
     simp only [go_sem, F0]
     repeat' (first | apply And.intro | intro _)
     refine zhK _ ?_
     refine seq_k fun zN zM zhN zhM => ?_
     (refine condT_k ?_ ?_; focus (first | rfl | (simp [go_sem, F0]; done)))
     refine skip_k ?_
     refine zhN _ ?_; clear zhN zhM
     refine seq_k fun zN zM zhN zhM => ?_
     refine block_k fun zB zbn zbx zbr zbi => ?_
     refine sr_k fun zK zhK => ?_
     simp only [go_sem, F0]
     repeat' (first | apply And.intro | intro _)
     refine zhK _ ?_
     refine draw_k (id := 25) [86, 87, 88, 89, 90, 92] [0, 1, 0, 4, 12, 31, 63, 127] [] mixed (by kernel_rfl) (by simp only [go_sem]) fun zK zhK => ?_
     simp only [go_sem, F0]
     repeat' (first | apply And.intro | intro _)
     all_goals (refine call_drawh false (fun k => k) (.w (.one (.pl (rowP (tokL (l.getD (j + 2) [])))))) [] (fun _ _ => rfl) ?_ ?_ ?_ tkJ ?_ ?_; (iterate 2 (focus (first | rfl | (simp only [go_sem, F0] <;> first | done | rfl | simp)))); (first | kernel_rfl | rfl | simp [fixO, fixL, pls]))
     all_goals try (refine And.intro ?_ (And.intro ?_ (And.intro ?_ ?_)) <;> (first | rfl | (simp only [go_sem, F0]; done) | (simp [go_sem, look, F0]; done)))
     all_goals (try simp only [go_sem, F0])
     all_goals (try simp only [go_sem, F0])
     all_goals repeat' (first | apply And.intro | intro _)
     refine zhK _ _ trivial ?_
     refine zbn _ ?_; clear zbn zbx zbr zbi
     refine zhN _ ?_; clear zhN zhM
     refine region_k fun zK zhK => ?_
     simp only [go_sem, F0]
     repeat' (first | apply And.intro | intro _)
     refine zhK _ ?_
     refine zhN ⟨(j + 1, ds ++ [tokL (l.getD (j + 2) [])]), jlt, done_snoc k2 hlen jlt⟩ _ ?_ ?_ ?_
     · exact Nat.sub_lt_sub_left jlt (Nat.lt_succ_self j)
     · (simp only [go_sem, leX, List.cons_append, List.nil_append, F0]; try simp)
     · (simp only [go_sem, leX, List.cons_append, List.nil_append, F0]; try simp)
   · have gcq1 : ¬ (3 : Int) < 3 := by decide
     have hne : ds ≠ [] := fun e => by have := done_len k2 hlen k1; rw [e] at this; cases this
     have gdl := done_len k2 hlen k1
     have hv := tL_own (nm := 91) hne
     have hm := tM_own (nm := 91) hne
     have hds : ds = (l.drop 2).map tokL := by rw [k2, List.take_of_length_le (by rw [List.length_drop]; omega)]
     have zE := fun (m : List (Nat × Ob)) (hm : look m 91 = some ⟨true, pls (ds.map rowP)⟩) => rwV_ok (bs := bs) (lt := lt) (ps := ps) (ex := ex) (nm := 91) (by decide) h2.symm h3 h4.2.2.1 h4.2.2.2 hds (n := 3) gdl.symm hm

     have F0 := And.intro gcq1 <| And.intro hv <| And.intro hm <| And.intro gdl <| And.intro rowP_len <| F0
     exact HT.w
end Go.Sy

