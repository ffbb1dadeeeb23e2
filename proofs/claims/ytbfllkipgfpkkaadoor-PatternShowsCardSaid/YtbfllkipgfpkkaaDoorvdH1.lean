/- Walks: are two lists the same, by the library. -/
import Derived.Test.YtbfllkipgfpkkaaDoorvdF6
set_option linter.unusedVariables false
set_option linter.unusedSimpArgs false
namespace Go.Sy
open Go.Proofs
attribute [local irreducible] atCall HT runOps runD onC onE onO onG goV goA goS onSt onGuard
set_option maxHeartbeats 400000 in
theorem eq_len (a b : List Int) (ex ex2 : Bool) (hb : b.length ≤ 1000000) (hn : ¬ a.length = b.length) :
 Ct Tryd.prog 23 [.w (.one (.pl (.R ex 1 (iRows a)))), .w (.one (.pl (.R ex2 1 (iRows b))))] (fun v m => v = .w (.one (.pl (.b false)))) := by
 have hni := int_ne hn
 have F0 := And.intro iRows_length <| hni
 exact Ct.w Tryd.func23 rfl Tryd.ntmps23 Tryd.results23
set_option maxHeartbeats 400000 in
theorem eq_eq (a b : List Int) (ex ex2 : Bool) (hb : b.length ≤ 1000000) (hn : a.length = b.length) :
 Ct Tryd.prog 23 [.w (.one (.pl (.R ex 1 (iRows a)))), .w (.one (.pl (.R ex2 1 (iRows b))))] (fun v m => v = .w (.one (.pl (.b (decide (a = b)))))) := by
 have F0 := And.intro iRows_length <| hn
 refine Ct.k Tryd.func23 rfl Tryd.ntmps23 (congrArg Array.toList Tryd.results23) (by simp) fun w0 ro => ?_
 refine top_k fun zZ zhZ => ?_
 iterate 12 first
  | (refine sr_k fun zK zhK => ?_; simp only [go_sem, F0]; (repeat' (first | apply And.intro | intro _)))
  | refine zhK _ ?_
  | refine skip_k ?_
  | (refine zhN _ ?_; clear zhN zhM)
  | refine block_k fun zB zbn zbx zbr zbi => ?_
  | refine seq_k fun zN zM zhN zhM => ?_
  | (refine condF_k ?_ ?_; focus (first | rfl | (simp [go_sem, F0]; done)))
 refine loop_k (fun y => [(13, .w (.one (.pl (.i ((y.1 : Nat) : Int)))))]) (fun _ => []) (fun y => a.length - y.1) (⟨0, Nat.zero_le _, rfl⟩ : {y : Nat // y ≤ a.length ∧ decide (a.drop y = b.drop y) = decide (a = b)}) ?_ ?_ ?_
 · (simp only [go_sem, leX, List.cons_append, List.nil_append, F0]; try simp)
 · (simp only [go_sem, leX, List.cons_append, List.nil_append, F0]; try simp)
 intro yy zN zM zhN zhM
 simp only [List.cons_append, List.nil_append]
 have yN0 := zhN
 obtain ⟨j, h1, h2⟩ := yy
 have hd : (j < a.length ∧ ¬ a.getD j 0 = b.getD j 0) ∨ (j < a.length ∧ a.getD j 0 = b.getD j 0) ∨ j = a.length := by omega
 rcases hd with ⟨glt, hx⟩ | ⟨glt, hx⟩ | rfl
 · have gcq := ltI glt
   have gj := Int.natCast_nonneg j
   have glt2 : j < b.length := hn ▸ glt
   have gcq2 := ltI glt2
   have ga := iRows_get glt
   have gb := iRows_get glt2
   have gs1 := wsucc glt2 hb
   rw [decide_eq_false (drop_ne glt glt2 hx)] at h2
   have zE : V.w (.one (.pl (.b false))) = V.w (.one (.pl (.b (decide (a = b))))) := by rw [← h2]

   have F0 := And.intro gcq <| And.intro gj <| And.intro glt <| And.intro glt2 <| And.intro gcq2 <| And.intro ga <| And.intro gb <| And.intro gs1 <| And.intro hx <| F0
   iterate 22 first
    | (refine sr_k fun zK zhK => ?_; simp only [go_sem, F0]; (repeat' (first | apply And.intro | intro _)))
    | refine zhK _ ?_
    | (refine zhM _ _ ?_; clear zhN zhM)
    | (refine zbr _ ?_; clear zbn zbx zbr zbi)
    | refine skip_k ?_
    | (refine zhN _ ?_; clear zhN zhM)
    | refine block_k fun zB zbn zbx zbr zbi => ?_
    | (refine sd_k (id := 6) [16, 17, 18, 19, 20, 21, 22, 23, 24] [0, 0, 3, 7, 0, 0, 48, 112, 255] [] mixed (by kernel_rfl) (by simp only [go_sem]) fun zK zhK => ?_; simp only [go_sem, F0]; (repeat' (first | apply And.intro | intro _)))
    | refine zhK _ _ trivial ?_
    | refine ret_k ?_
    | (refine zhZ _ _ ?_; simp only [go_sem, F0]; (all_goals (first | rfl | exact zE | (rw [zE]; done))))
    | refine seq_k fun zN zM zhN zhM => ?_
    | (refine condT_k ?_ ?_; focus (first | rfl | (simp [go_sem, F0]; done)))
 · have gcq := ltI glt
   have gj := Int.natCast_nonneg j
   have glt2 : j < b.length := hn ▸ glt
   have gcq2 := ltI glt2
   have ga := iRows_get glt
   have gb := iRows_get glt2
   have gs1 := wsucc glt2 hb
   rw [decide_eq_decide.mpr (drop_step glt glt2 hx)] at h2

   have F0 := And.intro gcq <| And.intro gj <| And.intro glt <| And.intro glt2 <| And.intro gcq2 <| And.intro ga <| And.intro gb <| And.intro gs1 <| And.intro hx <| F0
   iterate 18 first
    | refine zhK _ ?_
    | (refine sr_k fun zK zhK => ?_; simp only [go_sem, F0]; (repeat' (first | apply And.intro | intro _)))
    | refine skip_k ?_
    | (refine zhN _ ?_; clear zhN zhM)
    | refine block_k fun zB zbn zbx zbr zbi => ?_
    | (refine sd_k (id := 6) [16, 17, 18, 19, 20, 21, 22, 23, 24] [0, 0, 3, 7, 0, 0, 48, 112, 255] [] mixed (by kernel_rfl) (by simp only [go_sem]) fun zK zhK => ?_; simp only [go_sem, F0]; (repeat' (first | apply And.intro | intro _)))
    | refine zhK _ _ trivial ?_
    | (refine zbn _ ?_; clear zbn zbx zbr zbi)
    | (refine region_k fun zK zhK => ?_; simp only [go_sem, F0]; (repeat' (first | apply And.intro | intro _)))
    | refine seq_k fun zN zM zhN zhM => ?_
    | (refine condT_k ?_ ?_; focus (first | rfl | (simp [go_sem, F0]; done)))
    | (refine condF_k ?_ ?_; focus (first | rfl | (simp [go_sem, F0]; done)))
   refine zhN ⟨j + 1, glt, h2⟩ _ ?_ ?_ ?_
   · exact Nat.sub_lt_sub_left glt (Nat.lt_succ_self j)
   · (simp only [go_sem, leX, List.cons_append, List.nil_append, F0]; try simp)
   · (simp only [go_sem, leX, List.cons_append, List.nil_append, F0]; try simp)
 · have gcq := nltI (n := b.length)
   rw [List.drop_length, hn, List.drop_length, decide_eq_true rfl] at h2
   have zE : V.w (.one (.pl (.b true))) = V.w (.one (.pl (.b (decide (a = b))))) := by rw [← h2]

   have F0 := And.intro gcq <| F0
   exact HT.w
theorem eqs_ (a b : List Int) (ex ex2 : Bool) (hb : b.length ≤ 1000000) (r : Bool) (hr : decide (a = b) = r) : Ct Tryd.prog 23 [.w (.one (.pl (.R ex 1 (iRows a)))), .w (.one (.pl (.R ex2 1 (iRows b))))] (fun v m => v = .w (.one (.pl (.b r)))) := by
 subst hr
 by_cases hn : a.length = b.length
 · exact eq_eq a b ex ex2 hb hn
 · rw [decide_eq_false fun (e : a = b) => hn (e ▸ rfl)]; exact eq_len a b ex ex2 hb hn
theorem eqs_f (a b : List Int) (ex ex2 : Bool) (hb : b.length ≤ 1000000) (r : Bool) (hr : decide (a = b) = r) : CtM Tryd.prog 23 ([.w (.one (.pl (.R ex 1 (iRows a)))), .w (.one (.pl (.R ex2 1 (iRows b))))] ++ ([] : List Nat).map fun k => V.w (.one (.p k []))) [] (fun v m => v = .w (.one (.pl (.b r))) ∧ m = []) := ((eqs_ a b ex ex2 hb r hr).plain fun _ _ h => h).hands
set_option maxHeartbeats 400000 in
theorem eqf_len (ts ts' : List (Bool × List Int)) (te te' : Bool) (hts : ts'.length ≤ 1000000) (htl : ∀ t ∈ ts', t.2.length ≤ 1000000) (hn : ¬ ts.length = ts'.length) :
 Ct Tryd.prog 22 [.w (.one (.pl (.R te 1 (rT ts)))), .w (.one (.pl (.R te' 1 (rT ts')))), .w (.one (.fn 23 []))] (fun v m => v = .w (.one (.pl (.b false)))) := by
 have hni := int_ne hn
 have F0 := And.intro rT_length <| hni
 exact Ct.w Tryd.func22 rfl Tryd.ntmps22 Tryd.results22
set_option maxHeartbeats 400000 in
theorem eqf_eq (ts ts' : List (Bool × List Int)) (te te' : Bool) (hts : ts'.length ≤ 1000000) (htl : ∀ t ∈ ts', t.2.length ≤ 1000000) (hn : ts.length = ts'.length) :
 Ct Tryd.prog 22 [.w (.one (.pl (.R te 1 (rT ts)))), .w (.one (.pl (.R te' 1 (rT ts')))), .w (.one (.fn 23 []))] (fun v m => v = .w (.one (.pl (.b (decide (ts.map Prod.snd = ts'.map Prod.snd)))))) := by
 have F0 := And.intro rT_length <| And.intro hn <| rI_def
 refine Ct.k Tryd.func22 rfl Tryd.ntmps22 (congrArg Array.toList Tryd.results22) (by simp) fun w0 ro => ?_
 refine top_k fun zZ zhZ => ?_
 iterate 12 first
  | (refine sr_k fun zK zhK => ?_; simp only [go_sem, F0]; (repeat' (first | apply And.intro | intro _)))
  | refine zhK _ ?_
  | refine skip_k ?_
  | (refine zhN _ ?_; clear zhN zhM)
  | refine block_k fun zB zbn zbx zbr zbi => ?_
  | refine seq_k fun zN zM zhN zhM => ?_
  | (refine condF_k ?_ ?_; focus (first | rfl | (simp [go_sem, F0]; done)))
 refine loop_k (fun y => [(17, .w (.one (.pl (.i ((y.1 : Nat) : Int)))))]) (fun _ => []) (fun y => ts.length - y.1) (⟨0, Nat.zero_le _, rfl⟩ : {y : Nat // y ≤ ts.length ∧ decide ((ts.map Prod.snd).drop y = (ts'.map Prod.snd).drop y) = decide (ts.map Prod.snd = ts'.map Prod.snd)}) ?_ ?_ ?_
 · (simp only [go_sem, leX, List.cons_append, List.nil_append, F0]; try simp)
 · (simp only [go_sem, leX, List.cons_append, List.nil_append, F0]; try simp)
 intro yy zN zM zhN zhM
 simp only [List.cons_append, List.nil_append]
 have yN0 := zhN
 obtain ⟨j, h1, h2⟩ := yy
 have hd : (j < ts.length ∧ ¬ (ts.map Prod.snd).getD j [] = (ts'.map Prod.snd).getD j []) ∨ (j < ts.length ∧ (ts.map Prod.snd).getD j [] = (ts'.map Prod.snd).getD j []) ∨ j = ts.length := by
  rcases Nat.lt_or_ge j ts.length with h | h
  · by_cases he : (ts.map Prod.snd).getD j [] = (ts'.map Prod.snd).getD j []
    · exact .inr (.inl ⟨h, he⟩)
    · exact .inl ⟨h, he⟩
  · exact .inr (.inr (Nat.le_antisymm h1 h))
 rcases hd with ⟨glt, hq⟩ | ⟨glt, hq⟩ | rfl
 · have gcq := ltI glt
   have gj := Int.natCast_nonneg j
   have glt2 : j < ts'.length := hn ▸ glt
   have gcq2 := ltI glt2
   have ga := rT_get glt
   have gb := rT_get glt2
   have gs1 := wsucc glt2 hts
   obtain ⟨x, hx⟩ : ∃ x, ts.getD j (true, []) = x := ⟨_, rfl⟩
   obtain ⟨z, hz⟩ : ∃ z, ts'.getD j (true, []) = z := ⟨_, rfl⟩
   have hm1 : j < (ts.map Prod.snd).length := by rw [List.length_map]; exact glt
   have hm2 : j < (ts'.map Prod.snd).length := by rw [List.length_map]; exact glt2
   have hzl : z.2.length ≤ 1000000 := htl z (hz ▸ by simp [List.getD, List.getElem?_eq_getElem glt2])
   rw [hx] at ga
   rw [hz] at gb
   have hq0 := hq
   rw [getD_snd, getD_snd, hx, hz] at hq
   rw [decide_eq_false (drop_ne hm1 hm2 hq0)] at h2
   have zE : V.w (.one (.pl (.b false))) = V.w (.one (.pl (.b (decide (ts.map Prod.snd = ts'.map Prod.snd))))) := by rw [← h2]

   have F0 := And.intro gcq <| And.intro gj <| And.intro glt <| And.intro glt2 <| And.intro gcq2 <| And.intro ga <| And.intro gb <| And.intro gs1 <| F0
   have cf0 := eqs_f x.2 z.2 x.1 z.1 hzl false (decide_eq_false hq)
   have cg0 := CF.mk [] []
   exact HT.w
 · have gcq := ltI glt
   have gj := Int.natCast_nonneg j
   have glt2 : j < ts'.length := hn ▸ glt
   have gcq2 := ltI glt2
   have ga := rT_get glt
   have gb := rT_get glt2
   have gs1 := wsucc glt2 hts
   obtain ⟨x, hx⟩ : ∃ x, ts.getD j (true, []) = x := ⟨_, rfl⟩
   obtain ⟨z, hz⟩ : ∃ z, ts'.getD j (true, []) = z := ⟨_, rfl⟩
   have hm1 : j < (ts.map Prod.snd).length := by rw [List.length_map]; exact glt
   have hm2 : j < (ts'.map Prod.snd).length := by rw [List.length_map]; exact glt2
   have hzl : z.2.length ≤ 1000000 := htl z (hz ▸ by simp [List.getD, List.getElem?_eq_getElem glt2])
   rw [hx] at ga
   rw [hz] at gb
   have hq0 := hq
   rw [getD_snd, getD_snd, hx, hz] at hq
   rw [show decide ((ts.map Prod.snd).drop j = (ts'.map Prod.snd).drop j) = decide ((ts.map Prod.snd).drop (j + 1) = (ts'.map Prod.snd).drop (j + 1)) from decide_eq_decide.mpr (drop_step hm1 hm2 hq0)] at h2

   have F0 := And.intro gcq <| And.intro gj <| And.intro glt <| And.intro glt2 <| And.intro gcq2 <| And.intro ga <| And.intro gb <| And.intro gs1 <| F0
   have cf0 := eqs_f x.2 z.2 x.1 z.1 hzl true (decide_eq_true hq)
   have cg0 := CF.mk [] []
   have zL := fun S2 => yN0 ⟨j + 1, glt, h2⟩ S2 (by exact Nat.sub_lt_sub_left glt (Nat.lt_succ_self j))
   exact HT.w
 · have gcq := nltI (n := ts'.length)
   rw [List.drop_of_length_le (by simp), List.drop_of_length_le (by simp [hn]), decide_eq_true rfl] at h2
   have zE : V.w (.one (.pl (.b true))) = V.w (.one (.pl (.b (decide (ts.map Prod.snd = ts'.map Prod.snd))))) := by rw [← h2]

   have F0 := And.intro gcq <| F0
   exact HT.w
theorem eqf_ (ts ts' : List (Bool × List Int)) (te te' : Bool) (hts : ts'.length ≤ 1000000) (htl : ∀ t ∈ ts', t.2.length ≤ 1000000) (r : Bool) (hr : decide (ts.map Prod.snd = ts'.map Prod.snd) = r) : Ct Tryd.prog 22 [.w (.one (.pl (.R te 1 (rT ts)))), .w (.one (.pl (.R te' 1 (rT ts')))), .w (.one (.fn 23 []))] (fun v m => v = .w (.one (.pl (.b r)))) := by
 subst hr
 by_cases hn : ts.length = ts'.length
 · exact eqf_eq ts ts' te te' hts htl hn
 · rw [decide_eq_false fun (e : ts.map Prod.snd = ts'.map Prod.snd) => hn (by have := congrArg List.length e; simpa using this)]; exact eqf_len ts ts' te te' hts htl hn
end Go.Sy

