/- Walks: what a handshake tells, as the document says it. -/
import Derived.Test.YtbfllkipgfpkkaavtVE
import Derived.Test.YtbfllkipgfpkkaavE3
set_option linter.unusedVariables false
set_option linter.unusedSimpArgs false
namespace Go.Sy
open Go.Proofs
attribute [local irreducible] atCall HT runOps runD onC onE onO onG goV goA goS onSt onGuard
@[go_sem] theorem zc67 : zeroC Try.prog 67 = some (L.pl (.val .nilFunc) :: []) := by kernel_rfl
def rM (s : TelS) : List (Nat × Ob) := (5, ⟨false, [.s 29 [] s.mx.length 4]⟩) :: (29, ⟨true, pls (termRows s.mx).flatten⟩) :: (6, ⟨false, [.fn 40 [5]]⟩) :: (7, ⟨false, [outL 111 s.out]⟩) :: outM 111 s.out
theorem rM_nil {s : TelS} (h : s.out = []) : rM s = [(5, ⟨false, [.s 29 [] s.mx.length 4]⟩), (29, ⟨true, pls (termRows s.mx).flatten⟩), (6, ⟨false, [.fn 40 [5]]⟩), (7, ⟨false, [.pl (.R true 1 [])]⟩)] := by
 rw [rM, h]; rfl
theorem rM_own {s : TelS} (h : s.out ≠ []) : rM s = [(5, ⟨false, [.s 29 [] s.mx.length 4]⟩), (29, ⟨true, pls (termRows s.mx).flatten⟩), (6, ⟨false, [.fn 40 [5]]⟩), (7, ⟨false, [.s 111 [] s.out.length 4]⟩), (111, ⟨true, pls (termRows s.out).flatten⟩)] := by
 rw [rM, outL_own h, outM_own h]
def rN (mx : List TermD) : List (Nat × Ob) := [(5, ⟨false, [.s 29 [] mx.length 4]⟩), (29, ⟨true, pls (termRows mx).flatten⟩), (6, ⟨false, [.fn 40 [5]]⟩), (7, ⟨false, [.pl (.R true 1 [])]⟩)]
theorem rN_start : rN [] = [(5, ⟨false, [.s 29 [] 0 4]⟩), (29, ⟨true, []⟩), (6, ⟨false, [.fn 40 [5]]⟩), (7, ⟨false, [.pl (.R true 1 [])]⟩)] := rfl
theorem rM_rN (mx : List TermD) : rM ⟨mx, 0, []⟩ = rN mx := rfl
theorem token_mx (pk : Bool) (w : Int) (s : TelS) (t : Int) : (s.token pk w t).mx.length ≤ s.mx.length + 1 := by
 unfold TelS.token
 split
 · simp only; split <;> simp [TelS.mix]
 · split
   · simp [TelS.tell]
   · repeat' (first | split | (simp [TelS.mix]; done))
theorem tell_mx (s : TelS) (t : TermD) : (s.tell t).mx = s.mx := rfl
theorem All2.split_ {α β : Type} {R : α → β → Prop} : ∀ {l l' : List α} {m : List β}, All2 R (l ++ l') m → ∃ m1 m2, m = m1 ++ m2 ∧ All2 R l m1 ∧ All2 R l' m2
 | [], _, m, h => ⟨[], m, rfl, .nil, h⟩
 | a :: l, l', _, .cons h hs => by
  obtain ⟨m1, m2, rfl, h1, h2⟩ := All2.split_ (l := l) hs
  exact ⟨_ :: m1, m2, rfl, .cons h h1, h2⟩
theorem leaf_den (c : List L) (k i o : Int) (d : Va) (vals : List Value) (h : All2 (L.den d) (c ++ [.pl (.i k), .pl (.i i), .pl (.i o), .pl (.R true 1 [])]) vals) : All2 (L.den d) (c ++ pls (TermD.mk k i o []).cells) vals := by
 obtain ⟨m1, m2, rfl, h1, h2⟩ := All2.split_ h
 refine h1.append ?_
 have e : pls (TermD.mk k i o []).cells = [.pl (.i k), .pl (.i i), .pl (.i o), .pl (.R false 4 [])] := by rw [TermD.cells, termRows]; rfl
 rw [e]
 cases h2 with
 | cons h1 h2 => cases h2 with
  | cons h3 h2 => cases h2 with
   | cons h4 h2 => cases h2 with
    | cons h5 h2 => exact .cons h1 (.cons h3 (.cons h4 (.cons (den_nil h5) h2)))
theorem w3 {w : Int} (h : 0 ≤ w ∧ w ≤ 1) : Go.RowKit.wrap64 (3 + w) = 3 + w := w64 (by omega)
theorem w1 {w : Int} (h : 0 ≤ w ∧ w ≤ 1) : Go.RowKit.wrap64 (1 + w) = 1 + w := w64 (by omega)
theorem w10 {q : Nat} (h : q ≤ 1000) : Go.RowKit.wrap64 (10 + (q : Int)) = 10 + (q : Int) := w64 (by omega)
theorem wS {q : Nat} (h : q ≤ 1000) : Go.RowKit.wrap64 ((q : Int) + 1) = ((q + 1 : Nat) : Int) := wnat (by omega) (by omega)
theorem cap4 {n : Nat} (h : n ≤ 1000000) : (n + 1) * 48 ≤ 140737488355328 := by omega
theorem flat_one (x : TermD) : (termRows [x]).flatten = x.cells := by simp [termRows]
theorem four_succ (n : Nat) : (n + 1) * 4 = n * 4 + 4 := by omega
theorem i_lt_succ (n : Nat) : ((n : Nat) : Int) < ((n + 1 : Nat) : Int) := by omega
theorem bnd3 {a s j n : Nat} (h1 : a ≤ s + j) (h2 : j ≤ n) (h3 : n ≤ 6) (h4 : s ≤ 6) : a ≤ 1000000 := by omega
theorem bnd6 {a s j n i t : Nat} (h1 : a ≤ s + j) (h2 : j ≤ n) (h3 : n ≤ 6) (h4 : s ≤ 12 + 6 * i) (h5 : i < t) (h6 : t ≤ 5) : a ≤ 1000000 := by omega
theorem bnd7 {a q s n i : Nat} (h0 : a = q) (h1 : q ≤ s + n) (h3 : n ≤ 6) (h4 : s ≤ 12 + 6 * i) : a ≤ 12 + 6 * (i + 1) := by omega
theorem tok_pre (pk wb : Bool) (s0 s : TelS) {S' : TelS} {l : List Int} {x : Int} {i j t : Nat} (hx : l.getD j 0 = x) (glt : j < l.length) (hl : l.length ≤ 6) (g4 : TelS.turn pk (whoI wb) s (l.drop j) = S') (g5 : s.out.length ≤ s0.out.length + j) (g6 : s.ps ≤ s0.ps + j) (g7 : s.mx.length ≤ s0.mx.length + j) (h5 : s0.out.length ≤ 7 * i) (h6 : s0.ps ≤ 6 * i) (h8 : s0.mx.length ≤ 12 + 6 * i) (hlt : i < t) (ht : t ≤ 5) :
 ((j : Nat) : Int) < ((l.length : Nat) : Int) ∧ (0 : Int) ≤ (j : Int) ∧ (iRows l).getD j [] = [.i x] ∧ Go.RowKit.wrap64 ((j : Int) + 1) = ((j + 1 : Nat) : Int) ∧ TelS.turn pk (whoI wb) (s.token pk (whoI wb) x) (l.drop (j + 1)) = S' ∧ s.out.length ≤ 1000000 ∧ s.ps ≤ 1000 ∧ s.mx.length ≤ 1000000 ∧ (s.token pk (whoI wb) x).out.length ≤ s0.out.length + (j + 1) ∧ (s.token pk (whoI wb) x).ps ≤ s0.ps + (j + 1) ∧ (s.token pk (whoI wb) x).mx.length ≤ s0.mx.length + (j + 1) := by
 rw [drop_getD (z := 0) glt, TelS.turn, hx] at g4
 refine ⟨ltI' glt, iInt j, hx ▸ iRows_get glt, wsucc' glt (Nat.le_trans hl (by decide)), g4, bnd1 g5 (Nat.le_of_lt glt) hl h5 hlt ht, bnd2 g6 (Nat.le_of_lt glt) hl h6 hlt ht, bnd6 g7 (Nat.le_of_lt glt) hl h8 hlt ht, Nat.le_trans (token_out _ _ _ _) (Nat.succ_le_succ g5), Nat.le_trans (token_ps _ _ _ _) (Nat.succ_le_succ g6), Nat.le_trans (token_mx _ _ _ _) (Nat.succ_le_succ g7)⟩
theorem look_rM1 (s : TelS) (r : List (Nat × Ob)) : look (rM s ++ r) 1 = look r 1 := by
 by_cases h : s.out = []
 · rw [rM_nil h]; simp [look]
 · rw [rM_own h]; simp [look]
theorem bnd8 {a s n : Nat} (h1 : a ≤ s + n) (h3 : n ≤ 6) (h4 : s ≤ 6) : a ≤ 12 := by omega
set_option maxHeartbeats 400000 in
theorem rtold_bad (bs : List UInt8) (lt : Bool) (ps : List (List PL)) (p0 p1 : List Int) (ts : List (List Int)) (e : Int) (he : ¬ e = 0) (hC : Ct Try.prog 8 [.w (.agg (patC bs lt ps p0 p1 ts))] (fun v m => v = .w (.one (.pl (.i e))))) :
 Ct Try.prog 12 [.w (.agg (patC bs lt ps p0 p1 ts))] (Told (fun v m => v = .tup [.one (.pl (.R true 1 [])), .one (.pl (.i e))] ∧ m = [])) := by
 skip
 have F0 := And.intro patC.eq_1 <| he
 have cv0 := Ct.cv (hC)
 exact Ct.w Try.func12 rfl Try.ntmps12 Try.results12
set_option maxHeartbeats 400000 in
theorem rtold_many (bs : List UInt8) (lt : Bool) (ps : List (List PL)) (p0 p1 : List Int) (ts : List (List Int)) (hps : (4 : Int) < ((ps.length : Nat) : Int)) (hC : Ct Try.prog 8 [.w (.agg (patC bs lt ps p0 p1 ts))] (fun v m => v = .w (.one (.pl (.i 0))))) :
 Ct Try.prog 12 [.w (.agg (patC bs lt ps p0 p1 ts))] (Told (fun v m => v = .tup [.one (.pl (.R true 1 [])), .one (.pl (.i 1))] ∧ m = [])) := by
 skip
 have F0 := And.intro patC.eq_1 <| hps
 have cv0 := Ct.cv (hC)
 exact Ct.w Try.func12 rfl Try.ntmps12 Try.results12
set_option maxHeartbeats 3200000 in
set_option maxRecDepth 100000 in
theorem rtold_ok (bs : List UInt8) (lt : Bool) (ps : List (List PL)) (p0 p1 : List Int) (ts : List (List Int)) (pk : Bool) (hpk : decide ((0 : Int) < ((ps.length : Nat) : Int)) = pk) (hps : ¬ (4 : Int) < ((ps.length : Nat) : Int)) (ht5 : 1 ≤ ts.length ∧ ts.length ≤ 5) (hrng : ∀ l ∈ p0 :: p1 :: ts, scan1 l = 0 ∧ l.length ≤ 6) (hC : Ct Try.prog 8 [.w (.agg (patC bs lt ps p0 p1 ts))] (fun v m => v = .w (.one (.pl (.i 0))))) :
 Ct Try.prog 12 [.w (.agg (patC bs lt ps p0 p1 ts))] (Told (fun v m => v = .tup [.one (.pl (.R false 4 (termRows (telOf lt pk p0 p1 ts).out))), .one (.pl (.i 0))] ∧ m = [])) := by
 have hts : ts.length ≤ 1000000 := by omega
 have hsz0 : 0 < ts.length := by omega
 have F0 := And.intro patC.eq_1 <| And.intro iRows_length <| And.intro tRows_length <| And.intro appL_assoc <| And.intro lit_term <| And.intro cells_len <| And.intro pls_len <| And.intro pls_has <| And.intro tflat_length <| And.intro leavesIn_pls <| And.intro leavesIn_pseg <| And.intro leafOut_pls <| And.intro killL_pls <| And.intro renL_pls <| And.intro four_succ <| And.intro i_lt_succ <| And.intro drop4 <| And.intro appL_nil <| And.intro flat_one <| hps
 have cv0 := Ct.cv (hC)
 refine Ct.k Try.func12 rfl Try.ntmps12 (congrArg Array.toList Try.results12) (by simp) fun w0 ro => ?_
 refine top_k fun zZ zhZ => ?_
 iterate 72 first
  | refine rnd_k fun zN zM zhN zhM => ?_
  | (refine zhN _ ?_; clear zhN zhM)
  | (refine region_k fun zK zhK => ?_; simp only [go_sem, F0]; (repeat' (first | apply And.intro | intro _)))
  | refine zhK _ ?_
  | refine skip_k ?_
  | refine block_k fun zB zbn zbx zbr zbi => ?_
  | refine rounds_k (x := .seq (.region 12 _ _) _) 3 ?_
  | ((all_goals (refine call_view (fun k => k) (fun _ _ => rfl) ?_ cv0 ?_; focus (first | rfl | (simp only [go_sem, F0] <;> rfl)))); (all_goals (rintro v m ⟨hR, hm⟩; subst hR; subst hm)); (all_goals refine And.intro (by first | rfl | simp only [go_sem, F0]) (And.intro (by first | rfl | simp only [go_sem, F0]) ?_)); (all_goals simp only [go_sem, F0]); (all_goals repeat' (first | apply And.intro | intro _)))
  | refine seq_k fun zN zM zhN zhM => ?_
  | (refine condF_k ?_ ?_; focus (first | rfl | (simp [go_sem, F0]; done)))
  | (refine condT_k ?_ ?_; focus (first | rfl | (simp [go_sem, F0]; done)))
 refine loop_b [(32, .w (.one (.pl (.i 0)))), (10, .w (.one (.pl (.i 0)))), (38, .w (.one (.pl (.R false 1 (iRows p0))))), (39, .w (.one (.pl (.i ((p0.length : Nat) : Int))))), (9, .w (.one (.pl (.i 0)))), (1, .w (.one (.p 1 []))), (5, .w (.one (.p 5 []))), (7, .w (.one (.p 7 []))), (8, .w (.one (.fn 42 [5, 6, 7])))] [(1, ⟨false, patC bs lt ps p0 p1 ts⟩)] (fun y => [(40, .w (.one (.pl (.i ((y.1.1 : Nat) : Int)))))]) (fun y => rN y.1.2) (fun y => p0.length - y.1.1) (⟨(0, []), Nat.zero_le _, rfl, Nat.le_refl _⟩ : {y : Nat × List TermD // y.1 ≤ p0.length ∧ preX pk 0 y.2 (p0.drop y.1) = preX pk 0 [] p0 ∧ y.2.length ≤ ([] : List TermD).length + y.1}) ?_ ?_ ?_
 · (simp only [go_sem, leX, List.cons_append, List.nil_append, F0]; try simp)
 · (simp only [go_sem, leX, rN_start, List.cons_append, List.nil_append, F0]; try simp)
 intro zz zN zM zhN zhM
 simp only [List.cons_append, List.nil_append]
 have yN0 := zhN
 obtain ⟨⟨j, q0⟩, g1, g4, g5⟩ := zz
 simp only at g1 g4 g5
 have hd : (j < p0.length ∧ p0.getD j 0 = 1 ∧ pk = true) ∨ (j < p0.length ∧ p0.getD j 0 = 1 ∧ pk = false) ∨ (j < p0.length ∧ ¬ p0.getD j 0 = 1) ∨ j = p0.length := by
  by_cases h : j < p0.length
  · by_cases h2 : p0.getD j 0 = 1
    · rcases Bool.eq_false_or_eq_true pk with hb | hb
      · exact .inl ⟨h, h2, hb⟩
      · exact .inr (.inl ⟨h, h2, hb⟩)
    · exact .inr (.inr (.inl ⟨h, h2⟩))
  · exact .inr (.inr (.inr (Nat.le_antisymm g1 (Nat.le_of_not_lt h))))
 rcases hd with ⟨glt, hx, hb⟩ | ⟨glt, hx, hb⟩ | ⟨glt, hx⟩ | rfl
 · have gcq := ltI' glt
   have gj := iInt j
   have gg := iRows_get glt
   rw [drop_getD (z := 0) glt, preX] at g4
   simp only [Int.reduceAdd, Int.add_zero] at g4
   have gs1 := wsucc' glt (Nat.le_trans (hrng p0 (by simp)).2 (by decide))
   rw [if_pos ⟨hx, hb⟩] at g4
   rw [hx] at gg
   have hq : (0 : Int) < ((ps.length : Nat) : Int) := of_decide_eq_true (hpk.trans hb)
   have hn := bnd3 g5 (Nat.le_of_lt glt) (hrng p0 (by simp)).2 (Nat.zero_le 6)
   have hn1 := cap4 hn
   have hi0 := iInt q0.length
   have F0 := And.intro gcq <| And.intro gj <| And.intro glt <| And.intro gg <| And.intro gs1 <| And.intro hq <| And.intro hn1 <| And.intro hi0 <| And.intro rN.eq_1 <| And.intro flat_snoc <| F0
   iterate 24 first
    | (refine zhN _ ?_; clear zhN zhM)
    | (refine region_k fun zK zhK => ?_; simp only [go_sem, F0]; (repeat' (first | apply And.intro | intro _)))
    | refine zhK _ ?_
    | refine skip_k ?_
    | refine block_k fun zB zbn zbx zbr zbi => ?_
    | (refine zbn _ ?_; clear zbn zbx zbr zbi)
    | (refine dr_k (id := 18) mixed fun zE zhE => ?_; refine dr_piece_k (p := 0) 6 [52, 53, 54, 55, 56, 57] [0, 0, 2, 6, 1, 0, 63, 127, 255, 127] [] rfl (by kernel_rfl) rfl (by simp only [go_sem]) fun zR zK zhR zhK => ?_; simp only [go_sem, F0]; (repeat' (first | apply And.intro | intro _)); (all_goals (refine call_drawh false (fun k => k) (argT (pubT 3)) [] (fun _ _ => rfl) ?_ ?_ ?_ ((pubof_ 3).plain fun _ _ h => h).hands ?_ ?_; (iterate 2 (focus (first | rfl | (simp only [go_sem, F0] <;> first | done | rfl | simp)))); (first | kernel_rfl | rfl | simp [fixO, fixL, pls]))); (all_goals try (refine And.intro ?_ (And.intro ?_ (And.intro ?_ ?_)) <;> (first | rfl | (simp only [go_sem, F0]; done) | (simp [go_sem, look, F0]; done)))); (all_goals (try simp only [go_sem, F0])); (all_goals (try simp only [go_sem, F0])); (all_goals repeat' (first | apply And.intro | intro _)); refine zhK _ _ trivial (zhR _ ?_); refine dr_runs_k 1 7 rfl (by kernel_rfl) rfl rfl fun zR zhR => ?_; simp only [go_sem, F0]; (repeat' (first | apply And.intro | intro _)); refine zhR _ ?_; refine dr_piece_k (p := 7) 10 [59] [0, 0, 2, 6, 1, 0, 63, 127, 255, 127] [(0, 2), (1, 2)] rfl (by kernel_rfl) rfl (by simp only [go_sem]) fun zR zK zhR zhK => ?_; simp only [go_sem, F0]; (repeat' (first | apply And.intro | intro _)); refine zhK _ _ ?_ (zhR _ ?_); (focus (first | trivial | (simp only [go_sem]; done) | (simp only [go_sem]; simp; done) | (simp only [go_sem]; simp; simp only [go_sem]))); refine dr_end rfl (zhE _ ?_))
    | refine seq_k fun zN zM zhN zhM => ?_
    | (refine condT_k ?_ ?_; focus (first | rfl | (simp [go_sem, F0]; done)))
   refine zhN ⟨(j + 1, q0 ++ [(pubT 3)]), glt, g4, by rw [List.length_append]; exact Nat.succ_le_succ g5⟩ _ ?_ ?_ ?_
   · exact Nat.sub_lt_sub_left glt (Nat.lt_succ_self j)
   · (simp only [go_sem, leX, List.cons_append, List.nil_append, F0]; try simp)
   · (simp only [go_sem, leX, List.cons_append, List.nil_append, F0]; try simp)
 · have gcq := ltI' glt
   have gj := iInt j
   have gg := iRows_get glt
   rw [drop_getD (z := 0) glt, preX] at g4
   simp only [Int.reduceAdd, Int.add_zero] at g4
   have gs1 := wsucc' glt (Nat.le_trans (hrng p0 (by simp)).2 (by decide))
   rw [if_neg (by simp [hb])] at g4
   rw [hx] at gg
   have hq : ¬ (0 : Int) < ((ps.length : Nat) : Int) := of_decide_eq_false (hpk.trans hb)
   have F0 := And.intro gcq <| And.intro gj <| And.intro glt <| And.intro gg <| And.intro gs1 <| And.intro hq <| And.intro rN.eq_1 <| F0
   have zL := fun S2 => yN0 ⟨(j + 1, q0), glt, g4, Nat.le_succ_of_le g5⟩ S2 (by exact Nat.sub_lt_sub_left glt (Nat.lt_succ_self j))
   exact HT.w
 · have gcq := ltI' glt
   have gj := iInt j
   have gg := iRows_get glt
   rw [drop_getD (z := 0) glt, preX] at g4
   simp only [Int.reduceAdd, Int.add_zero] at g4
   have gs1 := wsucc' glt (Nat.le_trans (hrng p0 (by simp)).2 (by decide))
   rw [if_neg (fun h => hx h.1)] at g4
   have F0 := And.intro gcq <| And.intro gj <| And.intro glt <| And.intro gg <| And.intro gs1 <| And.intro hx <| And.intro rN.eq_1 <| F0
   have zL := fun S2 => yN0 ⟨(j + 1, q0), glt, g4, Nat.le_succ_of_le g5⟩ S2 (by exact Nat.sub_lt_sub_left glt (Nat.lt_succ_self j))
   exact HT.w
 · rw [List.drop_length, preX] at g4
   have gcq := nltI' (n := p0.length)
   have hq0 := g4
   have hl0 := Nat.le_trans g5 ((Nat.zero_add p0.length).symm ▸ (hrng p0 (by simp)).2)
   have F0 := And.intro gcq <| And.intro rN.eq_1 <| F0
   iterate 35 first
    | refine rnd_k fun zN zM zhN zhM => ?_
    | (refine zhN _ ?_; clear zhN zhM)
    | (refine region_k fun zK zhK => ?_; simp only [go_sem, F0]; (repeat' (first | apply And.intro | intro _)))
    | refine zhK _ ?_
    | (refine zhM _ _ ?_; clear zhN zhM)
    | refine block_k fun zB zbn zbx zbr zbi => ?_
    | refine exit_k ?_
    | (refine zbx _ ?_; clear zbn zbx zbr zbi)
    | (refine zbn _ ?_; clear zbn zbx zbr zbi)
    | refine skip_k ?_
    | refine seq_k fun zN zM zhN zhM => ?_
    | (refine condF_k ?_ ?_; focus (first | rfl | (simp [go_sem, F0]; done)))
    | (refine condT_k ?_ ?_; focus (first | rfl | (simp [go_sem, F0]; done)))
   refine loop_b [(32, .w (.one (.pl (.i 1)))), (10, .w (.one (.pl (.i 1)))), (38, .w (.one (.pl (.R false 1 (iRows p1))))), (39, .w (.one (.pl (.i ((p1.length : Nat) : Int))))), (9, .w (.one (.pl (.i 0)))), (1, .w (.one (.p 1 []))), (5, .w (.one (.p 5 []))), (7, .w (.one (.p 7 []))), (8, .w (.one (.fn 42 [5, 6, 7])))] [(1, ⟨false, patC bs lt ps p0 p1 ts⟩)] (fun y => [(40, .w (.one (.pl (.i ((y.1.1 : Nat) : Int)))))]) (fun y => rN y.1.2) (fun y => p1.length - y.1.1) (⟨(0, q0), Nat.zero_le _, rfl, Nat.le_refl _⟩ : {y : Nat × List TermD // y.1 ≤ p1.length ∧ preX pk 1 y.2 (p1.drop y.1) = preX pk 1 q0 p1 ∧ y.2.length ≤ (q0 : List TermD).length + y.1}) ?_ ?_ ?_
   · (simp only [go_sem, leX, List.cons_append, List.nil_append, F0]; try simp)
   · (simp only [go_sem, leX, rN.eq_1, List.cons_append, List.nil_append, F0]; try simp)
   intro zz zN zM zhN zhM
   simp only [List.cons_append, List.nil_append]
   have yN1 := zhN
   obtain ⟨⟨j, q1⟩, g1, g4, g5⟩ := zz
   simp only at g1 g4 g5
   have hd : (j < p1.length ∧ p1.getD j 0 = 1 ∧ pk = true) ∨ (j < p1.length ∧ p1.getD j 0 = 1 ∧ pk = false) ∨ (j < p1.length ∧ ¬ p1.getD j 0 = 1) ∨ j = p1.length := by
    by_cases h : j < p1.length
    · by_cases h2 : p1.getD j 0 = 1
      · rcases Bool.eq_false_or_eq_true pk with hb | hb
        · exact .inl ⟨h, h2, hb⟩
        · exact .inr (.inl ⟨h, h2, hb⟩)
      · exact .inr (.inr (.inl ⟨h, h2⟩))
    · exact .inr (.inr (.inr (Nat.le_antisymm g1 (Nat.le_of_not_lt h))))
   rcases hd with ⟨glt, hx, hb⟩ | ⟨glt, hx, hb⟩ | ⟨glt, hx⟩ | rfl
   · have gcq := ltI' glt
     have gj := iInt j
     have gg := iRows_get glt
     rw [drop_getD (z := 0) glt, preX] at g4
     simp only [Int.reduceAdd, Int.add_zero] at g4
     have gs1 := wsucc' glt (Nat.le_trans (hrng p1 (by simp)).2 (by decide))
     rw [if_pos ⟨hx, hb⟩] at g4
     rw [hx] at gg
     have hq : (0 : Int) < ((ps.length : Nat) : Int) := of_decide_eq_true (hpk.trans hb)
     have hn := bnd3 g5 (Nat.le_of_lt glt) (hrng p1 (by simp)).2 hl0
     have hn1 := cap4 hn
     have hi0 := iInt q1.length
     have F0 := And.intro gcq <| And.intro gj <| And.intro glt <| And.intro gg <| And.intro gs1 <| And.intro hq <| And.intro hn1 <| And.intro hi0 <| And.intro rN.eq_1 <| And.intro flat_snoc <| F0
     iterate 24 first
      | (refine zhN _ ?_; clear zhN zhM)
      | (refine region_k fun zK zhK => ?_; simp only [go_sem, F0]; (repeat' (first | apply And.intro | intro _)))
      | refine zhK _ ?_
      | refine skip_k ?_
      | refine block_k fun zB zbn zbx zbr zbi => ?_
      | (refine zbn _ ?_; clear zbn zbx zbr zbi)
      | (refine dr_k (id := 18) mixed fun zE zhE => ?_; refine dr_piece_k (p := 0) 6 [52, 53, 54, 55, 56, 57] [0, 0, 2, 6, 1, 0, 63, 127, 255, 127] [] rfl (by kernel_rfl) rfl (by simp only [go_sem]) fun zR zK zhR zhK => ?_; simp only [go_sem, F0]; (repeat' (first | apply And.intro | intro _)); (all_goals (refine call_drawh false (fun k => k) (argT (pubT 4)) [] (fun _ _ => rfl) ?_ ?_ ?_ ((pubof_ 4).plain fun _ _ h => h).hands ?_ ?_; (iterate 2 (focus (first | rfl | (simp only [go_sem, F0] <;> first | done | rfl | simp)))); (first | kernel_rfl | rfl | simp [fixO, fixL, pls]))); (all_goals try (refine And.intro ?_ (And.intro ?_ (And.intro ?_ ?_)) <;> (first | rfl | (simp only [go_sem, F0]; done) | (simp [go_sem, look, F0]; done)))); (all_goals (try simp only [go_sem, F0])); (all_goals (try simp only [go_sem, F0])); (all_goals repeat' (first | apply And.intro | intro _)); refine zhK _ _ trivial (zhR _ ?_); refine dr_runs_k 1 7 rfl (by kernel_rfl) rfl rfl fun zR zhR => ?_; simp only [go_sem, F0]; (repeat' (first | apply And.intro | intro _)); refine zhR _ ?_; refine dr_piece_k (p := 7) 10 [59] [0, 0, 2, 6, 1, 0, 63, 127, 255, 127] [(0, 2), (1, 2)] rfl (by kernel_rfl) rfl (by simp only [go_sem]) fun zR zK zhR zhK => ?_; simp only [go_sem, F0]; (repeat' (first | apply And.intro | intro _)); refine zhK _ _ ?_ (zhR _ ?_); (focus (first | trivial | (simp only [go_sem]; done) | (simp only [go_sem]; simp; done) | (simp only [go_sem]; simp; simp only [go_sem]))); refine dr_end rfl (zhE _ ?_))
      | refine seq_k fun zN zM zhN zhM => ?_
      | (refine condT_k ?_ ?_; focus (first | rfl | (simp [go_sem, F0]; done)))
     refine zhN ⟨(j + 1, q1 ++ [(pubT 4)]), glt, g4, by rw [List.length_append]; exact Nat.succ_le_succ g5⟩ _ ?_ ?_ ?_
     · exact Nat.sub_lt_sub_left glt (Nat.lt_succ_self j)
     · (simp only [go_sem, leX, List.cons_append, List.nil_append, F0]; try simp)
     · (simp only [go_sem, leX, List.cons_append, List.nil_append, F0]; try simp)
   · have gcq := ltI' glt
     have gj := iInt j
     have gg := iRows_get glt
     rw [drop_getD (z := 0) glt, preX] at g4
     simp only [Int.reduceAdd, Int.add_zero] at g4
     have gs1 := wsucc' glt (Nat.le_trans (hrng p1 (by simp)).2 (by decide))
     rw [if_neg (by simp [hb])] at g4
     rw [hx] at gg
     have hq : ¬ (0 : Int) < ((ps.length : Nat) : Int) := of_decide_eq_false (hpk.trans hb)
     have F0 := And.intro gcq <| And.intro gj <| And.intro glt <| And.intro gg <| And.intro gs1 <| And.intro hq <| And.intro rN.eq_1 <| F0
     have zL := fun S2 => yN1 ⟨(j + 1, q1), glt, g4, Nat.le_succ_of_le g5⟩ S2 (by exact Nat.sub_lt_sub_left glt (Nat.lt_succ_self j))
     exact HT.w
   · have gcq := ltI' glt
     have gj := iInt j
     have gg := iRows_get glt
     rw [drop_getD (z := 0) glt, preX] at g4
     simp only [Int.reduceAdd, Int.add_zero] at g4
     have gs1 := wsucc' glt (Nat.le_trans (hrng p1 (by simp)).2 (by decide))
     rw [if_neg (fun h => hx h.1)] at g4
     have F0 := And.intro gcq <| And.intro gj <| And.intro glt <| And.intro gg <| And.intro gs1 <| And.intro hx <| And.intro rN.eq_1 <| F0
     have zL := fun S2 => yN1 ⟨(j + 1, q1), glt, g4, Nat.le_succ_of_le g5⟩ S2 (by exact Nat.sub_lt_sub_left glt (Nat.lt_succ_self j))
     exact HT.w
   · rw [List.drop_length, preX] at g4
     have gcq := nltI' (n := p1.length)
     have hq1 := g4
     have hl1 := bnd8 g5 (hrng p1 (by simp)).2 hl0
     have F0 := And.intro gcq <| And.intro rN.eq_1 <| F0
     iterate 33 first
      | refine rnd_k fun zN zM zhN zhM => ?_
      | (refine zhN _ ?_; clear zhN zhM)
      | (refine region_k fun zK zhK => ?_; simp only [go_sem, F0]; (repeat' (first | apply And.intro | intro _)))
      | refine zhK _ ?_
      | (refine zhM _ _ ?_; clear zhN zhM)
      | refine exit_k ?_
      | (refine zbx _ ?_; clear zbn zbx zbr zbi)
      | (refine zbn _ ?_; clear zbn zbx zbr zbi)
      | refine block_k fun zB zbn zbx zbr zbi => ?_
      | refine seq_k fun zN zM zhN zhM => ?_
      | (refine condF_k ?_ ?_; focus (first | rfl | (simp [go_sem, F0]; done)))
     refine loop_b [(63, .w (.one (.pl (.R false 1 (tRows ts))))), (64, .w (.one (.pl (.i ((ts.length : Nat) : Int))))), (1, .w (.one (.p 1 []))), (5, .w (.one (.p 5 []))), (7, .w (.one (.p 7 []))), (8, .w (.one (.fn 42 [5, 6, 7])))] [(1, ⟨false, patC bs lt ps p0 p1 ts⟩)] (fun y => [(65, .w (.one (.pl (.i ((y.1.1 : Nat) : Int))))), (9, .w (.one (.pl (.i ((y.1.2.ps : Nat) : Int)))))]) (fun y => rM y.1.2) (fun y => ts.length - y.1.1) (⟨(0, ⟨q1, 0, []⟩), Nat.zero_le _, rfl, Nat.zero_le _, Nat.zero_le _, hl1, fun h => absurd h (Nat.lt_irrefl 0)⟩ : {y : Nat × TelS // y.1 ≤ ts.length ∧ telTurns lt pk y.1 y.2 (ts.drop y.1) = telTurns lt pk 0 ⟨q1, 0, []⟩ ts ∧ y.2.out.length ≤ 7 * y.1 ∧ y.2.ps ≤ 6 * y.1 ∧ y.2.mx.length ≤ 12 + 6 * y.1 ∧ (0 < y.1 → y.2.out ≠ [])}) ?_ ?_ ?_
     · (simp only [go_sem, leX, List.cons_append, List.nil_append, F0]; try simp)
     · (simp only [go_sem, leX, rM_rN, rN.eq_1, List.cons_append, List.nil_append, F0]; try simp)
     intro yy zN zM zhN zhM
     simp only [List.cons_append, List.nil_append]
     have yN2 := zhN
     obtain ⟨⟨i, s⟩, h1, h4, h5, h6, h8, h7⟩ := yy
     simp only at h1 h4 h5 h6 h7 h8
     rcases Nat.lt_or_eq_of_le h1 with hlt | rfl
     all_goals try have hs := h7 hsz0
     · have hcq := ltI' hlt
       have hi0 := iInt i
       have hg := tRows_get hlt
       obtain ⟨l, hl⟩ : ∃ l, ts.getD i [] = l := ⟨_, rfl⟩
       have hlm : l ∈ ts := hl ▸ getD_mem' hlt
       have hlr := hrng l (by simp [hlm])
       obtain ⟨wb, hwb⟩ : ∃ wb, whoT lt i = wb := ⟨_, rfl⟩
       rw [drop_getD (z := []) hlt, telTurns, hl, hwb] at h4
       rw [hl] at hg
       have hs1 := wsucc' hlt hts
       have hw20 : Go.RowKit.wrap64 (20 + (i : Int)) = 20 + (i : Int) := w20 hlt hts
       have F0 := And.intro hcq <| And.intro hi0 <| And.intro hlt <| And.intro hg <| And.intro hs1 <| And.intro hw20 <| And.intro look_rM1 <| F0
       iterate 18 first
        | (refine zhN _ ?_; clear zhN zhM)
        | (refine region_k fun zK zhK => ?_; simp only [go_sem, F0]; (repeat' (first | apply And.intro | intro _)))
        | refine zhK _ ?_
        | refine skip_k ?_
        | refine block_k fun zB zbn zbx zbr zbi => ?_
        | refine seq_k fun zN zM zhN zhM => ?_
        | (refine condT_k ?_ ?_; focus (first | rfl | (simp [go_sem, F0]; done)))
       refine join_l (fun w => [(15, .w (.one (.pl (.i (whoI w)))))]) (fun _ => []) (fun w => whoT lt i = w) (fun zN zM zhN zhM => ?_) (fun wc hwc => ?_)
       · rcases lt with _ | _
         · have hw1 := who_f i
           have F0 := And.intro hw1 <| And.intro ((leX_self (α := Ob))) <| F0
           have zL := fun S2 => zhN (whoT false i) rfl S2
           exact HT.w
         · have hw1 := who_t i
           have hw2 := who_2 (whoT true i)
           have F0 := And.intro hw1 <| And.intro hw2 <| And.intro ((leX_self (α := Ob))) <| F0
           have zL := fun S2 => zhN (whoT true i) rfl S2
           exact HT.w
       · rw [hwb] at hwc
         subst hwc
         refine seq_k fun zN zM zhN zhM => ?_
         refine seq_k fun zN zM zhN zhM => ?_
         refine region_k fun zK zhK => ?_
         simp only [go_sem, F0]
         repeat' (first | apply And.intro | intro _)
         refine zhK _ ?_
         refine zhN _ ?_; clear zhN zhM
         refine block_k fun zB zbn zbx zbr zbi => ?_
         refine loop_b [(65, .w (.one (.pl (.i ((i : Nat) : Int))))), (13, .w (.one (.pl (.i ((i : Nat) : Int))))), (15, .w (.one (.pl (.i (whoI wb))))), (76, .w (.one (.pl (.R false 1 (iRows l))))), (77, .w (.one (.pl (.i ((l.length : Nat) : Int))))), (63, .w (.one (.pl (.R false 1 (tRows ts))))), (64, .w (.one (.pl (.i ((ts.length : Nat) : Int))))), (1, .w (.one (.p 1 []))), (5, .w (.one (.p 5 []))), (7, .w (.one (.p 7 []))), (8, .w (.one (.fn 42 [5, 6, 7])))] [(1, ⟨false, patC bs lt ps p0 p1 ts⟩)] (fun y => [(78, .w (.one (.pl (.i ((y.1.1 : Nat) : Int))))), (9, .w (.one (.pl (.i ((y.1.2.ps : Nat) : Int)))))]) (fun y => rM y.1.2) (fun y => l.length - y.1.1) (⟨(0, s), Nat.zero_le _, rfl, Nat.le_refl _, Nat.le_refl _, Nat.le_refl _⟩ : {y : Nat × TelS // y.1 ≤ l.length ∧ TelS.turn pk (whoI wb) y.2 (l.drop y.1) = TelS.turn pk (whoI wb) s l ∧ y.2.out.length ≤ s.out.length + y.1 ∧ y.2.ps ≤ s.ps + y.1 ∧ y.2.mx.length ≤ s.mx.length + y.1}) ?_ ?_ ?_
         · (simp only [go_sem, leX, List.cons_append, List.nil_append, F0]; try simp)
         · (first | exact leX_self _ | (simp only [go_sem, F0]; exact leX_self _))
         intro zz zN zM zhN zhM
         simp only [List.cons_append, List.nil_append]
         have yN3 := zhN
         obtain ⟨⟨j, mx, qs, out⟩, g1, g4, g5, g6, g7⟩ := zz
         simp only at g1 g4 g5 g6 g7
         have hd : (j < l.length ∧ ((l.getD j 0 = 1 ∧ pk = true) ∨ (l.getD j 0 = 1 ∧ pk = false) ∨ (l.getD j 0 = 2) ∨ (l.getD j 0 = 7) ∨ (l.getD j 0 = 3) ∨ (l.getD j 0 = 4) ∨ (l.getD j 0 = 5) ∨ (l.getD j 0 = 6))) ∨ j = l.length := by
          rcases Nat.lt_or_eq_of_le g1 with h | h
          · refine .inl ⟨h, ?_⟩
            have hxr := scan1_ok hlr.1 (l.getD j 0) (getD_mem' h)
            rcases Bool.eq_false_or_eq_true pk with hb | hb
            all_goals (simp only [hb, and_true, and_false]; simp only [Bool.true_eq_false, Bool.false_eq_true, and_false, or_false, false_or]; omega)
          · exact .inr h
         by_cases hn : out = []
         all_goals rcases hd with ⟨glt, ⟨hx, hb⟩ | ⟨hx, hb⟩ | hx | hx | hx | hx | hx | hx⟩ | rfl
         · obtain ⟨gcq, gj, gg, gs1, g4, hno, hnp, hnm, k1, k2, k5⟩ := tok_pre pk wb s ⟨mx, qs, out⟩ hx glt hlr.2 g4 g5 g6 g7 h5 h6 h8 hlt ht5.2
           have hM := rM_nil (s := ⟨mx, qs, out⟩) hn
           have hn0 : out = [] := hn
           subst hn0
           have hqk : (0 : Int) < ((ps.length : Nat) : Int) := of_decide_eq_true (hpk.trans hb)
           subst hb
           have hw3 : Go.RowKit.wrap64 (3 + whoI wb) = 3 + whoI wb := w3 (who_rng wb)
           have hm1 := cap4 hnm
           have hm0 := iInt mx.length
           have e : TelS.token true (whoI wb) ⟨mx, qs, []⟩ 1 = ⟨mx ++ [(pubT (3 + whoI wb))], qs, [(pubT (3 + whoI wb))]⟩ := rfl
           rw [e] at g4 k1 k2 k5
           have hE := rM_own (s := ⟨mx ++ [(pubT (3 + whoI wb))], qs, [(pubT (3 + whoI wb))]⟩) (by simp)

           have F0 := And.intro gcq <| And.intro gj <| And.intro glt <| And.intro gg <| And.intro gs1 <| And.intro hM <| And.intro hqk <| And.intro hw3 <| And.intro hm1 <| And.intro hm0 <| And.intro hE <| And.intro flat_snoc <| F0
           iterate 38 first
            | (refine zhN _ ?_; clear zhN zhM)
            | (refine region_k fun zK zhK => ?_; simp only [go_sem, F0]; (repeat' (first | apply And.intro | intro _)))
            | refine zhK _ ?_
            | refine block_k fun zB zbn zbx zbr zbi => ?_
            | (refine zbn _ ?_; clear zbn zbx zbr zbi)
            | refine skip_k ?_
            | (refine dr_k (id := 35) mixed fun zE zhE => ?_; refine dr_piece_k (p := 0) 6 [105, 106, 107, 108, 109, 110] [0, 0, 2, 6, 1, 0, 63, 127, 255, 127] [] rfl (by kernel_rfl) rfl (by simp only [go_sem]) fun zR zK zhR zhK => ?_; simp only [go_sem, F0]; (repeat' (first | apply And.intro | intro _)); (all_goals (refine call_drawh false (fun k => k) (argT (pubT (3 + whoI wb))) [] (fun _ _ => rfl) ?_ ?_ ?_ ((pubof_ (3 + whoI wb)).plain fun _ _ h => h).hands ?_ ?_; (iterate 2 (focus (first | rfl | (simp only [go_sem, F0] <;> first | done | rfl | simp)))); (first | kernel_rfl | rfl | simp [fixO, fixL, pls]))); (all_goals try (refine And.intro ?_ (And.intro ?_ (And.intro ?_ ?_)) <;> (first | rfl | (simp only [go_sem, F0]; done) | (simp [go_sem, look, F0]; done)))); (all_goals (try simp only [go_sem, F0])); (all_goals (try simp only [go_sem, F0])); (all_goals repeat' (first | apply And.intro | intro _)); refine zhK _ _ trivial (zhR _ ?_); refine dr_runs_k 1 7 rfl (by kernel_rfl) rfl rfl fun zR zhR => ?_; simp only [go_sem, F0]; (repeat' (first | apply And.intro | intro _)); refine zhR _ ?_; refine dr_piece_k (p := 7) 10 [112] [0, 0, 2, 6, 1, 0, 63, 127, 255, 127] [(0, 2), (1, 2)] rfl (by kernel_rfl) rfl (by simp only [go_sem]) fun zR zK zhR zhK => ?_; simp only [go_sem, F0]; (repeat' (first | apply And.intro | intro _)); refine zhK _ _ ?_ (zhR _ ?_); (focus (first | trivial | (simp only [go_sem]; done) | (simp only [go_sem]; simp; done) | (simp only [go_sem]; simp; simp only [go_sem]))); refine dr_end rfl (zhE _ ?_))
            | (refine dr_k (id := 37) mixed fun zE zhE => ?_; refine dr_piece_k (p := 0) 6 [117, 118, 119, 120, 121, 122] [0, 0, 2, 6, 1, 0, 63, 127, 255, 127] [] rfl (by kernel_rfl) rfl (by simp only [go_sem]) fun zR zK zhR zhK => ?_; simp only [go_sem, F0]; (repeat' (first | apply And.intro | intro _)); (all_goals (refine call_drawh false (fun k => k) (argT (pubT (3 + whoI wb))) [] (fun _ _ => rfl) ?_ ?_ ?_ ((pubof_ (3 + whoI wb)).plain fun _ _ h => h).hands ?_ ?_; (iterate 2 (focus (first | rfl | (simp only [go_sem, F0] <;> first | done | rfl | simp)))); (first | kernel_rfl | rfl | simp [fixO, fixL, pls]))); (all_goals try (refine And.intro ?_ (And.intro ?_ (And.intro ?_ ?_)) <;> (first | rfl | (simp only [go_sem, F0]; done) | (simp [go_sem, look, F0]; done)))); (all_goals (try simp only [go_sem, F0])); (all_goals (try simp only [go_sem, F0])); (all_goals repeat' (first | apply And.intro | intro _)); refine zhK _ _ trivial (zhR _ ?_); refine dr_runs_k 1 7 rfl (by kernel_rfl) rfl rfl fun zR zhR => ?_; simp only [go_sem, F0]; (repeat' (first | apply And.intro | intro _)); refine zhR _ ?_; refine dr_piece_k (p := 7) 10 [124] [0, 0, 2, 6, 1, 0, 63, 127, 255, 127] [(0, 2), (1, 2)] rfl (by kernel_rfl) rfl (by simp only [go_sem]) fun zR zK zhR zhK => ?_; simp only [go_sem, F0]; (repeat' (first | apply And.intro | intro _)); refine zhK _ _ ?_ (zhR _ ?_); (focus (first | trivial | (simp only [go_sem]; done) | (simp only [go_sem]; simp; done) | (simp only [go_sem]; simp; simp only [go_sem]))); refine dr_end rfl (zhE _ ?_))
            | refine seq_k fun zN zM zhN zhM => ?_
            | (refine condT_k ?_ ?_; focus (first | rfl | (simp [go_sem, F0]; done)))
           refine zhN ⟨(j + 1, ⟨mx ++ [(pubT (3 + whoI wb))], qs, [(pubT (3 + whoI wb))]⟩), glt, g4, k1, k2, k5⟩ _ ?_ ?_ ?_
           · exact Nat.sub_lt_sub_left glt (Nat.lt_succ_self j)
           · (simp only [go_sem, leX, List.cons_append, List.nil_append, F0]; try simp)
           · (simp only [go_sem, leX, List.cons_append, List.nil_append, F0]; try simp)
         · obtain ⟨gcq, gj, gg, gs1, g4, hno, hnp, hnm, k1, k2, k5⟩ := tok_pre pk wb s ⟨mx, qs, out⟩ hx glt hlr.2 g4 g5 g6 g7 h5 h6 h8 hlt ht5.2
           have hM := rM_nil (s := ⟨mx, qs, out⟩) hn
           have hn0 : out = [] := hn
           subst hn0
           have hqk : ¬ (0 : Int) < ((ps.length : Nat) : Int) := of_decide_eq_false (hpk.trans hb)
           subst hb
           have hw3 : Go.RowKit.wrap64 (3 + whoI wb) = 3 + whoI wb := w3 (who_rng wb)
           have e : TelS.token false (whoI wb) ⟨mx, qs, []⟩ 1 = ⟨mx, qs, [(pubT (3 + whoI wb))]⟩ := rfl
           rw [e] at g4 k1 k2 k5
           have hE := rM_own (s := ⟨mx, qs, [(pubT (3 + whoI wb))]⟩) (by simp)

           have F0 := And.intro gcq <| And.intro gj <| And.intro glt <| And.intro gg <| And.intro gs1 <| And.intro hM <| And.intro hqk <| And.intro hw3 <| And.intro hE <| And.intro flat_snoc <| F0
           iterate 38 first
            | (refine zhN _ ?_; clear zhN zhM)
            | (refine region_k fun zK zhK => ?_; simp only [go_sem, F0]; (repeat' (first | apply And.intro | intro _)))
            | refine zhK _ ?_
            | refine skip_k ?_
            | refine block_k fun zB zbn zbx zbr zbi => ?_
            | (refine zbn _ ?_; clear zbn zbx zbr zbi)
            | (refine dr_k (id := 35) mixed fun zE zhE => ?_; refine dr_piece_k (p := 0) 6 [105, 106, 107, 108, 109, 110] [0, 0, 2, 6, 1, 0, 63, 127, 255, 127] [] rfl (by kernel_rfl) rfl (by simp only [go_sem]) fun zR zK zhR zhK => ?_; simp only [go_sem, F0]; (repeat' (first | apply And.intro | intro _)); (all_goals (refine call_drawh false (fun k => k) (argT (pubT (3 + whoI wb))) [] (fun _ _ => rfl) ?_ ?_ ?_ ((pubof_ (3 + whoI wb)).plain fun _ _ h => h).hands ?_ ?_; (iterate 2 (focus (first | rfl | (simp only [go_sem, F0] <;> first | done | rfl | simp)))); (first | kernel_rfl | rfl | simp [fixO, fixL, pls]))); (all_goals try (refine And.intro ?_ (And.intro ?_ (And.intro ?_ ?_)) <;> (first | rfl | (simp only [go_sem, F0]; done) | (simp [go_sem, look, F0]; done)))); (all_goals (try simp only [go_sem, F0])); (all_goals (try simp only [go_sem, F0])); (all_goals repeat' (first | apply And.intro | intro _)); refine zhK _ _ trivial (zhR _ ?_); refine dr_runs_k 1 7 rfl (by kernel_rfl) rfl rfl fun zR zhR => ?_; simp only [go_sem, F0]; (repeat' (first | apply And.intro | intro _)); refine zhR _ ?_; refine dr_piece_k (p := 7) 10 [112] [0, 0, 2, 6, 1, 0, 63, 127, 255, 127] [(0, 2), (1, 2)] rfl (by kernel_rfl) rfl (by simp only [go_sem]) fun zR zK zhR zhK => ?_; simp only [go_sem, F0]; (repeat' (first | apply And.intro | intro _)); refine zhK _ _ ?_ (zhR _ ?_); (focus (first | trivial | (simp only [go_sem]; done) | (simp only [go_sem]; simp; done) | (simp only [go_sem]; simp; simp only [go_sem]))); refine dr_end rfl (zhE _ ?_))
            | refine seq_k fun zN zM zhN zhM => ?_
            | (refine condT_k ?_ ?_; focus (first | rfl | (simp [go_sem, F0]; done)))
            | (refine condF_k ?_ ?_; focus (first | rfl | (simp [go_sem, F0]; done)))
           refine zhN ⟨(j + 1, ⟨mx, qs, [(pubT (3 + whoI wb))]⟩), glt, g4, k1, k2, k5⟩ _ ?_ ?_ ?_
           · exact Nat.sub_lt_sub_left glt (Nat.lt_succ_self j)
           · (simp only [go_sem, leX, List.cons_append, List.nil_append, F0]; try simp)
           · (simp only [go_sem, leX, List.cons_append, List.nil_append, F0]; try simp)
         · obtain ⟨gcq, gj, gg, gs1, g4, hno, hnp, hnm, k1, k2, k5⟩ := tok_pre pk wb s ⟨mx, qs, out⟩ hx glt hlr.2 g4 g5 g6 g7 h5 h6 h8 hlt ht5.2
           have hM := rM_nil (s := ⟨mx, qs, out⟩) hn
           have hn0 : out = [] := hn
           subst hn0
           have hw3 : Go.RowKit.wrap64 (1 + whoI wb) = 1 + whoI wb := w1 (who_rng wb)
           have ht := rtell_ ⟨mx, qs, []⟩ (pubT (1 + whoI wb)) hnm hno
           have hn2 := tell_ne ⟨mx, qs, []⟩ (pubT (1 + whoI wb))
           rw [show tokN ⟨mx, qs, []⟩ 21 = 21 from if_pos rfl, rtM_nil rfl, rtM_own hn2] at ht
           have e : TelS.token pk (whoI wb) ⟨mx, qs, []⟩ 2 = (TelS.tell ⟨mx, qs, []⟩ (pubT (1 + whoI wb))) := rfl
           rw [e] at g4 k1 k2 k5
           have hE := rM_own (s := (TelS.tell ⟨mx, qs, []⟩ (pubT (1 + whoI wb)))) (by exact hn2)

           have F0 := And.intro gcq <| And.intro gj <| And.intro glt <| And.intro gg <| And.intro gs1 <| And.intro hM <| And.intro hw3 <| And.intro hE <| And.intro tell_ps <| F0
           iterate 38 first
            | (refine region_k fun zK zhK => ?_; simp only [go_sem, F0]; (repeat' (first | apply And.intro | intro _)))
            | refine zhK _ ?_
            | (refine zhN _ ?_; clear zhN zhM)
            | refine block_k fun zB zbn zbx zbr zbi => ?_
            | (refine zbn _ ?_; clear zbn zbx zbr zbi)
            | refine skip_k ?_
            | ((all_goals (refine call_hand false [] (fun k => k) (fun _ _ => rfl) ?_ (by decide) ?_ ((pubof_ (1 + whoI wb)).plain fun _ _ h => h).hands ?_; iterate 2 (focus (first | rfl | (simp only [go_sem, F0] <;> first | done | rfl | simp))))); (all_goals (rintro v m ⟨hR, hm⟩; subst hR; subst hm)); (all_goals (refine And.intro ?_ (And.intro ?_ (And.intro ?_ ?_)); iterate 3 (focus (first | rfl | (simp only [go_sem, F0]; done) | (simp [go_sem, look, F0]; done))))); (all_goals (try simp only [go_sem, F0])); (all_goals (try simp only [go_sem, F0])); (all_goals repeat' (first | apply And.intro | intro _)))
            | ((all_goals (refine call_fn (caps := [5, 6, 7]) (ks := [500000, 500002, 500003]) (vs := [argT (pubT (1 + whoI wb))]) false [(500000, 5), (500001, 29), (500002, 6), (500003, 7)] (fun k => if k = 21 then 111 else k) ?_ ?_ (fun _ _ => rfl) ?_ (by decide) ?_ ht ?_; iterate 4 (focus (first | rfl | (simp only [go_sem, F0] <;> first | done | rfl | simp))))); (all_goals (rintro v m ⟨hR, hm⟩; subst hR; subst hm)); (all_goals (refine And.intro ?_ (And.intro ?_ (And.intro ?_ ?_)); iterate 3 (focus (first | rfl | (simp only [go_sem, F0]; done) | (simp [go_sem, look, F0]; done))))); (all_goals (try simp only [go_sem, F0])); (all_goals (try simp only [go_sem, F0])); (all_goals repeat' (first | apply And.intro | intro _)))
            | refine seq_k fun zN zM zhN zhM => ?_
            | (refine condT_k ?_ ?_; focus (first | rfl | (simp [go_sem, F0]; done)))
            | (refine condF_k ?_ ?_; focus (first | rfl | (simp [go_sem, F0]; done)))
           refine zhN ⟨(j + 1, (TelS.tell ⟨mx, qs, []⟩ (pubT (1 + whoI wb)))), glt, g4, k1, k2, k5⟩ _ ?_ ?_ ?_
           · exact Nat.sub_lt_sub_left glt (Nat.lt_succ_self j)
           · (simp only [go_sem, leX, List.cons_append, List.nil_append, F0]; try simp)
           · (simp only [go_sem, leX, List.cons_append, List.nil_append, F0]; try simp)
         · obtain ⟨gcq, gj, gg, gs1, g4, hno, hnp, hnm, k1, k2, k5⟩ := tok_pre pk wb s ⟨mx, qs, out⟩ hx glt hlr.2 g4 g5 g6 g7 h5 h6 h8 hlt ht5.2
           have hM := rM_nil (s := ⟨mx, qs, out⟩) hn
           have hn0 : out = [] := hn
           subst hn0
           have hm1 := cap4 hnm
           have hm0 := iInt mx.length
           have hp1 : Go.RowKit.wrap64 (10 + (qs : Int)) = 10 + (qs : Int) := w10 hnp
           have hp2 : Go.RowKit.wrap64 ((qs : Int) + 1) = ((qs + 1 : Nat) : Int) := wS hnp
           have e : TelS.token pk (whoI wb) ⟨mx, qs, []⟩ 7 = ⟨mx ++ [(atomT (10 + (qs : Int)))], qs + 1, []⟩ := rfl
           rw [e] at g4 k1 k2 k5
           have hE := rM_nil (s := ⟨mx ++ [(atomT (10 + (qs : Int)))], qs + 1, []⟩) rfl

           have F0 := And.intro gcq <| And.intro gj <| And.intro glt <| And.intro gg <| And.intro gs1 <| And.intro hM <| And.intro hm1 <| And.intro hm0 <| And.intro hp1 <| And.intro hp2 <| And.intro hE <| And.intro flat_snoc <| F0
           iterate 44 first
            | (refine zhN _ ?_; clear zhN zhM)
            | (refine region_k fun zK zhK => ?_; simp only [go_sem, F0]; (repeat' (first | apply And.intro | intro _)))
            | refine zhK _ ?_
            | refine block_k fun zB zbn zbx zbr zbi => ?_
            | (refine zbn _ ?_; clear zbn zbx zbr zbi)
            | refine skip_k ?_
            | (refine dr_k (id := 41) mixed fun zE zhE => ?_; refine dr_piece_k (p := 0) 6 [134, 135, 136, 137, 138, 139] [0, 0, 2, 6, 1, 0, 63, 127, 255, 127] [] rfl (by kernel_rfl) rfl (by simp only [go_sem]) fun zR zK zhR zhK => ?_; simp only [go_sem, F0]; (repeat' (first | apply And.intro | intro _)); (all_goals (refine call_drawh false (fun k => k) (argT (atomT (10 + (qs : Int)))) [] (fun _ _ => rfl) ?_ ?_ ?_ ((atomof_ (10 + (qs : Int))).plain fun _ _ h => h).hands ?_ ?_; (iterate 2 (focus (first | rfl | (simp only [go_sem, F0] <;> first | done | rfl | simp)))); (first | kernel_rfl | rfl | simp [fixO, fixL, pls]))); (all_goals try (refine And.intro ?_ (And.intro ?_ (And.intro ?_ ?_)) <;> (first | rfl | (simp only [go_sem, F0]; done) | (simp [go_sem, look, F0]; done)))); (all_goals (try simp only [go_sem, F0])); (all_goals (try simp only [go_sem, F0])); (all_goals repeat' (first | apply And.intro | intro _)); refine zhK _ _ trivial (zhR _ ?_); refine dr_runs_k 1 7 rfl (by kernel_rfl) rfl rfl fun zR zhR => ?_; simp only [go_sem, F0]; (repeat' (first | apply And.intro | intro _)); refine zhR _ ?_; refine dr_piece_k (p := 7) 10 [141] [0, 0, 2, 6, 1, 0, 63, 127, 255, 127] [(0, 2), (1, 2)] rfl (by kernel_rfl) rfl (by simp only [go_sem]) fun zR zK zhR zhK => ?_; simp only [go_sem, F0]; (repeat' (first | apply And.intro | intro _)); refine zhK _ _ ?_ (zhR _ ?_); (focus (first | trivial | (simp only [go_sem]; done) | (simp only [go_sem]; simp; done) | (simp only [go_sem]; simp; simp only [go_sem]))); refine dr_end rfl (zhE _ ?_))
            | refine seq_k fun zN zM zhN zhM => ?_
            | (refine condT_k ?_ ?_; focus (first | rfl | (simp [go_sem, F0]; done)))
            | (refine condF_k ?_ ?_; focus (first | rfl | (simp [go_sem, F0]; done)))
           refine zhN ⟨(j + 1, ⟨mx ++ [(atomT (10 + (qs : Int)))], qs + 1, []⟩), glt, g4, k1, k2, k5⟩ _ ?_ ?_ ?_
           · exact Nat.sub_lt_sub_left glt (Nat.lt_succ_self j)
           · (simp only [go_sem, leX, List.cons_append, List.nil_append, F0]; try simp)
           · (simp only [go_sem, leX, List.cons_append, List.nil_append, F0]; try simp)
         · obtain ⟨gcq, gj, gg, gs1, g4, hno, hnp, hnm, k1, k2, k5⟩ := tok_pre pk wb s ⟨mx, qs, out⟩ hx glt hlr.2 g4 g5 g6 g7 h5 h6 h8 hlt ht5.2
           have hM := rM_nil (s := ⟨mx, qs, out⟩) hn
           have hn0 : out = [] := hn
           subst hn0
           have hm1 := cap4 hnm
           have hm0 := iInt mx.length
           have e : TelS.token pk (whoI wb) ⟨mx, qs, []⟩ 3 = ⟨mx ++ [(dhT 3 4)], qs, []⟩ := rfl
           rw [e] at g4 k1 k2 k5
           have hE := rM_nil (s := ⟨mx ++ [(dhT 3 4)], qs, []⟩) rfl

           have F0 := And.intro gcq <| And.intro gj <| And.intro glt <| And.intro gg <| And.intro gs1 <| And.intro hM <| And.intro hm1 <| And.intro hm0 <| And.intro hE <| And.intro flat_snoc <| F0
           iterate 46 first
            | (refine zhN _ ?_; clear zhN zhM)
            | (refine region_k fun zK zhK => ?_; simp only [go_sem, F0]; (repeat' (first | apply And.intro | intro _)))
            | refine zhK _ ?_
            | refine block_k fun zB zbn zbx zbr zbi => ?_
            | (refine zbn _ ?_; clear zbn zbx zbr zbi)
            | refine skip_k ?_
            | (refine dr_k (id := 33) mixed fun zE zhE => ?_; refine dr_piece_k (p := 0) 10 [91, 92, 93, 94, 95, 96, 97, 98, 99, 100] [0, 0, 0, 6, 0, 0, 48, 126, 1, 0, 1023, 2047, 4095, 2047] [] rfl (by kernel_rfl) rfl (by simp only [go_sem]) fun zR zK zhR zhK => ?_; simp only [go_sem, F0]; (repeat' (first | apply And.intro | intro _)); refine zhK _ _ trivial (zhR _ ?_); refine dr_runs_k 1 11 rfl (by kernel_rfl) rfl rfl fun zR zhR => ?_; simp only [go_sem, F0]; (repeat' (first | apply And.intro | intro _)); refine zhR _ ?_; refine dr_piece_k (p := 11) 14 [102] [0, 0, 0, 6, 0, 0, 48, 126, 1, 0, 1023, 2047, 4095, 2047] [(0, 2), (1, 2)] rfl (by kernel_rfl) rfl (by simp only [go_sem]) fun zR zK zhR zhK => ?_; simp only [go_sem, F0]; (repeat' (first | apply And.intro | intro _)); refine zhK _ _ ?_ (zhR _ ?_); (focus (first | trivial | (simp only [go_sem]; done) | (simp only [go_sem]; simp; done) | (simp only [go_sem]; simp; simp only [go_sem]))); refine dr_end rfl (zhE _ ?_))
            | refine seq_k fun zN zM zhN zhM => ?_
            | (refine condF_k ?_ ?_; focus (first | rfl | (simp [go_sem, F0]; done)))
            | (refine condT_k ?_ ?_; focus (first | rfl | (simp [go_sem, F0]; done)))
           refine ht_weak 29 (pls (termRows mx).flatten ++ pls (dhT 3 4).cells) rfl (by decide) (leaf_den _ _ _ _) ?_
           simp only [wkM, Nat.reduceEqDiff, reduceIte, if_true, if_false]
           refine region_k fun zK zhK => ?_
           simp only [go_sem, F0]
           repeat' (first | apply And.intro | intro _)
           refine zhK _ ?_
           refine zhN ⟨(j + 1, ⟨mx ++ [(dhT 3 4)], qs, []⟩), glt, g4, k1, k2, k5⟩ _ ?_ ?_ ?_
           · exact Nat.sub_lt_sub_left glt (Nat.lt_succ_self j)
           · (simp only [go_sem, leX, List.cons_append, List.nil_append, F0]; try simp)
           · (simp only [go_sem, leX, List.cons_append, List.nil_append, F0]; try simp)
         · obtain ⟨gcq, gj, gg, gs1, g4, hno, hnp, hnm, k1, k2, k5⟩ := tok_pre pk wb s ⟨mx, qs, out⟩ hx glt hlr.2 g4 g5 g6 g7 h5 h6 h8 hlt ht5.2
           have hM := rM_nil (s := ⟨mx, qs, out⟩) hn
           have hn0 : out = [] := hn
           subst hn0
           have hm1 := cap4 hnm
           have hm0 := iInt mx.length
           have e : TelS.token pk (whoI wb) ⟨mx, qs, []⟩ 4 = ⟨mx ++ [(dhT 2 3)], qs, []⟩ := rfl
           rw [e] at g4 k1 k2 k5
           have hE := rM_nil (s := ⟨mx ++ [(dhT 2 3)], qs, []⟩) rfl

           have F0 := And.intro gcq <| And.intro gj <| And.intro glt <| And.intro gg <| And.intro gs1 <| And.intro hM <| And.intro hm1 <| And.intro hm0 <| And.intro hE <| And.intro flat_snoc <| F0
           iterate 46 first
            | (refine zhN _ ?_; clear zhN zhM)
            | (refine region_k fun zK zhK => ?_; simp only [go_sem, F0]; (repeat' (first | apply And.intro | intro _)))
            | refine zhK _ ?_
            | refine block_k fun zB zbn zbx zbr zbi => ?_
            | (refine zbn _ ?_; clear zbn zbx zbr zbi)
            | refine skip_k ?_
            | (refine dr_k (id := 33) mixed fun zE zhE => ?_; refine dr_piece_k (p := 0) 10 [91, 92, 93, 94, 95, 96, 97, 98, 99, 100] [0, 0, 0, 6, 0, 0, 48, 126, 1, 0, 1023, 2047, 4095, 2047] [] rfl (by kernel_rfl) rfl (by simp only [go_sem]) fun zR zK zhR zhK => ?_; simp only [go_sem, F0]; (repeat' (first | apply And.intro | intro _)); refine zhK _ _ trivial (zhR _ ?_); refine dr_runs_k 1 11 rfl (by kernel_rfl) rfl rfl fun zR zhR => ?_; simp only [go_sem, F0]; (repeat' (first | apply And.intro | intro _)); refine zhR _ ?_; refine dr_piece_k (p := 11) 14 [102] [0, 0, 0, 6, 0, 0, 48, 126, 1, 0, 1023, 2047, 4095, 2047] [(0, 2), (1, 2)] rfl (by kernel_rfl) rfl (by simp only [go_sem]) fun zR zK zhR zhK => ?_; simp only [go_sem, F0]; (repeat' (first | apply And.intro | intro _)); refine zhK _ _ ?_ (zhR _ ?_); (focus (first | trivial | (simp only [go_sem]; done) | (simp only [go_sem]; simp; done) | (simp only [go_sem]; simp; simp only [go_sem]))); refine dr_end rfl (zhE _ ?_))
            | refine seq_k fun zN zM zhN zhM => ?_
            | (refine condF_k ?_ ?_; focus (first | rfl | (simp [go_sem, F0]; done)))
            | (refine condT_k ?_ ?_; focus (first | rfl | (simp [go_sem, F0]; done)))
           refine ht_weak 29 (pls (termRows mx).flatten ++ pls (dhT 2 3).cells) rfl (by decide) (leaf_den _ _ _ _) ?_
           simp only [wkM, Nat.reduceEqDiff, reduceIte, if_true, if_false]
           refine region_k fun zK zhK => ?_
           simp only [go_sem, F0]
           repeat' (first | apply And.intro | intro _)
           refine zhK _ ?_
           refine zhN ⟨(j + 1, ⟨mx ++ [(dhT 2 3)], qs, []⟩), glt, g4, k1, k2, k5⟩ _ ?_ ?_ ?_
           · exact Nat.sub_lt_sub_left glt (Nat.lt_succ_self j)
           · (simp only [go_sem, leX, List.cons_append, List.nil_append, F0]; try simp)
           · (simp only [go_sem, leX, List.cons_append, List.nil_append, F0]; try simp)
         · obtain ⟨gcq, gj, gg, gs1, g4, hno, hnp, hnm, k1, k2, k5⟩ := tok_pre pk wb s ⟨mx, qs, out⟩ hx glt hlr.2 g4 g5 g6 g7 h5 h6 h8 hlt ht5.2
           have hM := rM_nil (s := ⟨mx, qs, out⟩) hn
           have hn0 : out = [] := hn
           subst hn0
           have hm1 := cap4 hnm
           have hm0 := iInt mx.length
           have e : TelS.token pk (whoI wb) ⟨mx, qs, []⟩ 5 = ⟨mx ++ [(dhT 1 4)], qs, []⟩ := rfl
           rw [e] at g4 k1 k2 k5
           have hE := rM_nil (s := ⟨mx ++ [(dhT 1 4)], qs, []⟩) rfl

           have F0 := And.intro gcq <| And.intro gj <| And.intro glt <| And.intro gg <| And.intro gs1 <| And.intro hM <| And.intro hm1 <| And.intro hm0 <| And.intro hE <| And.intro flat_snoc <| F0
           iterate 46 first
            | (refine zhN _ ?_; clear zhN zhM)
            | (refine region_k fun zK zhK => ?_; simp only [go_sem, F0]; (repeat' (first | apply And.intro | intro _)))
            | refine zhK _ ?_
            | refine block_k fun zB zbn zbx zbr zbi => ?_
            | (refine zbn _ ?_; clear zbn zbx zbr zbi)
            | refine skip_k ?_
            | (refine dr_k (id := 33) mixed fun zE zhE => ?_; refine dr_piece_k (p := 0) 10 [91, 92, 93, 94, 95, 96, 97, 98, 99, 100] [0, 0, 0, 6, 0, 0, 48, 126, 1, 0, 1023, 2047, 4095, 2047] [] rfl (by kernel_rfl) rfl (by simp only [go_sem]) fun zR zK zhR zhK => ?_; simp only [go_sem, F0]; (repeat' (first | apply And.intro | intro _)); refine zhK _ _ trivial (zhR _ ?_); refine dr_runs_k 1 11 rfl (by kernel_rfl) rfl rfl fun zR zhR => ?_; simp only [go_sem, F0]; (repeat' (first | apply And.intro | intro _)); refine zhR _ ?_; refine dr_piece_k (p := 11) 14 [102] [0, 0, 0, 6, 0, 0, 48, 126, 1, 0, 1023, 2047, 4095, 2047] [(0, 2), (1, 2)] rfl (by kernel_rfl) rfl (by simp only [go_sem]) fun zR zK zhR zhK => ?_; simp only [go_sem, F0]; (repeat' (first | apply And.intro | intro _)); refine zhK _ _ ?_ (zhR _ ?_); (focus (first | trivial | (simp only [go_sem]; done) | (simp only [go_sem]; simp; done) | (simp only [go_sem]; simp; simp only [go_sem]))); refine dr_end rfl (zhE _ ?_))
            | refine seq_k fun zN zM zhN zhM => ?_
            | (refine condF_k ?_ ?_; focus (first | rfl | (simp [go_sem, F0]; done)))
            | (refine condT_k ?_ ?_; focus (first | rfl | (simp [go_sem, F0]; done)))
           refine ht_weak 29 (pls (termRows mx).flatten ++ pls (dhT 1 4).cells) rfl (by decide) (leaf_den _ _ _ _) ?_
           simp only [wkM, Nat.reduceEqDiff, reduceIte, if_true, if_false]
           refine region_k fun zK zhK => ?_
           simp only [go_sem, F0]
           repeat' (first | apply And.intro | intro _)
           refine zhK _ ?_
           refine zhN ⟨(j + 1, ⟨mx ++ [(dhT 1 4)], qs, []⟩), glt, g4, k1, k2, k5⟩ _ ?_ ?_ ?_
           · exact Nat.sub_lt_sub_left glt (Nat.lt_succ_self j)
           · (simp only [go_sem, leX, List.cons_append, List.nil_append, F0]; try simp)
           · (simp only [go_sem, leX, List.cons_append, List.nil_append, F0]; try simp)
         · obtain ⟨gcq, gj, gg, gs1, g4, hno, hnp, hnm, k1, k2, k5⟩ := tok_pre pk wb s ⟨mx, qs, out⟩ hx glt hlr.2 g4 g5 g6 g7 h5 h6 h8 hlt ht5.2
           have hM := rM_nil (s := ⟨mx, qs, out⟩) hn
           have hn0 : out = [] := hn
           subst hn0
           have hm1 := cap4 hnm
           have hm0 := iInt mx.length
           have e : TelS.token pk (whoI wb) ⟨mx, qs, []⟩ 6 = ⟨mx ++ [(dhT 1 2)], qs, []⟩ := rfl
           rw [e] at g4 k1 k2 k5
           have hE := rM_nil (s := ⟨mx ++ [(dhT 1 2)], qs, []⟩) rfl

           have F0 := And.intro gcq <| And.intro gj <| And.intro glt <| And.intro gg <| And.intro gs1 <| And.intro hM <| And.intro hm1 <| And.intro hm0 <| And.intro hE <| And.intro flat_snoc <| F0
           iterate 46 first
            | (refine zhN _ ?_; clear zhN zhM)
            | (refine region_k fun zK zhK => ?_; simp only [go_sem, F0]; (repeat' (first | apply And.intro | intro _)))
            | refine zhK _ ?_
            | refine block_k fun zB zbn zbx zbr zbi => ?_
            | (refine zbn _ ?_; clear zbn zbx zbr zbi)
            | refine skip_k ?_
            | (refine dr_k (id := 33) mixed fun zE zhE => ?_; refine dr_piece_k (p := 0) 10 [91, 92, 93, 94, 95, 96, 97, 98, 99, 100] [0, 0, 0, 6, 0, 0, 48, 126, 1, 0, 1023, 2047, 4095, 2047] [] rfl (by kernel_rfl) rfl (by simp only [go_sem]) fun zR zK zhR zhK => ?_; simp only [go_sem, F0]; (repeat' (first | apply And.intro | intro _)); refine zhK _ _ trivial (zhR _ ?_); refine dr_runs_k 1 11 rfl (by kernel_rfl) rfl rfl fun zR zhR => ?_; simp only [go_sem, F0]; (repeat' (first | apply And.intro | intro _)); refine zhR _ ?_; refine dr_piece_k (p := 11) 14 [102] [0, 0, 0, 6, 0, 0, 48, 126, 1, 0, 1023, 2047, 4095, 2047] [(0, 2), (1, 2)] rfl (by kernel_rfl) rfl (by simp only [go_sem]) fun zR zK zhR zhK => ?_; simp only [go_sem, F0]; (repeat' (first | apply And.intro | intro _)); refine zhK _ _ ?_ (zhR _ ?_); (focus (first | trivial | (simp only [go_sem]; done) | (simp only [go_sem]; simp; done) | (simp only [go_sem]; simp; simp only [go_sem]))); refine dr_end rfl (zhE _ ?_))
            | refine seq_k fun zN zM zhN zhM => ?_
            | (refine condF_k ?_ ?_; focus (first | rfl | (simp [go_sem, F0]; done)))
            | (refine condT_k ?_ ?_; focus (first | rfl | (simp [go_sem, F0]; done)))
           refine ht_weak 29 (pls (termRows mx).flatten ++ pls (dhT 1 2).cells) rfl (by decide) (leaf_den _ _ _ _) ?_
           simp only [wkM, Nat.reduceEqDiff, reduceIte, if_true, if_false]
           refine region_k fun zK zhK => ?_
           simp only [go_sem, F0]
           repeat' (first | apply And.intro | intro _)
           refine zhK _ ?_
           refine zhN ⟨(j + 1, ⟨mx ++ [(dhT 1 2)], qs, []⟩), glt, g4, k1, k2, k5⟩ _ ?_ ?_ ?_
           · exact Nat.sub_lt_sub_left glt (Nat.lt_succ_self j)
           · (simp only [go_sem, leX, List.cons_append, List.nil_append, F0]; try simp)
           · (simp only [go_sem, leX, List.cons_append, List.nil_append, F0]; try simp)
         · rw [List.drop_length, TelS.turn] at g4
           have gcq := nltI' (n := l.length)
           rw [← g4] at h4
           have hno := bnd1 g5 (Nat.le_refl _) hlr.2 h5 hlt ht5.2
           have hnm := bnd6 g7 (Nat.le_refl _) hlr.2 h8 hlt ht5.2
           have k1 := tell_len ⟨mx, qs, out⟩ (atomT (20 + (i : Int)))
           have k2 := tell_ps ⟨mx, qs, out⟩ (atomT (20 + (i : Int)))
           have k6 := congrArg List.length (tell_mx ⟨mx, qs, out⟩ (atomT (20 + (i : Int))))
           have hn2 := tell_ne ⟨mx, qs, out⟩ (atomT (20 + (i : Int)))
           have ht := rtell_ ⟨mx, qs, out⟩ (atomT (20 + (i : Int))) hnm hno
           obtain ⟨q2, hq2⟩ : ∃ z, TelS.tell ⟨mx, qs, out⟩ (atomT (20 + (i : Int))) = z := ⟨_, rfl⟩
           rw [hq2] at h4 k1 k2 k6 hn2 ht
           have k4 := bnd4 k1 g5 hlr.2 h5
           have k5 := bnd5 k2 g6 hlr.2 h6
           have k7 := bnd7 k6 g7 hlr.2 h8
           have hE := rM_own hn2
           have hps : ((qs : Nat) : Int) = ((q2.ps : Nat) : Int) := by rw [k2]
           have hM := rM_nil (s := ⟨mx, qs, out⟩) hn
           rw [show tokN ⟨mx, qs, out⟩ 21 = 21 from if_pos hn, rtM_nil hn, rtM_own hn2] at ht
           have F0 := And.intro gcq <| And.intro hM <| And.intro hE <| And.intro hps <| F0
           iterate 19 first
            | (refine region_k fun zK zhK => ?_; simp only [go_sem, F0]; (repeat' (first | apply And.intro | intro _)))
            | refine zhK _ ?_
            | (refine zhN _ ?_; clear zhN zhM)
            | (refine zhM _ _ ?_; clear zhN zhM)
            | refine exit_k ?_
            | (refine zbx _ ?_; clear zbn zbx zbr zbi)
            | (refine zbn _ ?_; clear zbn zbx zbr zbi)
            | ((all_goals (refine call_hand false [] (fun k => k) (fun _ _ => rfl) ?_ (by decide) ?_ ((atomof_ (20 + (i : Int))).plain fun _ _ h => h).hands ?_; iterate 2 (focus (first | rfl | (simp only [go_sem, F0] <;> first | done | rfl | simp))))); (all_goals (rintro v m ⟨hR, hm⟩; subst hR; subst hm)); (all_goals (refine And.intro ?_ (And.intro ?_ (And.intro ?_ ?_)); iterate 3 (focus (first | rfl | (simp only [go_sem, F0]; done) | (simp [go_sem, look, F0]; done))))); (all_goals (try simp only [go_sem, F0])); (all_goals (try simp only [go_sem, F0])); (all_goals repeat' (first | apply And.intro | intro _)))
            | ((all_goals (refine call_fn (caps := [5, 6, 7]) (ks := [500000, 500002, 500003]) (vs := [argT (atomT (20 + (i : Int)))]) false [(500000, 5), (500001, 29), (500002, 6), (500003, 7)] (fun k => if k = 21 then 111 else k) ?_ ?_ (fun _ _ => rfl) ?_ (by decide) ?_ ht ?_; iterate 4 (focus (first | rfl | (simp only [go_sem, F0] <;> first | done | rfl | simp))))); (all_goals (rintro v m ⟨hR, hm⟩; subst hR; subst hm)); (all_goals (refine And.intro ?_ (And.intro ?_ (And.intro ?_ ?_)); iterate 3 (focus (first | rfl | (simp only [go_sem, F0]; done) | (simp [go_sem, look, F0]; done))))); (all_goals (try simp only [go_sem, F0])); (all_goals (try simp only [go_sem, F0])); (all_goals repeat' (first | apply And.intro | intro _)))
            | refine seq_k fun zN zM zhN zhM => ?_
            | (refine condF_k ?_ ?_; focus (first | rfl | (simp [go_sem, F0]; done)))
           refine zhN ⟨(i + 1, q2), hlt, h4, k4, k5, k7, fun _ => hn2⟩ _ ?_ ?_ ?_
           · exact Nat.sub_lt_sub_left hlt (Nat.lt_succ_self i)
           · (simp only [go_sem, leX, List.cons_append, List.nil_append, F0]; try simp)
           · (simp only [go_sem, leX, List.cons_append, List.nil_append, F0]; try simp)
         · obtain ⟨gcq, gj, gg, gs1, g4, hno, hnp, hnm, k1, k2, k5⟩ := tok_pre pk wb s ⟨mx, qs, out⟩ hx glt hlr.2 g4 g5 g6 g7 h5 h6 h8 hlt ht5.2
           have hM := rM_own (s := ⟨mx, qs, out⟩) hn
           have hqk : (0 : Int) < ((ps.length : Nat) : Int) := of_decide_eq_true (hpk.trans hb)
           subst hb
           have hw3 : Go.RowKit.wrap64 (3 + whoI wb) = 3 + whoI wb := w3 (who_rng wb)
           have ho1 := cap4 hno
           have ho0 := iInt out.length
           have hm1 := cap4 hnm
           have hm0 := iInt mx.length
           have e : TelS.token true (whoI wb) ⟨mx, qs, out⟩ 1 = ⟨mx ++ [(pubT (3 + whoI wb))], qs, out ++ [(pubT (3 + whoI wb))]⟩ := rfl
           rw [e] at g4 k1 k2 k5
           have k3 := token_ne true (whoI wb) ⟨mx, qs, out⟩ 1 hn
           rw [e] at k3
           have hE := rM_own (s := ⟨mx ++ [(pubT (3 + whoI wb))], qs, out ++ [(pubT (3 + whoI wb))]⟩) k3

           have F0 := And.intro gcq <| And.intro gj <| And.intro glt <| And.intro gg <| And.intro gs1 <| And.intro hM <| And.intro hqk <| And.intro hw3 <| And.intro ho1 <| And.intro ho0 <| And.intro hm1 <| And.intro hm0 <| And.intro hE <| And.intro flat_snoc <| F0
           iterate 38 first
            | (refine zhN _ ?_; clear zhN zhM)
            | (refine region_k fun zK zhK => ?_; simp only [go_sem, F0]; (repeat' (first | apply And.intro | intro _)))
            | refine zhK _ ?_
            | refine block_k fun zB zbn zbx zbr zbi => ?_
            | (refine zbn _ ?_; clear zbn zbx zbr zbi)
            | refine skip_k ?_
            | (refine dr_k (id := 35) mixed fun zE zhE => ?_; refine dr_piece_k (p := 0) 6 [105, 106, 107, 108, 109, 110] [0, 0, 2, 6, 1, 0, 63, 127, 255, 127] [] rfl (by kernel_rfl) rfl (by simp only [go_sem]) fun zR zK zhR zhK => ?_; simp only [go_sem, F0]; (repeat' (first | apply And.intro | intro _)); (all_goals (refine call_drawh false (fun k => k) (argT (pubT (3 + whoI wb))) [] (fun _ _ => rfl) ?_ ?_ ?_ ((pubof_ (3 + whoI wb)).plain fun _ _ h => h).hands ?_ ?_; (iterate 2 (focus (first | rfl | (simp only [go_sem, F0] <;> first | done | rfl | simp)))); (first | kernel_rfl | rfl | simp [fixO, fixL, pls]))); (all_goals try (refine And.intro ?_ (And.intro ?_ (And.intro ?_ ?_)) <;> (first | rfl | (simp only [go_sem, F0]; done) | (simp [go_sem, look, F0]; done)))); (all_goals (try simp only [go_sem, F0])); (all_goals (try simp only [go_sem, F0])); (all_goals repeat' (first | apply And.intro | intro _)); refine zhK _ _ trivial (zhR _ ?_); refine dr_runs_k 1 7 rfl (by kernel_rfl) rfl rfl fun zR zhR => ?_; simp only [go_sem, F0]; (repeat' (first | apply And.intro | intro _)); refine zhR _ ?_; refine dr_piece_k (p := 7) 10 [112] [0, 0, 2, 6, 1, 0, 63, 127, 255, 127] [(0, 2), (1, 2)] rfl (by kernel_rfl) rfl (by simp only [go_sem]) fun zR zK zhR zhK => ?_; simp only [go_sem, F0]; (repeat' (first | apply And.intro | intro _)); refine zhK _ _ ?_ (zhR _ ?_); (focus (first | trivial | (simp only [go_sem]; done) | (simp only [go_sem]; simp; done) | (simp only [go_sem]; simp; simp only [go_sem]))); refine dr_end rfl (zhE _ ?_))
            | (refine dr_k (id := 37) mixed fun zE zhE => ?_; refine dr_piece_k (p := 0) 6 [117, 118, 119, 120, 121, 122] [0, 0, 2, 6, 1, 0, 63, 127, 255, 127] [] rfl (by kernel_rfl) rfl (by simp only [go_sem]) fun zR zK zhR zhK => ?_; simp only [go_sem, F0]; (repeat' (first | apply And.intro | intro _)); (all_goals (refine call_drawh false (fun k => k) (argT (pubT (3 + whoI wb))) [] (fun _ _ => rfl) ?_ ?_ ?_ ((pubof_ (3 + whoI wb)).plain fun _ _ h => h).hands ?_ ?_; (iterate 2 (focus (first | rfl | (simp only [go_sem, F0] <;> first | done | rfl | simp)))); (first | kernel_rfl | rfl | simp [fixO, fixL, pls]))); (all_goals try (refine And.intro ?_ (And.intro ?_ (And.intro ?_ ?_)) <;> (first | rfl | (simp only [go_sem, F0]; done) | (simp [go_sem, look, F0]; done)))); (all_goals (try simp only [go_sem, F0])); (all_goals (try simp only [go_sem, F0])); (all_goals repeat' (first | apply And.intro | intro _)); refine zhK _ _ trivial (zhR _ ?_); refine dr_runs_k 1 7 rfl (by kernel_rfl) rfl rfl fun zR zhR => ?_; simp only [go_sem, F0]; (repeat' (first | apply And.intro | intro _)); refine zhR _ ?_; refine dr_piece_k (p := 7) 10 [124] [0, 0, 2, 6, 1, 0, 63, 127, 255, 127] [(0, 2), (1, 2)] rfl (by kernel_rfl) rfl (by simp only [go_sem]) fun zR zK zhR zhK => ?_; simp only [go_sem, F0]; (repeat' (first | apply And.intro | intro _)); refine zhK _ _ ?_ (zhR _ ?_); (focus (first | trivial | (simp only [go_sem]; done) | (simp only [go_sem]; simp; done) | (simp only [go_sem]; simp; simp only [go_sem]))); refine dr_end rfl (zhE _ ?_))
            | refine seq_k fun zN zM zhN zhM => ?_
            | (refine condT_k ?_ ?_; focus (first | rfl | (simp [go_sem, F0]; done)))
           refine zhN ⟨(j + 1, ⟨mx ++ [(pubT (3 + whoI wb))], qs, out ++ [(pubT (3 + whoI wb))]⟩), glt, g4, k1, k2, k5⟩ _ ?_ ?_ ?_
           · exact Nat.sub_lt_sub_left glt (Nat.lt_succ_self j)
           · (simp only [go_sem, leX, List.cons_append, List.nil_append, F0]; try simp)
           · (simp only [go_sem, leX, List.cons_append, List.nil_append, F0]; try simp)
         · obtain ⟨gcq, gj, gg, gs1, g4, hno, hnp, hnm, k1, k2, k5⟩ := tok_pre pk wb s ⟨mx, qs, out⟩ hx glt hlr.2 g4 g5 g6 g7 h5 h6 h8 hlt ht5.2
           have hM := rM_own (s := ⟨mx, qs, out⟩) hn
           have hqk : ¬ (0 : Int) < ((ps.length : Nat) : Int) := of_decide_eq_false (hpk.trans hb)
           subst hb
           have hw3 : Go.RowKit.wrap64 (3 + whoI wb) = 3 + whoI wb := w3 (who_rng wb)
           have ho1 := cap4 hno
           have ho0 := iInt out.length
           have e : TelS.token false (whoI wb) ⟨mx, qs, out⟩ 1 = ⟨mx, qs, out ++ [(pubT (3 + whoI wb))]⟩ := rfl
           rw [e] at g4 k1 k2 k5
           have k3 := token_ne false (whoI wb) ⟨mx, qs, out⟩ 1 hn
           rw [e] at k3
           have hE := rM_own (s := ⟨mx, qs, out ++ [(pubT (3 + whoI wb))]⟩) k3

           have F0 := And.intro gcq <| And.intro gj <| And.intro glt <| And.intro gg <| And.intro gs1 <| And.intro hM <| And.intro hqk <| And.intro hw3 <| And.intro ho1 <| And.intro ho0 <| And.intro hE <| And.intro flat_snoc <| F0
           iterate 38 first
            | (refine zhN _ ?_; clear zhN zhM)
            | (refine region_k fun zK zhK => ?_; simp only [go_sem, F0]; (repeat' (first | apply And.intro | intro _)))
            | refine zhK _ ?_
            | refine skip_k ?_
            | refine block_k fun zB zbn zbx zbr zbi => ?_
            | (refine zbn _ ?_; clear zbn zbx zbr zbi)
            | (refine dr_k (id := 35) mixed fun zE zhE => ?_; refine dr_piece_k (p := 0) 6 [105, 106, 107, 108, 109, 110] [0, 0, 2, 6, 1, 0, 63, 127, 255, 127] [] rfl (by kernel_rfl) rfl (by simp only [go_sem]) fun zR zK zhR zhK => ?_; simp only [go_sem, F0]; (repeat' (first | apply And.intro | intro _)); (all_goals (refine call_drawh false (fun k => k) (argT (pubT (3 + whoI wb))) [] (fun _ _ => rfl) ?_ ?_ ?_ ((pubof_ (3 + whoI wb)).plain fun _ _ h => h).hands ?_ ?_; (iterate 2 (focus (first | rfl | (simp only [go_sem, F0] <;> first | done | rfl | simp)))); (first | kernel_rfl | rfl | simp [fixO, fixL, pls]))); (all_goals try (refine And.intro ?_ (And.intro ?_ (And.intro ?_ ?_)) <;> (first | rfl | (simp only [go_sem, F0]; done) | (simp [go_sem, look, F0]; done)))); (all_goals (try simp only [go_sem, F0])); (all_goals (try simp only [go_sem, F0])); (all_goals repeat' (first | apply And.intro | intro _)); refine zhK _ _ trivial (zhR _ ?_); refine dr_runs_k 1 7 rfl (by kernel_rfl) rfl rfl fun zR zhR => ?_; simp only [go_sem, F0]; (repeat' (first | apply And.intro | intro _)); refine zhR _ ?_; refine dr_piece_k (p := 7) 10 [112] [0, 0, 2, 6, 1, 0, 63, 127, 255, 127] [(0, 2), (1, 2)] rfl (by kernel_rfl) rfl (by simp only [go_sem]) fun zR zK zhR zhK => ?_; simp only [go_sem, F0]; (repeat' (first | apply And.intro | intro _)); refine zhK _ _ ?_ (zhR _ ?_); (focus (first | trivial | (simp only [go_sem]; done) | (simp only [go_sem]; simp; done) | (simp only [go_sem]; simp; simp only [go_sem]))); refine dr_end rfl (zhE _ ?_))
            | refine seq_k fun zN zM zhN zhM => ?_
            | (refine condT_k ?_ ?_; focus (first | rfl | (simp [go_sem, F0]; done)))
            | (refine condF_k ?_ ?_; focus (first | rfl | (simp [go_sem, F0]; done)))
           refine zhN ⟨(j + 1, ⟨mx, qs, out ++ [(pubT (3 + whoI wb))]⟩), glt, g4, k1, k2, k5⟩ _ ?_ ?_ ?_
           · exact Nat.sub_lt_sub_left glt (Nat.lt_succ_self j)
           · (simp only [go_sem, leX, List.cons_append, List.nil_append, F0]; try simp)
           · (simp only [go_sem, leX, List.cons_append, List.nil_append, F0]; try simp)
         · obtain ⟨gcq, gj, gg, gs1, g4, hno, hnp, hnm, k1, k2, k5⟩ := tok_pre pk wb s ⟨mx, qs, out⟩ hx glt hlr.2 g4 g5 g6 g7 h5 h6 h8 hlt ht5.2
           have hM := rM_own (s := ⟨mx, qs, out⟩) hn
           have hw3 : Go.RowKit.wrap64 (1 + whoI wb) = 1 + whoI wb := w1 (who_rng wb)
           have ht := rtell_ ⟨mx, qs, out⟩ (pubT (1 + whoI wb)) hnm hno
           have hn2 := tell_ne ⟨mx, qs, out⟩ (pubT (1 + whoI wb))
           rw [show tokN ⟨mx, qs, out⟩ 21 = 750001 from if_neg hn, rtM_own hn, rtM_own hn2] at ht
           have e : TelS.token pk (whoI wb) ⟨mx, qs, out⟩ 2 = (TelS.tell ⟨mx, qs, out⟩ (pubT (1 + whoI wb))) := rfl
           rw [e] at g4 k1 k2 k5
           have k3 := token_ne pk (whoI wb) ⟨mx, qs, out⟩ 2 hn
           rw [e] at k3
           have hE := rM_own (s := (TelS.tell ⟨mx, qs, out⟩ (pubT (1 + whoI wb)))) k3

           have F0 := And.intro gcq <| And.intro gj <| And.intro glt <| And.intro gg <| And.intro gs1 <| And.intro hM <| And.intro hw3 <| And.intro hE <| And.intro tell_ps <| F0
           iterate 38 first
            | (refine region_k fun zK zhK => ?_; simp only [go_sem, F0]; (repeat' (first | apply And.intro | intro _)))
            | refine zhK _ ?_
            | (refine zhN _ ?_; clear zhN zhM)
            | refine block_k fun zB zbn zbx zbr zbi => ?_
            | (refine zbn _ ?_; clear zbn zbx zbr zbi)
            | refine skip_k ?_
            | ((all_goals (refine call_hand false [] (fun k => k) (fun _ _ => rfl) ?_ (by decide) ?_ ((pubof_ (1 + whoI wb)).plain fun _ _ h => h).hands ?_; iterate 2 (focus (first | rfl | (simp only [go_sem, F0] <;> first | done | rfl | simp))))); (all_goals (rintro v m ⟨hR, hm⟩; subst hR; subst hm)); (all_goals (refine And.intro ?_ (And.intro ?_ (And.intro ?_ ?_)); iterate 3 (focus (first | rfl | (simp only [go_sem, F0]; done) | (simp [go_sem, look, F0]; done))))); (all_goals (try simp only [go_sem, F0])); (all_goals (try simp only [go_sem, F0])); (all_goals repeat' (first | apply And.intro | intro _)))
            | ((all_goals (refine call_fnM (caps := [5, 6, 7]) (ks := [500000, 500002, 500003]) (vs := [argT (pubT (1 + whoI wb))]) false [(500000, 5), (500001, 29), (500002, 6), (500003, 7), (750001, 111)] (fun k => k) ?_ ?_ (fun _ _ => rfl) ?_ (by decide) ?_ ?_ ht ?_; iterate 5 (focus (first | rfl | (simp only [go_sem, F0] <;> first | done | rfl | simp))))); (all_goals (rintro v m ⟨hR, hm⟩; subst hR; subst hm)); (all_goals (refine And.intro ?_ (And.intro ?_ (And.intro ?_ ?_)); iterate 3 (focus (first | rfl | (simp only [go_sem, F0]; done) | (simp [go_sem, look, F0]; done))))); (all_goals (try simp only [go_sem, F0])); (all_goals (try simp only [go_sem, F0])); (all_goals repeat' (first | apply And.intro | intro _)))
            | refine seq_k fun zN zM zhN zhM => ?_
            | (refine condT_k ?_ ?_; focus (first | rfl | (simp [go_sem, F0]; done)))
            | (refine condF_k ?_ ?_; focus (first | rfl | (simp [go_sem, F0]; done)))
           refine zhN ⟨(j + 1, (TelS.tell ⟨mx, qs, out⟩ (pubT (1 + whoI wb)))), glt, g4, k1, k2, k5⟩ _ ?_ ?_ ?_
           · exact Nat.sub_lt_sub_left glt (Nat.lt_succ_self j)
           · (simp only [go_sem, leX, List.cons_append, List.nil_append, F0]; try simp)
           · (simp only [go_sem, leX, List.cons_append, List.nil_append, F0]; try simp)
         · obtain ⟨gcq, gj, gg, gs1, g4, hno, hnp, hnm, k1, k2, k5⟩ := tok_pre pk wb s ⟨mx, qs, out⟩ hx glt hlr.2 g4 g5 g6 g7 h5 h6 h8 hlt ht5.2
           have hM := rM_own (s := ⟨mx, qs, out⟩) hn
           have hm1 := cap4 hnm
           have hm0 := iInt mx.length
           have hp1 : Go.RowKit.wrap64 (10 + (qs : Int)) = 10 + (qs : Int) := w10 hnp
           have hp2 : Go.RowKit.wrap64 ((qs : Int) + 1) = ((qs + 1 : Nat) : Int) := wS hnp
           have e : TelS.token pk (whoI wb) ⟨mx, qs, out⟩ 7 = ⟨mx ++ [(atomT (10 + (qs : Int)))], qs + 1, out⟩ := rfl
           rw [e] at g4 k1 k2 k5
           have k3 := token_ne pk (whoI wb) ⟨mx, qs, out⟩ 7 hn
           rw [e] at k3
           have hE := rM_own (s := ⟨mx ++ [(atomT (10 + (qs : Int)))], qs + 1, out⟩) k3

           have F0 := And.intro gcq <| And.intro gj <| And.intro glt <| And.intro gg <| And.intro gs1 <| And.intro hM <| And.intro hm1 <| And.intro hm0 <| And.intro hp1 <| And.intro hp2 <| And.intro hE <| And.intro flat_snoc <| F0
           iterate 44 first
            | (refine zhN _ ?_; clear zhN zhM)
            | (refine region_k fun zK zhK => ?_; simp only [go_sem, F0]; (repeat' (first | apply And.intro | intro _)))
            | refine zhK _ ?_
            | refine block_k fun zB zbn zbx zbr zbi => ?_
            | (refine zbn _ ?_; clear zbn zbx zbr zbi)
            | refine skip_k ?_
            | (refine dr_k (id := 41) mixed fun zE zhE => ?_; refine dr_piece_k (p := 0) 6 [134, 135, 136, 137, 138, 139] [0, 0, 2, 6, 1, 0, 63, 127, 255, 127] [] rfl (by kernel_rfl) rfl (by simp only [go_sem]) fun zR zK zhR zhK => ?_; simp only [go_sem, F0]; (repeat' (first | apply And.intro | intro _)); (all_goals (refine call_drawh false (fun k => k) (argT (atomT (10 + (qs : Int)))) [] (fun _ _ => rfl) ?_ ?_ ?_ ((atomof_ (10 + (qs : Int))).plain fun _ _ h => h).hands ?_ ?_; (iterate 2 (focus (first | rfl | (simp only [go_sem, F0] <;> first | done | rfl | simp)))); (first | kernel_rfl | rfl | simp [fixO, fixL, pls]))); (all_goals try (refine And.intro ?_ (And.intro ?_ (And.intro ?_ ?_)) <;> (first | rfl | (simp only [go_sem, F0]; done) | (simp [go_sem, look, F0]; done)))); (all_goals (try simp only [go_sem, F0])); (all_goals (try simp only [go_sem, F0])); (all_goals repeat' (first | apply And.intro | intro _)); refine zhK _ _ trivial (zhR _ ?_); refine dr_runs_k 1 7 rfl (by kernel_rfl) rfl rfl fun zR zhR => ?_; simp only [go_sem, F0]; (repeat' (first | apply And.intro | intro _)); refine zhR _ ?_; refine dr_piece_k (p := 7) 10 [141] [0, 0, 2, 6, 1, 0, 63, 127, 255, 127] [(0, 2), (1, 2)] rfl (by kernel_rfl) rfl (by simp only [go_sem]) fun zR zK zhR zhK => ?_; simp only [go_sem, F0]; (repeat' (first | apply And.intro | intro _)); refine zhK _ _ ?_ (zhR _ ?_); (focus (first | trivial | (simp only [go_sem]; done) | (simp only [go_sem]; simp; done) | (simp only [go_sem]; simp; simp only [go_sem]))); refine dr_end rfl (zhE _ ?_))
            | refine seq_k fun zN zM zhN zhM => ?_
            | (refine condT_k ?_ ?_; focus (first | rfl | (simp [go_sem, F0]; done)))
            | (refine condF_k ?_ ?_; focus (first | rfl | (simp [go_sem, F0]; done)))
           refine zhN ⟨(j + 1, ⟨mx ++ [(atomT (10 + (qs : Int)))], qs + 1, out⟩), glt, g4, k1, k2, k5⟩ _ ?_ ?_ ?_
           · exact Nat.sub_lt_sub_left glt (Nat.lt_succ_self j)
           · (simp only [go_sem, leX, List.cons_append, List.nil_append, F0]; try simp)
           · (simp only [go_sem, leX, List.cons_append, List.nil_append, F0]; try simp)
         · obtain ⟨gcq, gj, gg, gs1, g4, hno, hnp, hnm, k1, k2, k5⟩ := tok_pre pk wb s ⟨mx, qs, out⟩ hx glt hlr.2 g4 g5 g6 g7 h5 h6 h8 hlt ht5.2
           have hM := rM_own (s := ⟨mx, qs, out⟩) hn
           have hm1 := cap4 hnm
           have hm0 := iInt mx.length
           have e : TelS.token pk (whoI wb) ⟨mx, qs, out⟩ 3 = ⟨mx ++ [(dhT 3 4)], qs, out⟩ := rfl
           rw [e] at g4 k1 k2 k5
           have k3 := token_ne pk (whoI wb) ⟨mx, qs, out⟩ 3 hn
           rw [e] at k3
           have hE := rM_own (s := ⟨mx ++ [(dhT 3 4)], qs, out⟩) k3

           have F0 := And.intro gcq <| And.intro gj <| And.intro glt <| And.intro gg <| And.intro gs1 <| And.intro hM <| And.intro hm1 <| And.intro hm0 <| And.intro hE <| And.intro flat_snoc <| F0
           iterate 46 first
            | (refine zhN _ ?_; clear zhN zhM)
            | (refine region_k fun zK zhK => ?_; simp only [go_sem, F0]; (repeat' (first | apply And.intro | intro _)))
            | refine zhK _ ?_
            | refine block_k fun zB zbn zbx zbr zbi => ?_
            | (refine zbn _ ?_; clear zbn zbx zbr zbi)
            | refine skip_k ?_
            | (refine dr_k (id := 33) mixed fun zE zhE => ?_; refine dr_piece_k (p := 0) 10 [91, 92, 93, 94, 95, 96, 97, 98, 99, 100] [0, 0, 0, 6, 0, 0, 48, 126, 1, 0, 1023, 2047, 4095, 2047] [] rfl (by kernel_rfl) rfl (by simp only [go_sem]) fun zR zK zhR zhK => ?_; simp only [go_sem, F0]; (repeat' (first | apply And.intro | intro _)); refine zhK _ _ trivial (zhR _ ?_); refine dr_runs_k 1 11 rfl (by kernel_rfl) rfl rfl fun zR zhR => ?_; simp only [go_sem, F0]; (repeat' (first | apply And.intro | intro _)); refine zhR _ ?_; refine dr_piece_k (p := 11) 14 [102] [0, 0, 0, 6, 0, 0, 48, 126, 1, 0, 1023, 2047, 4095, 2047] [(0, 2), (1, 2)] rfl (by kernel_rfl) rfl (by simp only [go_sem]) fun zR zK zhR zhK => ?_; simp only [go_sem, F0]; (repeat' (first | apply And.intro | intro _)); refine zhK _ _ ?_ (zhR _ ?_); (focus (first | trivial | (simp only [go_sem]; done) | (simp only [go_sem]; simp; done) | (simp only [go_sem]; simp; simp only [go_sem]))); refine dr_end rfl (zhE _ ?_))
            | refine seq_k fun zN zM zhN zhM => ?_
            | (refine condF_k ?_ ?_; focus (first | rfl | (simp [go_sem, F0]; done)))
            | (refine condT_k ?_ ?_; focus (first | rfl | (simp [go_sem, F0]; done)))
           refine ht_weak 29 (pls (termRows mx).flatten ++ pls (dhT 3 4).cells) rfl (by decide) (leaf_den _ _ _ _) ?_
           simp only [wkM, Nat.reduceEqDiff, reduceIte, if_true, if_false]
           refine region_k fun zK zhK => ?_
           simp only [go_sem, F0]
           repeat' (first | apply And.intro | intro _)
           refine zhK _ ?_
           refine zhN ⟨(j + 1, ⟨mx ++ [(dhT 3 4)], qs, out⟩), glt, g4, k1, k2, k5⟩ _ ?_ ?_ ?_
           · exact Nat.sub_lt_sub_left glt (Nat.lt_succ_self j)
           · (simp only [go_sem, leX, List.cons_append, List.nil_append, F0]; try simp)
           · (simp only [go_sem, leX, List.cons_append, List.nil_append, F0]; try simp)
         · obtain ⟨gcq, gj, gg, gs1, g4, hno, hnp, hnm, k1, k2, k5⟩ := tok_pre pk wb s ⟨mx, qs, out⟩ hx glt hlr.2 g4 g5 g6 g7 h5 h6 h8 hlt ht5.2
           have hM := rM_own (s := ⟨mx, qs, out⟩) hn
           have hm1 := cap4 hnm
           have hm0 := iInt mx.length
           have e : TelS.token pk (whoI wb) ⟨mx, qs, out⟩ 4 = ⟨mx ++ [(dhT 2 3)], qs, out⟩ := rfl
           rw [e] at g4 k1 k2 k5
           have k3 := token_ne pk (whoI wb) ⟨mx, qs, out⟩ 4 hn
           rw [e] at k3
           have hE := rM_own (s := ⟨mx ++ [(dhT 2 3)], qs, out⟩) k3

           have F0 := And.intro gcq <| And.intro gj <| And.intro glt <| And.intro gg <| And.intro gs1 <| And.intro hM <| And.intro hm1 <| And.intro hm0 <| And.intro hE <| And.intro flat_snoc <| F0
           iterate 46 first
            | (refine zhN _ ?_; clear zhN zhM)
            | (refine region_k fun zK zhK => ?_; simp only [go_sem, F0]; (repeat' (first | apply And.intro | intro _)))
            | refine zhK _ ?_
            | refine block_k fun zB zbn zbx zbr zbi => ?_
            | (refine zbn _ ?_; clear zbn zbx zbr zbi)
            | refine skip_k ?_
            | (refine dr_k (id := 33) mixed fun zE zhE => ?_; refine dr_piece_k (p := 0) 10 [91, 92, 93, 94, 95, 96, 97, 98, 99, 100] [0, 0, 0, 6, 0, 0, 48, 126, 1, 0, 1023, 2047, 4095, 2047] [] rfl (by kernel_rfl) rfl (by simp only [go_sem]) fun zR zK zhR zhK => ?_; simp only [go_sem, F0]; (repeat' (first | apply And.intro | intro _)); refine zhK _ _ trivial (zhR _ ?_); refine dr_runs_k 1 11 rfl (by kernel_rfl) rfl rfl fun zR zhR => ?_; simp only [go_sem, F0]; (repeat' (first | apply And.intro | intro _)); refine zhR _ ?_; refine dr_piece_k (p := 11) 14 [102] [0, 0, 0, 6, 0, 0, 48, 126, 1, 0, 1023, 2047, 4095, 2047] [(0, 2), (1, 2)] rfl (by kernel_rfl) rfl (by simp only [go_sem]) fun zR zK zhR zhK => ?_; simp only [go_sem, F0]; (repeat' (first | apply And.intro | intro _)); refine zhK _ _ ?_ (zhR _ ?_); (focus (first | trivial | (simp only [go_sem]; done) | (simp only [go_sem]; simp; done) | (simp only [go_sem]; simp; simp only [go_sem]))); refine dr_end rfl (zhE _ ?_))
            | refine seq_k fun zN zM zhN zhM => ?_
            | (refine condF_k ?_ ?_; focus (first | rfl | (simp [go_sem, F0]; done)))
            | (refine condT_k ?_ ?_; focus (first | rfl | (simp [go_sem, F0]; done)))
           refine ht_weak 29 (pls (termRows mx).flatten ++ pls (dhT 2 3).cells) rfl (by decide) (leaf_den _ _ _ _) ?_
           simp only [wkM, Nat.reduceEqDiff, reduceIte, if_true, if_false]
           refine region_k fun zK zhK => ?_
           simp only [go_sem, F0]
           repeat' (first | apply And.intro | intro _)
           refine zhK _ ?_
           refine zhN ⟨(j + 1, ⟨mx ++ [(dhT 2 3)], qs, out⟩), glt, g4, k1, k2, k5⟩ _ ?_ ?_ ?_
           · exact Nat.sub_lt_sub_left glt (Nat.lt_succ_self j)
           · (simp only [go_sem, leX, List.cons_append, List.nil_append, F0]; try simp)
           · (simp only [go_sem, leX, List.cons_append, List.nil_append, F0]; try simp)
         · obtain ⟨gcq, gj, gg, gs1, g4, hno, hnp, hnm, k1, k2, k5⟩ := tok_pre pk wb s ⟨mx, qs, out⟩ hx glt hlr.2 g4 g5 g6 g7 h5 h6 h8 hlt ht5.2
           have hM := rM_own (s := ⟨mx, qs, out⟩) hn
           have hm1 := cap4 hnm
           have hm0 := iInt mx.length
           have e : TelS.token pk (whoI wb) ⟨mx, qs, out⟩ 5 = ⟨mx ++ [(dhT 1 4)], qs, out⟩ := rfl
           rw [e] at g4 k1 k2 k5
           have k3 := token_ne pk (whoI wb) ⟨mx, qs, out⟩ 5 hn
           rw [e] at k3
           have hE := rM_own (s := ⟨mx ++ [(dhT 1 4)], qs, out⟩) k3

           have F0 := And.intro gcq <| And.intro gj <| And.intro glt <| And.intro gg <| And.intro gs1 <| And.intro hM <| And.intro hm1 <| And.intro hm0 <| And.intro hE <| And.intro flat_snoc <| F0
           iterate 46 first
            | (refine zhN _ ?_; clear zhN zhM)
            | (refine region_k fun zK zhK => ?_; simp only [go_sem, F0]; (repeat' (first | apply And.intro | intro _)))
            | refine zhK _ ?_
            | refine block_k fun zB zbn zbx zbr zbi => ?_
            | (refine zbn _ ?_; clear zbn zbx zbr zbi)
            | refine skip_k ?_
            | (refine dr_k (id := 33) mixed fun zE zhE => ?_; refine dr_piece_k (p := 0) 10 [91, 92, 93, 94, 95, 96, 97, 98, 99, 100] [0, 0, 0, 6, 0, 0, 48, 126, 1, 0, 1023, 2047, 4095, 2047] [] rfl (by kernel_rfl) rfl (by simp only [go_sem]) fun zR zK zhR zhK => ?_; simp only [go_sem, F0]; (repeat' (first | apply And.intro | intro _)); refine zhK _ _ trivial (zhR _ ?_); refine dr_runs_k 1 11 rfl (by kernel_rfl) rfl rfl fun zR zhR => ?_; simp only [go_sem, F0]; (repeat' (first | apply And.intro | intro _)); refine zhR _ ?_; refine dr_piece_k (p := 11) 14 [102] [0, 0, 0, 6, 0, 0, 48, 126, 1, 0, 1023, 2047, 4095, 2047] [(0, 2), (1, 2)] rfl (by kernel_rfl) rfl (by simp only [go_sem]) fun zR zK zhR zhK => ?_; simp only [go_sem, F0]; (repeat' (first | apply And.intro | intro _)); refine zhK _ _ ?_ (zhR _ ?_); (focus (first | trivial | (simp only [go_sem]; done) | (simp only [go_sem]; simp; done) | (simp only [go_sem]; simp; simp only [go_sem]))); refine dr_end rfl (zhE _ ?_))
            | refine seq_k fun zN zM zhN zhM => ?_
            | (refine condF_k ?_ ?_; focus (first | rfl | (simp [go_sem, F0]; done)))
            | (refine condT_k ?_ ?_; focus (first | rfl | (simp [go_sem, F0]; done)))
           refine ht_weak 29 (pls (termRows mx).flatten ++ pls (dhT 1 4).cells) rfl (by decide) (leaf_den _ _ _ _) ?_
           simp only [wkM, Nat.reduceEqDiff, reduceIte, if_true, if_false]
           refine region_k fun zK zhK => ?_
           simp only [go_sem, F0]
           repeat' (first | apply And.intro | intro _)
           refine zhK _ ?_
           refine zhN ⟨(j + 1, ⟨mx ++ [(dhT 1 4)], qs, out⟩), glt, g4, k1, k2, k5⟩ _ ?_ ?_ ?_
           · exact Nat.sub_lt_sub_left glt (Nat.lt_succ_self j)
           · (simp only [go_sem, leX, List.cons_append, List.nil_append, F0]; try simp)
           · (simp only [go_sem, leX, List.cons_append, List.nil_append, F0]; try simp)
         · obtain ⟨gcq, gj, gg, gs1, g4, hno, hnp, hnm, k1, k2, k5⟩ := tok_pre pk wb s ⟨mx, qs, out⟩ hx glt hlr.2 g4 g5 g6 g7 h5 h6 h8 hlt ht5.2
           have hM := rM_own (s := ⟨mx, qs, out⟩) hn
           have hm1 := cap4 hnm
           have hm0 := iInt mx.length
           have e : TelS.token pk (whoI wb) ⟨mx, qs, out⟩ 6 = ⟨mx ++ [(dhT 1 2)], qs, out⟩ := rfl
           rw [e] at g4 k1 k2 k5
           have k3 := token_ne pk (whoI wb) ⟨mx, qs, out⟩ 6 hn
           rw [e] at k3
           have hE := rM_own (s := ⟨mx ++ [(dhT 1 2)], qs, out⟩) k3

           have F0 := And.intro gcq <| And.intro gj <| And.intro glt <| And.intro gg <| And.intro gs1 <| And.intro hM <| And.intro hm1 <| And.intro hm0 <| And.intro hE <| And.intro flat_snoc <| F0
           iterate 46 first
            | (refine zhN _ ?_; clear zhN zhM)
            | (refine region_k fun zK zhK => ?_; simp only [go_sem, F0]; (repeat' (first | apply And.intro | intro _)))
            | refine zhK _ ?_
            | refine block_k fun zB zbn zbx zbr zbi => ?_
            | (refine zbn _ ?_; clear zbn zbx zbr zbi)
            | refine skip_k ?_
            | (refine dr_k (id := 33) mixed fun zE zhE => ?_; refine dr_piece_k (p := 0) 10 [91, 92, 93, 94, 95, 96, 97, 98, 99, 100] [0, 0, 0, 6, 0, 0, 48, 126, 1, 0, 1023, 2047, 4095, 2047] [] rfl (by kernel_rfl) rfl (by simp only [go_sem]) fun zR zK zhR zhK => ?_; simp only [go_sem, F0]; (repeat' (first | apply And.intro | intro _)); refine zhK _ _ trivial (zhR _ ?_); refine dr_runs_k 1 11 rfl (by kernel_rfl) rfl rfl fun zR zhR => ?_; simp only [go_sem, F0]; (repeat' (first | apply And.intro | intro _)); refine zhR _ ?_; refine dr_piece_k (p := 11) 14 [102] [0, 0, 0, 6, 0, 0, 48, 126, 1, 0, 1023, 2047, 4095, 2047] [(0, 2), (1, 2)] rfl (by kernel_rfl) rfl (by simp only [go_sem]) fun zR zK zhR zhK => ?_; simp only [go_sem, F0]; (repeat' (first | apply And.intro | intro _)); refine zhK _ _ ?_ (zhR _ ?_); (focus (first | trivial | (simp only [go_sem]; done) | (simp only [go_sem]; simp; done) | (simp only [go_sem]; simp; simp only [go_sem]))); refine dr_end rfl (zhE _ ?_))
            | refine seq_k fun zN zM zhN zhM => ?_
            | (refine condF_k ?_ ?_; focus (first | rfl | (simp [go_sem, F0]; done)))
            | (refine condT_k ?_ ?_; focus (first | rfl | (simp [go_sem, F0]; done)))
           refine ht_weak 29 (pls (termRows mx).flatten ++ pls (dhT 1 2).cells) rfl (by decide) (leaf_den _ _ _ _) ?_
           simp only [wkM, Nat.reduceEqDiff, reduceIte, if_true, if_false]
           refine region_k fun zK zhK => ?_
           simp only [go_sem, F0]
           repeat' (first | apply And.intro | intro _)
           refine zhK _ ?_
           refine zhN ⟨(j + 1, ⟨mx ++ [(dhT 1 2)], qs, out⟩), glt, g4, k1, k2, k5⟩ _ ?_ ?_ ?_
           · exact Nat.sub_lt_sub_left glt (Nat.lt_succ_self j)
           · (simp only [go_sem, leX, List.cons_append, List.nil_append, F0]; try simp)
           · (simp only [go_sem, leX, List.cons_append, List.nil_append, F0]; try simp)
         · rw [List.drop_length, TelS.turn] at g4
           have gcq := nltI' (n := l.length)
           rw [← g4] at h4
           have hno := bnd1 g5 (Nat.le_refl _) hlr.2 h5 hlt ht5.2
           have hnm := bnd6 g7 (Nat.le_refl _) hlr.2 h8 hlt ht5.2
           have k1 := tell_len ⟨mx, qs, out⟩ (atomT (20 + (i : Int)))
           have k2 := tell_ps ⟨mx, qs, out⟩ (atomT (20 + (i : Int)))
           have k6 := congrArg List.length (tell_mx ⟨mx, qs, out⟩ (atomT (20 + (i : Int))))
           have hn2 := tell_ne ⟨mx, qs, out⟩ (atomT (20 + (i : Int)))
           have ht := rtell_ ⟨mx, qs, out⟩ (atomT (20 + (i : Int))) hnm hno
           obtain ⟨q2, hq2⟩ : ∃ z, TelS.tell ⟨mx, qs, out⟩ (atomT (20 + (i : Int))) = z := ⟨_, rfl⟩
           rw [hq2] at h4 k1 k2 k6 hn2 ht
           have k4 := bnd4 k1 g5 hlr.2 h5
           have k5 := bnd5 k2 g6 hlr.2 h6
           have k7 := bnd7 k6 g7 hlr.2 h8
           have hE := rM_own hn2
           have hps : ((qs : Nat) : Int) = ((q2.ps : Nat) : Int) := by rw [k2]
           have hM := rM_own (s := ⟨mx, qs, out⟩) hn
           rw [show tokN ⟨mx, qs, out⟩ 21 = 750001 from if_neg hn, rtM_own hn, rtM_own hn2] at ht
           have F0 := And.intro gcq <| And.intro hM <| And.intro hE <| And.intro hps <| F0
           iterate 19 first
            | (refine region_k fun zK zhK => ?_; simp only [go_sem, F0]; (repeat' (first | apply And.intro | intro _)))
            | refine zhK _ ?_
            | (refine zhN _ ?_; clear zhN zhM)
            | (refine zhM _ _ ?_; clear zhN zhM)
            | refine exit_k ?_
            | (refine zbx _ ?_; clear zbn zbx zbr zbi)
            | (refine zbn _ ?_; clear zbn zbx zbr zbi)
            | ((all_goals (refine call_hand false [] (fun k => k) (fun _ _ => rfl) ?_ (by decide) ?_ ((atomof_ (20 + (i : Int))).plain fun _ _ h => h).hands ?_; iterate 2 (focus (first | rfl | (simp only [go_sem, F0] <;> first | done | rfl | simp))))); (all_goals (rintro v m ⟨hR, hm⟩; subst hR; subst hm)); (all_goals (refine And.intro ?_ (And.intro ?_ (And.intro ?_ ?_)); iterate 3 (focus (first | rfl | (simp only [go_sem, F0]; done) | (simp [go_sem, look, F0]; done))))); (all_goals (try simp only [go_sem, F0])); (all_goals (try simp only [go_sem, F0])); (all_goals repeat' (first | apply And.intro | intro _)))
            | ((all_goals (refine call_fnM (caps := [5, 6, 7]) (ks := [500000, 500002, 500003]) (vs := [argT (atomT (20 + (i : Int)))]) false [(500000, 5), (500001, 29), (500002, 6), (500003, 7), (750001, 111)] (fun k => k) ?_ ?_ (fun _ _ => rfl) ?_ (by decide) ?_ ?_ ht ?_; iterate 5 (focus (first | rfl | (simp only [go_sem, F0] <;> first | done | rfl | simp))))); (all_goals (rintro v m ⟨hR, hm⟩; subst hR; subst hm)); (all_goals (refine And.intro ?_ (And.intro ?_ (And.intro ?_ ?_)); iterate 3 (focus (first | rfl | (simp only [go_sem, F0]; done) | (simp [go_sem, look, F0]; done))))); (all_goals (try simp only [go_sem, F0])); (all_goals (try simp only [go_sem, F0])); (all_goals repeat' (first | apply And.intro | intro _)))
            | refine seq_k fun zN zM zhN zhM => ?_
            | (refine condF_k ?_ ?_; focus (first | rfl | (simp [go_sem, F0]; done)))
           refine zhN ⟨(i + 1, q2), hlt, h4, k4, k5, k7, fun _ => hn2⟩ _ ?_ ?_ ?_
           · exact Nat.sub_lt_sub_left hlt (Nat.lt_succ_self i)
           · (simp only [go_sem, leX, List.cons_append, List.nil_append, F0]; try simp)
           · (simp only [go_sem, leX, List.cons_append, List.nil_append, F0]; try simp)
     · rw [List.drop_length, telTurns] at h4
       have hcq := nltI' (n := ts.length)
       have hM0 := rM_own hs
       have hout : telOf lt pk p0 p1 ts = s := by rw [telOf, ← hq0, ← hq1]; exact h4.symm
       rw [hout] at zhZ
       have F0 := And.intro hcq <| And.intro hM0 <| F0
       have zE := fun m => told_terms (R := fun v m => v = .tup [.one (.pl (.R false 4 (termRows s.out))), .one (.pl (.i 0))] ∧ m = []) (m := m) (b := true) (k := 111) (by decide) s.out 0 ⟨rfl, rfl⟩
       exact HT.w
end Go.Sy

