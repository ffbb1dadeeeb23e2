/- Walks: the chain, as the document tells it. -/
import Derived.Test.YtbfllkipgfpkkaavtVB
set_option linter.unusedVariables false
set_option linter.unusedSimpArgs false
namespace Go.Sy
open Go.Proofs
attribute [local irreducible] atCall HT runOps runD onC onE onO onG goV goA goS onSt onGuard
theorem take_getD {α : Type} {l : List α} {n : Nat} {z : α} (h : n < l.length) : l.take (n + 1) = l.take n ++ [l.getD n z] := by
 rw [List.take_add_one, List.getElem?_eq_getElem h]; simp [List.getD, List.getElem?_eq_getElem h]
theorem eqLast {j n : Nat} (h : j + 1 = n) (hn : n ≤ 1000000) : Go.RowKit.wrap64 (((n : Nat) : Int) - 1) = ((j : Nat) : Int) := wnat (by omega) (by omega)
theorem neLast {j n : Nat} (h : j + 1 < n) (hn : n ≤ 1000000) : ¬ ((j : Nat) : Int) = Go.RowKit.wrap64 (((n : Nat) : Int) - 1) := by
 rw [show Go.RowKit.wrap64 (((n : Nat) : Int) - 1) = ((n - 1 : Nat) : Int) from wnat (by omega) (by omega)]; omega
theorem sealL_rows2 (k : Nat) (a b : TermD) : sealL k (termRows [a, b]).flatten (.s k [] 2 4) = .pl (.R false 4 (termRows [a, b])) := sealL_rows k [a, b]
theorem sealL_q {k j : Nat} (h : ¬ j = k) (d : List PL) (p : Path) : sealL k d (.p j p) = .p j p := by
 simp only [sealL, if_neg h]
theorem sealL_off2 (d : List PL) (p : Path) (n z : Nat) : sealL 25 d (.s 500001 p n z) = .s 500001 p n z := sealL_off d p n z (by decide)
theorem flat_get {l : List TermD} {n : Nat} (h : n < l.length) : List.take 4 (List.drop (n * 4) (pls (termRows l).flatten)) = pls (l.getD n (atomT 0)).cells := by
 induction l generalizing n with
 | nil => exact absurd h (Nat.not_lt_zero _)
 | cons a r ih =>
  rw [termRows, List.flatten_cons, ← pls_app]
  have ha : (pls a.cells).length = 4 := by rw [pls_len, cells_len]
  cases n with
  | zero => rw [Nat.zero_mul, List.drop_zero, List.take_append_of_le_length (by omega), ← ha, List.take_length]; rfl
  | succ k =>
   rw [show (k + 1) * 4 = 4 + k * 4 from by omega, ← List.drop_drop, ← ha, List.drop_left, ha]
   simp only [List.getD_cons_succ]; exact ih (Nat.lt_of_succ_lt_succ h)
theorem rowI {j n : Nat} (h : j < n) : j * 4 + 4 ≤ n * 4 := by omega
theorem kdf_cells (w : Int) (c x : TermD) : (kdfT w c x).cells = [.i 6, .i w, .i 0, .R false 4 (termRows [c, x])] := by rw [kdfT, TermD.cells]
set_option maxHeartbeats 1600000 in
set_option maxRecDepth 100000 in
theorem chain_ (which : Int) (mx : List TermD) (hn : mx.length ≤ 1000000) :
 CtM Try.prog 40 [.w (.one (.pl (.i which))), .w (.one (.p 500000 []))] [(500000, ⟨false, [.s 500001 [] mx.length 4]⟩), (500001, ⟨true, pls (termRows mx).flatten⟩)] (Told (fun v m => v = argT (chainT which mx) ∧ m = [(500000, ⟨false, [.s 500001 [] mx.length 4]⟩), (500001, ⟨true, pls (termRows mx).flatten⟩)])) := by
 have F0 := And.intro lit_term <| And.intro cells_len <| And.intro pls_len <| And.intro pls_has <| And.intro tflat_length <| And.intro flat2 <| And.intro leavesIn_pls <| killL_pls
 refine CtM.k Try.func40 rfl Try.ntmps40 (congrArg Array.toList Try.results40) (by simp) fun w0 ro may fx => ?_
 refine sr_k fun zK1 zhK1 => ?_
 simp only [go_sem, F0]
 repeat' (first | apply And.intro | intro _)
 refine zhK1 _ ?_
 refine sr_k fun zK2 zhK2 => ?_
 simp only [go_sem, F0]
 repeat' (first | apply And.intro | intro _)
 all_goals (refine call_hand false [] (fun k => k) (fun _ _ => rfl) ?_ (by decide) ?_ ((atomof_ 0).plain fun _ _ h => h).hands ?_; iterate 2 (focus (first | rfl | (simp only [go_sem, F0] <;> first | done | rfl | simp))))
 all_goals (rintro v m ⟨hR, hm⟩; subst hR; subst hm)
 all_goals (refine And.intro ?_ (And.intro ?_ (And.intro ?_ ?_)); iterate 3 (focus (first | rfl | (simp only [go_sem, F0]; done) | (simp [go_sem, look, F0]; done))))
 all_goals (try simp only [go_sem, F0])
 all_goals (try simp only [go_sem, F0])
 all_goals repeat' (first | apply And.intro | intro _)
 refine zhK2 _ ?_
 refine seq_k fun zN3 zM3 zhN3 zhM3 => ?_
 refine sr_k fun zK4 zhK4 => ?_
 simp only [go_sem, F0]
 repeat' (first | apply And.intro | intro _)
 refine zhK4 _ ?_
 refine block_k fun zB5 zbn5 zbx5 zbr5 zbi5 => ?_
 refine loop_b [(0, .w (.one (.pl (.i which)))), (1, .w (.one (.p 500000 []))), (3, .w (.one (.p 3 []))), (4, .w (.one (.p 4 []))), (9, .w (.one (.s 500001 [] mx.length 4))), (10, .w (.one (.pl (.i ((mx.length : Nat) : Int)))))] [(3, ⟨false, [.pl (.i 0), .pl (.i 0), .pl (.i 0), .pl (.R true 1 [])]⟩), (500000, ⟨false, [.s 500001 [] mx.length 4]⟩), (500001, ⟨true, pls (termRows mx).flatten⟩)] (fun y => [(11, .w (.one (.pl (.i ((y.1.1 : Nat) : Int)))))]) (fun y => [(4, ⟨false, pls y.1.2.cells⟩)]) (fun y => mx.length - y.1.1) (⟨(0, atomT 0), Nat.zero_le _, (by simp [chainT, chainG])⟩ : {y : Nat × TermD // y.1 ≤ mx.length ∧ y.2 = chainT (if y.1 = mx.length then which else 1) (mx.take y.1)}) ?_ ?_ ?_
 · (simp only [go_sem, leX, List.cons_append, List.nil_append, F0]; try simp)
 · (simp only [go_sem, leX, List.cons_append, List.nil_append, F0]; try simp)
 intro zz zN6 zM6 zhN6 zhM6
 simp only [List.cons_append, List.nil_append]
 have yN0 := zhN6
 obtain ⟨⟨j, T⟩, g1, g4⟩ := zz
 simp only at g1 g4
 have hd : (j < mx.length ∧ j + 1 < mx.length) ∨ (j < mx.length ∧ j + 1 = mx.length) ∨ j = mx.length := by
  rcases Nat.lt_or_eq_of_le g1 with h | h
  · rcases Nat.lt_or_eq_of_le (show j + 1 ≤ mx.length from h) with h2 | h2
    · exact .inl ⟨h, h2⟩
    · exact .inr (.inl ⟨h, h2⟩)
  · exact .inr (.inr h)
 rcases hd with ⟨glt, hlast⟩ | ⟨glt, hlast⟩ | rfl
 · have gcq := ltI' glt
   have gj := iInt j
   have gg := flat_get glt
   have gr := rowI glt
   obtain ⟨x, hx⟩ : ∃ x, mx.getD j (atomT 0) = x := ⟨_, rfl⟩
   rw [hx] at gg
   have gs1 := wsucc' glt hn
   have gl := neLast hlast hn
   have g4' : kdfT 1 T x = chainT (if j + 1 = mx.length then which else 1) (mx.take (j + 1)) := by
    rw [take_getD (z := atomT 0) glt, hx, chainT_snoc, if_neg (Nat.ne_of_lt hlast), g4, if_neg (Nat.ne_of_lt glt)]
   have hkc := kdf_cells 1 T x
   have F0 := And.intro gcq <| And.intro gj <| And.intro glt <| And.intro gg <| And.intro gr <| And.intro gs1 <| And.intro gl <| And.intro hkc <| F0
   refine sr_k fun zK7 zhK7 => ?_
   simp only [go_sem, F0]
   repeat' (first | apply And.intro | intro _)
   refine zhK7 _ ?_
   refine seq_k fun zN8 zM8 zhN8 zhM8 => ?_
   refine condT_k (by first | rfl | (simp [go_sem, F0]; done)) ?_
   refine skip_k ?_
   refine zhN8 _ ?_
   refine seq_k fun zN9 zM9 zhN9 zhM9 => ?_
   refine block_k fun zB10 zbn10 zbx10 zbr10 zbi10 => ?_
   refine sr_k fun zK11 zhK11 => ?_
   simp only [go_sem, F0]
   repeat' (first | apply And.intro | intro _)
   refine zhK11 _ ?_
   refine sr_k fun zK12 zhK12 => ?_
   simp only [go_sem, F0]
   repeat' (first | apply And.intro | intro _)
   refine zhK12 _ ?_
   refine seq_k fun zN13 zM13 zhN13 zhM13 => ?_
   refine sr_k fun zK14 zhK14 => ?_
   simp only [go_sem, F0]
   repeat' (first | apply And.intro | intro _)
   refine zhK14 _ ?_
   refine condF_k (by first | rfl | (simp [go_sem, F0]; done)) ?_
   refine skip_k ?_
   refine zhN13 _ ?_
   refine region_k fun zK15 zhK15 => ?_
   simp only [go_sem, F0]
   repeat' (first | apply And.intro | intro _)
   refine zhK15 _ ?_
   refine zbn10 _ ?_
   refine zhN9 _ ?_
   refine ht_seal 25 (termRows [T, x]).flatten (b := true) (by rw [flat2]; simp [look]) (by decide) ?_
   simp only [St.laid, sealE, sealM, sealV, sealW, List.map_cons, List.map_nil, sealL_pls, sealL_p, sealL_rows2, sealL_q (j := 3) (k := 25) (by decide), sealL_q (j := 4) (k := 25) (by decide), sealL_q (j := 6) (k := 25) (by decide), sealL_q (j := 500000) (k := 25) (by decide), sealL_q (j := 500001) (k := 25) (by decide), sealL_off2, Nat.reduceLT, Nat.reduceEqDiff, if_true, if_false, reduceIte, F0]
   refine region_k fun zK16 zhK16 => ?_
   simp only [go_sem, F0]
   repeat' (first | apply And.intro | intro _)
   refine zhK16 _ ?_
   refine zhN6 ⟨(j + 1, kdfT 1 T x), glt, g4'⟩ _ ?_ ?_ ?_
   · exact Nat.sub_lt_sub_left glt (Nat.lt_succ_self j)
   · (simp only [go_sem, leX, List.cons_append, List.nil_append, F0]; try simp)
   · (simp only [go_sem, leX, List.cons_append, List.nil_append, F0]; try simp)
 · have gcq := ltI' glt
   have gj := iInt j
   have gg := flat_get glt
   have gr := rowI glt
   obtain ⟨x, hx⟩ : ∃ x, mx.getD j (atomT 0) = x := ⟨_, rfl⟩
   rw [hx] at gg
   have gs1 := wsucc' glt hn
   have gl := eqLast hlast hn
   have g4' : kdfT which T x = chainT (if j + 1 = mx.length then which else 1) (mx.take (j + 1)) := by
    rw [take_getD (z := atomT 0) glt, hx, chainT_snoc, if_pos hlast, g4, if_neg (Nat.ne_of_lt glt)]
   have hkc := kdf_cells which T x
   have F0 := And.intro gcq <| And.intro gj <| And.intro glt <| And.intro gg <| And.intro gr <| And.intro gs1 <| And.intro gl <| And.intro hkc <| F0
   refine sr_k fun zK17 zhK17 => ?_
   simp only [go_sem, F0]
   repeat' (first | apply And.intro | intro _)
   refine zhK17 _ ?_
   refine seq_k fun zN18 zM18 zhN18 zhM18 => ?_
   refine condT_k (by first | rfl | (simp [go_sem, F0]; done)) ?_
   refine skip_k ?_
   refine zhN18 _ ?_
   refine seq_k fun zN19 zM19 zhN19 zhM19 => ?_
   refine block_k fun zB20 zbn20 zbx20 zbr20 zbi20 => ?_
   refine sr_k fun zK21 zhK21 => ?_
   simp only [go_sem, F0]
   repeat' (first | apply And.intro | intro _)
   refine zhK21 _ ?_
   refine sr_k fun zK22 zhK22 => ?_
   simp only [go_sem, F0]
   repeat' (first | apply And.intro | intro _)
   refine zhK22 _ ?_
   refine seq_k fun zN23 zM23 zhN23 zhM23 => ?_
   refine sr_k fun zK24 zhK24 => ?_
   simp only [go_sem, F0]
   repeat' (first | apply And.intro | intro _)
   refine zhK24 _ ?_
   refine condT_k (by first | rfl | (simp [go_sem, F0]; done)) ?_
   refine region_k fun zK25 zhK25 => ?_
   simp only [go_sem, F0]
   repeat' (first | apply And.intro | intro _)
   refine zhK25 _ ?_
   refine zhN23 _ ?_
   refine region_k fun zK26 zhK26 => ?_
   simp only [go_sem, F0]
   repeat' (first | apply And.intro | intro _)
   refine zhK26 _ ?_
   refine zbn20 _ ?_
   refine zhN19 _ ?_
   refine ht_seal 25 (termRows [T, x]).flatten (b := true) (by rw [flat2]; simp [look]) (by decide) ?_
   simp only [St.laid, sealE, sealM, sealV, sealW, List.map_cons, List.map_nil, sealL_pls, sealL_p, sealL_rows2, sealL_q (j := 3) (k := 25) (by decide), sealL_q (j := 4) (k := 25) (by decide), sealL_q (j := 6) (k := 25) (by decide), sealL_q (j := 500000) (k := 25) (by decide), sealL_q (j := 500001) (k := 25) (by decide), sealL_off2, Nat.reduceLT, Nat.reduceEqDiff, if_true, if_false, reduceIte, F0]
   refine region_k fun zK27 zhK27 => ?_
   simp only [go_sem, F0]
   repeat' (first | apply And.intro | intro _)
   refine zhK27 _ ?_
   refine zhN6 ⟨(j + 1, kdfT which T x), glt, g4'⟩ _ ?_ ?_ ?_
   · exact Nat.sub_lt_sub_left glt (Nat.lt_succ_self j)
   · (simp only [go_sem, leX, List.cons_append, List.nil_append, F0]; try simp)
   · (simp only [go_sem, leX, List.cons_append, List.nil_append, F0]; try simp)
 · rw [if_pos rfl, List.take_length] at g4
   have gcq := nltI' (n := mx.length)
   have F0 := And.intro gcq <| F0
   refine sr_k fun zK28 zhK28 => ?_
   simp only [go_sem, F0]
   repeat' (first | apply And.intro | intro _)
   refine zhK28 _ ?_
   refine seq_k fun zN29 zM29 zhN29 zhM29 => ?_
   refine condF_k (by first | rfl | (simp [go_sem, F0]; done)) ?_
   refine exit_k ?_
   refine zhM29 _ _ ?_
   refine zhM6 _ _ ?_
   refine zbx5 _ ?_
   refine zhN3 _ ?_
   refine sr_k fun zK30 zhK30 => ?_
   simp only [go_sem, F0]
   repeat' (first | apply And.intro | intro _)
   refine zhK30 _ ?_
   refine ret_k ?_
   simp only [go_sem, F0]
   all_goals (refine told_2 (a := 500000) (b := 500001) ⟨by rw [← g4], rfl⟩ ?_ ?_ <;> simp [look])
end Go.Sy

