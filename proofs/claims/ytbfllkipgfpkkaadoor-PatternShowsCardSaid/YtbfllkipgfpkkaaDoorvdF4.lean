/- Walks: a pattern with psks, as the document tells it. -/
import Derived.Test.YtbfllkipgfpkkaaDoorvdF2
set_option linter.unusedVariables false
set_option linter.unusedSimpArgs false
namespace Go.Sy
open Go.Proofs
attribute [local irreducible] atCall HT runOps runD onC onE onO onG goV goA goS onSt onGuard
def psk1 : List UInt8 := [112, 115, 107, 32]
def psk2 : List UInt8 := [32, 112, 115, 107]
def addT (l : List (List UInt8)) : List Int → List (List UInt8)
 | [] => l
 | n :: r => addT (if n = 0 then l.set 2 (psk1 ++ l.getD 2 []) else l.set (n.toNat + 1) (l.getD (n.toNat + 1) [] ++ psk2)) r
theorem addT_nil (l : List (List UInt8)) : addT l [] = l := rfl
theorem addT_cons (l : List (List UInt8)) (n : Int) (r : List Int) : addT l (n :: r) = addT (if n = 0 then l.set 2 (psk1 ++ l.getD 2 []) else l.set (n.toNat + 1) (l.getD (n.toNat + 1) [] ++ psk2)) r := rfl
def okT (T i : Nat) (a b : List UInt8) (l : List (List UInt8)) : Prop := l.length = T + 2 ∧ (∀ t ∈ l, (∀ b ∈ t, b.toNat < 128) ∧ t.length ≤ 100 + 4 * i) ∧ l.getD 0 [] = a ∧ l.getD 1 [] = b
theorem okT_set {T i k : Nat} {a b : List UInt8} {l : List (List UInt8)} (h : okT T i a b l) (hk : 2 ≤ k) {t : List UInt8} (ht : ∀ b ∈ t, b.toNat < 128) (htl : t.length ≤ 100 + 4 * (i + 1)) : okT T (i + 1) a b (l.set k t) := by
 obtain ⟨h1, h2, h3, h4⟩ := h
 refine ⟨by rw [List.length_set, h1], fun u hu => ?_, ?_, ?_⟩
 · rcases List.mem_or_eq_of_mem_set hu with h | rfl
   · exact ⟨(h2 u h).1, Nat.le_trans (h2 u h).2 (by omega)⟩
   · exact ⟨ht, htl⟩
 · rw [← h3]; simp [List.getD, List.getElem?_set, show ¬ k = 0 by omega]
 · rw [← h4]; simp [List.getD, List.getElem?_set, show ¬ k = 1 by omega]
theorem okT_get {T i k : Nat} {a b : List UInt8} {l : List (List UInt8)} (h : okT T i a b l) (hk : k < T + 2) : (∀ b ∈ l.getD k [], b.toNat < 128) ∧ (l.getD k []).length ≤ 100 + 4 * i := by
 have hk' : k < l.length := by rw [h.1]; exact hk
 have hm : l.getD k [] ∈ l := by simp [List.getD, List.getElem?_eq_getElem hk']
 exact h.2.1 _ hm
theorem ascii_app {a b : List UInt8} (ha : ∀ x ∈ a, x.toNat < 128) (hb : ∀ x ∈ b, x.toNat < 128) : ∀ x ∈ a ++ b, x.toNat < 128 := by
 intro x hx
 rcases List.mem_append.mp hx with h | h
 · exact ha x h
 · exact hb x h
theorem psk1_ok : ∀ x ∈ psk1, x.toNat < 128 := by decide
theorem psk2_ok : ∀ x ∈ psk2, x.toNat < 128 := by decide
theorem okT_front {T i : Nat} {a b : List UInt8} {l : List (List UInt8)} (h : okT T i a b l) (hT : 1 ≤ T) : okT T (i + 1) a b (l.set 2 (psk1 ++ l.getD 2 [])) := by
 have g := okT_get h (k := 2) (by omega)
 refine okT_set h (Nat.le_refl _) (ascii_app psk1_ok g.1) ?_
 have := g.2
 rw [List.length_append]; show 4 + _ ≤ _; omega
theorem okT_back {T i k : Nat} {a b : List UInt8} {l : List (List UInt8)} (h : okT T i a b l) (h1 : 1 ≤ k) (hk : k ≤ T) : okT T (i + 1) a b (l.set (k + 1) (l.getD (k + 1) [] ++ psk2)) := by
 have g := okT_get h (k := k + 1) (by omega)
 refine okT_set h (by omega) (ascii_app g.1 psk2_ok) ?_
 have := g.2
 rw [List.length_append]; show _ + 4 ≤ _; omega
theorem set_put {l : List (List UInt8)} {k : Nat} {t : List UInt8} (h : k < l.length) : (pls (l.map PL.str)).take k ++ (.pl (.str t) :: (pls (l.map PL.str)).drop (k + 1)) = pls ((l.set k t).map PL.str) := by
 rw [List.set_eq_take_append_cons_drop, if_pos h]
 simp [pls, List.map_take, List.map_drop]
theorem set_put2 {l : List (List UInt8)} {k : Nat} {t : List UInt8} (h : k < l.length) : ((pls (l.map PL.str)).take k ++ [.pl (.str t)]) ++ (pls (l.map PL.str)).drop (k + 1) = pls ((l.set k t).map PL.str) := by
 rw [← set_put h]; simp
theorem strP_at {l : List (List UInt8)} {i : Nat} (h : i < l.length) : List.take 1 (List.drop i (pls (l.map PL.str))) = [.pl (.str (l.getD i []))] := by rw [← strC_pls]; exact strC_at h
def tLf (nm : Nat) (ds : List (List Int)) : L := match ds with | [] => .pl (.R true 1 []) | _ :: _ => .s nm [] ds.length 1
def tMf (nm : Nat) (ds : List (List Int)) : List (Nat × Ob) := match ds with | [] => [] | _ :: _ => [(nm, ⟨true, pls (ds.map rowP)⟩)]
theorem tL_nil (nm : Nat) : tLf nm [] = .pl (.R true 1 []) := rfl
theorem tM_nil (nm : Nat) : tMf nm [] = [] := rfl
theorem tL_own {nm : Nat} {l : List (List Int)} (h : l ≠ []) : tLf nm l = .s nm [] l.length 1 := by cases l with | nil => exact absurd rfl h | cons a r => rfl
theorem tM_own {nm : Nat} {l : List (List Int)} (h : l ≠ []) : tMf nm l = [(nm, ⟨true, pls (l.map rowP)⟩)] := by cases l with | nil => exact absurd rfl h | cons a r => rfl
theorem tL_snoc (nm : Nat) (l : List (List Int)) (x : List Int) : tLf nm (l ++ [x]) = .s nm [] (l.length + 1) 1 := by rw [tL_own (by simp)]; simp
theorem tM_snoc (nm : Nat) (l : List (List Int)) (x : List Int) : tMf nm (l ++ [x]) = [(nm, ⟨true, pls (l.map rowP) ++ [.pl (rowP x)]⟩)] := by rw [tM_own (by simp)]; simp [pls]
theorem tL_one (nm : Nat) (x : List Int) : tLf nm [x] = .s nm [] 1 1 := rfl
theorem tM_one (nm : Nat) (x : List Int) : tMf nm [x] = [(nm, ⟨true, [.pl (rowP x)]⟩)] := rfl
theorem rowP_len (l : List (List Int)) : (l.map rowP).length = l.length := List.length_map ..
def refP (bs : List UInt8) (lt : Bool) (ps : List Int) (ex : Bool) (l : List (List UInt8)) : List L := [.pl (.str bs), .pl (.b lt), .pl (.R ex 1 (iRows ps)), .pl (rowP (tokL (l.getD 0 []))), .pl (rowP (tokL (l.getD 1 []))), .pl (.R false 1 ((l.drop 2).map fun t => [rowP (tokL t)]))]
def rwV (bs : List UInt8) (lt : Bool) (T : Int) (L0 : List (List UInt8)) (ps : List Int) (ex : Bool) : V := if wchk T (-1) ps = 0 then .tup [.agg (refP bs lt ps ex (addT L0 ps)), .one (.pl (.i 0))] else .tup [.agg zeroP, .one (.pl (.i (wchk T (-1) ps)))]
theorem rwV_bad {bs lt L0 ps ex} {T e : Int} (h : e = wchk T (-1) ps) (he : e ≠ 0) : rwV bs lt T L0 ps ex = .tup [.agg zeroP, .one (.pl (.i e))] := by
 unfold rwV; rw [← h, if_neg he]
theorem chunks_P : ∀ l : List PL, chunks 1 l.length l = l.map fun x => [x]
 | [] => rfl
 | a :: r => by
  have ih := chunks_P r
  simp only [List.length_cons, chunks, List.take_succ_cons, List.take_zero, List.drop_succ_cons, List.drop_zero, List.map_cons]
  rw [ih]
theorem rwV_ok {bs lt ps ex L0 l} {T : Int} {m : List (Nat × Ob)} {nm : Nat} (hn : nm < 500000) (h : wchk T (-1) ps = 0) (hl : l = addT L0 ps) {a b : List UInt8} (ha : l.getD 0 [] = a) (hb : l.getD 1 [] = b) {ds : List (List Int)} (hd : ds = (l.drop 2).map tokL) {n : Nat} (hln : n = ds.length) (hm : look m nm = some ⟨true, pls (ds.map rowP)⟩) :
 Told (fun v m => v = rwV bs lt T L0 ps ex ∧ m = []) (.tup [.agg [.pl (.str bs), .pl (.b lt), .pl (.R ex 1 (iRows ps)), .pl (rowP (tokL a)), .pl (rowP (tokL b)), .s nm [] n 1], .one (.pl (.i 0))]) m := by
 subst ha hb hln
 refine told_seal nm (c := ds.map rowP) hm hn ?_
 have h0 : pok (ds.map rowP).length [] ∧ psz (ds.map rowP).length [] = ds.length * 1 := ⟨trivial, by simp [psz]⟩
 simp only [sealV, sealW, sealL, List.map_cons, List.map_nil, if_true, if_pos h0]
 rw [show rd (ds.map rowP) [] = ds.map rowP from rfl, show ds.length = (ds.map rowP).length by simp, chunks_P]
 refine told_plain rfl ⟨?_, rfl⟩
 unfold rwV refP
 rw [if_pos h, ← hl, hd]
 simp [List.map_drop, Function.comp_def]
theorem done_snoc {l : List (List UInt8)} {ds : List (List Int)} {i T : Nat} (h : ds = ((l.drop 2).take i).map tokL) (hl : l.length = T + 2) (hi : i < T) : ds ++ [tokL (l.getD (i + 2) [])] = ((l.drop 2).take (i + 1)).map tokL := by
 have hd : i < (l.drop 2).length := by rw [List.length_drop]; omega
 rw [h, List.take_add_one, List.getElem?_eq_getElem hd]
 simp [List.getD, show i + 2 = 2 + i by omega, List.getElem?_eq_getElem (show 2 + i < l.length by omega)]
theorem done_len {l : List (List UInt8)} {ds : List (List Int)} {i T : Nat} (h : ds = ((l.drop 2).take i).map tokL) (hl : l.length = T + 2) (hi : i ≤ T) : ds.length = i := by rw [h]; simp; omega
theorem wk1 {k : Nat} (h : k ≤ 3) : Go.RowKit.wrap64 (1 + (k : Int)) = ((k + 1 : Nat) : Int) := wnat (by omega) (by omega)
theorem i_ge (k : Nat) : (0 : Int) ≤ ((k : Nat) : Int) := Int.natCast_nonneg k
theorem add_ok {a i n : Nat} (h : a ≤ 100 + 4 * i) (h1 : i < n) (h2 : n ≤ 1000000) : ([112, 115, 107, 32] : List UInt8).length + a ≤ 9223372036854775807 := by show 4 + a ≤ _; omega
theorem add_ok2 {a i n : Nat} (h : a ≤ 100 + 4 * i) (h1 : i < n) (h2 : n ≤ 1000000) : a + ([32, 112, 115, 107] : List UInt8).length ≤ 9223372036854775807 := by show a + 4 ≤ _; omega
theorem sub_at {α : Type} {X : List α} {j k n : Nat} (h : j < n) : List.take 1 (List.drop j (List.take n (List.drop k X))) = List.take 1 (List.drop (k + j) X) := by rw [List.drop_take, List.take_take, Nat.min_eq_left (by omega), List.drop_drop]
theorem lt_of_ok {T i : Nat} {a b l} (h : okT T i a b l) {k : Nat} (hk : k < T + 2) : k < l.length := by rw [h.1]; exact hk
set_option maxHeartbeats 3200000 in
set_option maxRecDepth 100000 in
theorem rwith2_w (bs s s1 A B : List UInt8) (lt : Bool) (L0 : List (List UInt8)) (ps : List Int) (ex : Bool) (hbs : decide (bs = [88, 88, 102, 97, 108, 108, 98, 97, 99, 107]) = lt) (hs : ¬ s = []) (hl : ¬ (4 : Int) < ((ps.length : Nat) : Int)) (hok : okT 2 0 A B L0) (c1 : Ct Tryd.prog 14 [.w (.one (.pl (.str bs)))] (fun v m => v = .w (.one (.pl (.str s))))) (c2 : Ct Tryd.prog 16 [.w (.one (.pl (.str s))), .w (.one (.pl (.str [59])))] (fun v m => v = .w (.one (.pl (.str s1))))) (c3 : Ct Tryd.prog 15 [.w (.one (.pl (.str s1))), .w (.one (.pl (.str [59])))] (fun v m => v = .w (.one (.s 1031 [(0, 4)] 4 1)) ∧ m = [(1031, ⟨true, strC L0⟩)])) :
 CtM Tryd.prog 7 [.w (.one (.pl (.str bs))), .w (.one (.pl (.R ex 1 (iRows ps))))] [(1000000, ⟨false, bytesC spaceL⟩)] (Told (fun v m => v = rwV bs lt 2 L0 ps ex ∧ m = [])) := by
 have hps : ps.length ≤ 1000000 := by omega
 have hL0 := hok.1
 have F0 := And.intro tL_nil <| And.intro tM_nil <| And.intro iRows_length <| And.intro hl <| And.intro hs <| And.intro strC_pls <| And.intro mapS_length <| And.intro iV_nil <| (@leX_self Ob)
 refine CtM.k Tryd.func7 rfl Tryd.ntmps7 (congrArg Array.toList Tryd.results7) (by simp) fun w0 ro may fx => ?_
 refine top_k fun zZ zhZ => ?_
 iterate 29 first
  | (refine sr_k fun zK zhK => ?_; simp only [go_sem, F0]; (repeat' (first | apply And.intro | intro _)))
  | refine zhK _ ?_
  | refine skip_k ?_
  | (refine zhN _ ?_; clear zhN zhM)
  | refine block_k fun zB zbn zbx zbr zbi => ?_
  | ((all_goals (refine call_view (fun k => k) (fun _ _ => rfl) ?_ (c1.plain fun _ _ h => h) ?_; focus (first | rfl | (simp only [go_sem, F0] <;> rfl)))); (all_goals (rintro v m ⟨hR, hm⟩; subst hR; subst hm)); (all_goals refine And.intro (by first | rfl | simp only [go_sem, F0]) (And.intro (by first | rfl | simp only [go_sem, F0]) ?_)); (all_goals simp only [go_sem, F0]); (all_goals repeat' (first | apply And.intro | intro _)))
  | ((all_goals (refine call_view (fun k => k) (fun _ _ => rfl) ?_ (c2.plain fun _ _ h => h) ?_; focus (first | rfl | (simp only [go_sem, F0] <;> rfl)))); (all_goals (rintro v m ⟨hR, hm⟩; subst hR; subst hm)); (all_goals refine And.intro (by first | rfl | simp only [go_sem, F0]) (And.intro (by first | rfl | simp only [go_sem, F0]) ?_)); (all_goals simp only [go_sem, F0]); (all_goals repeat' (first | apply And.intro | intro _)))
  | ((all_goals (refine call_hand false [] (fun k => k) (fun _ _ => rfl) ?_ (by decide) ?_ c3.hands ?_; iterate 2 (focus (first | rfl | (simp only [go_sem, F0] <;> first | done | rfl | simp))))); (all_goals (rintro v m ⟨hR, hm⟩; subst hR; subst hm)); (all_goals (refine And.intro ?_ (And.intro ?_ (And.intro ?_ ?_)); iterate 3 (focus (first | rfl | (simp only [go_sem, F0]; done) | (simp [go_sem, look, F0]; done))))); (all_goals (try simp only [go_sem, F0])); (all_goals (try simp only [go_sem, F0])); (all_goals repeat' (first | apply And.intro | intro _)))
  | refine seq_k fun zN zM zhN zhM => ?_
  | (refine condF_k ?_ ?_; focus (first | rfl | (simp [go_sem, F0]; done)))
 refine loop_k (fun y => [(32, .w (.one (.pl (.i ((y.1.1 : Nat) : Int))))), (9, .w (.one (.pl (.i y.1.2.1))))]) (fun y => [(1031, ⟨true, strC y.1.2.2⟩)]) (fun y => ps.length - y.1.1) (⟨(0, -1, L0), Nat.zero_le _, rfl, rfl, hok⟩ : {y : Nat × Int × List (List UInt8) // y.1 ≤ ps.length ∧ wchk 2 y.2.1 (ps.drop y.1) = wchk 2 (-1) ps ∧ addT y.2.2 (ps.drop y.1) = addT L0 ps ∧ okT 2 y.1 A B y.2.2}) ?_ ?_ ?_
 · (simp only [go_sem, leX, List.cons_append, List.nil_append, F0]; try simp)
 · (simp only [go_sem, leX, List.cons_append, List.nil_append, F0]; try simp)
 intro yy zN zM zhN zhM
 simp only [List.cons_append, List.nil_append]
 have yN0 := zhN
 obtain ⟨⟨i, last, l⟩, h1, h2, h3, h4⟩ := yy
 simp only at h1 h2 h3 h4
 have hd : (i < ps.length ∧ ps.getD i 0 < 0) ∨ (i < ps.length ∧ ¬ ps.getD i 0 < 0 ∧ 2 < ps.getD i 0) ∨ (i < ps.length ∧ ¬ ps.getD i 0 < 0 ∧ ¬ 2 < ps.getD i 0 ∧ ps.getD i 0 ≤ last) ∨ (i < ps.length ∧ ¬ ps.getD i 0 ≤ last ∧ ps.getD i 0 = 0) ∨ (i < ps.length ∧ ¬ ps.getD i 0 < 0 ∧ ¬ 2 < ps.getD i 0 ∧ ¬ ps.getD i 0 ≤ last ∧ ¬ ps.getD i 0 = 0) ∨ i = ps.length := by omega
 rcases hd with ⟨glt, hb⟩ | ⟨glt, hb, hc⟩ | ⟨glt, hb, hc, hle⟩ | ⟨glt, hle, h0⟩ | ⟨glt, hb, hc, hle, h0⟩ | rfl
 · have gcq := ltI glt
   have gj := Int.natCast_nonneg i
   have gg := iRows_get glt
   obtain ⟨x, hx⟩ : ∃ x, ps.getD i 0 = x := ⟨_, rfl⟩
   rw [drop_getD (z := 0) glt, wchk_cons, hx] at h2
   rw [drop_getD (z := 0) glt, addT_cons, hx] at h3
   rw [hx] at gg hb
   rw [if_pos (.inl hb)] at h2
   have zE := fun m => told_plain (R := (fun v m => v = rwV bs lt 2 L0 ps ex ∧ m = [])) (m := m) rfl ⟨(rwV_bad (T := 2) h2 (by decide)).symm, rfl⟩
   have F0 := And.intro gcq <| And.intro gj <| And.intro glt <| And.intro gg <| And.intro hb <| F0
   exact HT.w
 · have gcq := ltI glt
   have gj := Int.natCast_nonneg i
   have gg := iRows_get glt
   obtain ⟨x, hx⟩ : ∃ x, ps.getD i 0 = x := ⟨_, rfl⟩
   rw [drop_getD (z := 0) glt, wchk_cons, hx] at h2
   rw [drop_getD (z := 0) glt, addT_cons, hx] at h3
   rw [hx] at gg hb hc
   rw [if_pos (.inr hc)] at h2
   have zE := fun m => told_plain (R := (fun v m => v = rwV bs lt 2 L0 ps ex ∧ m = [])) (m := m) rfl ⟨(rwV_bad (T := 2) h2 (by decide)).symm, rfl⟩
   have F0 := And.intro gcq <| And.intro gj <| And.intro glt <| And.intro gg <| And.intro hb <| And.intro hc <| F0
   exact HT.w
 · have gcq := ltI glt
   have gj := Int.natCast_nonneg i
   have gg := iRows_get glt
   obtain ⟨x, hx⟩ : ∃ x, ps.getD i 0 = x := ⟨_, rfl⟩
   rw [drop_getD (z := 0) glt, wchk_cons, hx] at h2
   rw [drop_getD (z := 0) glt, addT_cons, hx] at h3
   rw [hx] at gg hb hc hle
   rw [if_neg (by omega), if_pos hle] at h2
   have zE := fun m => told_plain (R := (fun v m => v = rwV bs lt 2 L0 ps ex ∧ m = [])) (m := m) rfl ⟨(rwV_bad (T := 2) h2 (by decide)).symm, rfl⟩
   have F0 := And.intro gcq <| And.intro gj <| And.intro glt <| And.intro gg <| And.intro hb <| And.intro hc <| And.intro hle <| F0
   exact HT.w
 · have gcq := ltI glt
   have gj := Int.natCast_nonneg i
   have gg := iRows_get glt
   obtain ⟨x, hx⟩ : ∃ x, ps.getD i 0 = x := ⟨_, rfl⟩
   rw [drop_getD (z := 0) glt, wchk_cons, hx] at h2
   rw [drop_getD (z := 0) glt, addT_cons, hx] at h3
   rw [hx] at gg hle h0
   subst h0
   have hle0 := hle
   rw [if_neg (by omega), if_neg hle] at h2
   rw [if_pos rfl] at h3
   have gadd := fun P t => bin_add_str2 P t [112, 115, 107, 32] (l.getD 2 []) (add_ok (okT_get h4 (k := 2) (by decide)).2 glt hps)
   have hlen : l.length = 4 := h4.1
   have ga := strP_at (lt_of_ok h4 (k := 2) (by decide))
   have gset := set_put (t := psk1 ++ l.getD 2 []) (lt_of_ok h4 (k := 2) (by decide))
   have gset2 := set_put2 (t := psk1 ++ l.getD 2 []) (lt_of_ok h4 (k := 2) (by decide))
   have gpk : ∀ t : List UInt8, [112, 115, 107, 32] ++ t = psk1 ++ t := fun _ => rfl
   have g32 := wsucc glt hps

   have F0 := And.intro gcq <| And.intro gj <| And.intro glt <| And.intro gg <| And.intro g32 <| And.intro gadd <| And.intro hle <| And.intro hlen <| And.intro ga <| And.intro gset <| And.intro gset2 <| And.intro gpk <| F0
   have zL := fun S2 => yN0 ⟨(i + 1, 0, l.set 2 (psk1 ++ l.getD 2 [])), glt, h2, h3, okT_front h4 (by decide)⟩ S2 (by exact Nat.sub_lt_sub_left glt (Nat.lt_succ_self i))
   exact HT.w
 · have gcq := ltI glt
   have gj := Int.natCast_nonneg i
   have gg := iRows_get glt
   obtain ⟨x, hx⟩ : ∃ x, ps.getD i 0 = x := ⟨_, rfl⟩
   rw [drop_getD (z := 0) glt, wchk_cons, hx] at h2
   rw [drop_getD (z := 0) glt, addT_cons, hx] at h3
   rw [hx] at gg hb hc hle h0
   rw [if_neg (by omega), if_neg hle] at h2
   rw [if_neg h0] at h3
   obtain ⟨k, rfl⟩ : ∃ k : Nat, x = (k : Int) := ⟨x.toNat, by omega⟩
   rw [Int.toNat_natCast] at h3
   have hk3 : 1 ≤ k ∧ k ≤ 2 := by omega
   have hk4 : k + 1 < 2 + 2 := by omega
   have gkl : ((k + 1 : Nat) : Int) < 4 := by omega
   have gkn : k + 1 < 4 := by omega
   have gk2 : k + 1 + 1 ≤ 4 := by omega
   have gadd := fun P t => bin_add_str2 P t (l.getD (k + 1) []) [32, 112, 115, 107] (add_ok2 (okT_get h4 hk4).2 glt hps)
   have hlen : l.length = 4 := h4.1
   have ga := strP_at (lt_of_ok h4 hk4)
   have gset := set_put (t := l.getD (k + 1) [] ++ psk2) (lt_of_ok h4 hk4)
   have gset2 := set_put2 (t := l.getD (k + 1) [] ++ psk2) (lt_of_ok h4 hk4)
   have gpk : ∀ t : List UInt8, t ++ [32, 112, 115, 107] = t ++ psk2 := fun _ => rfl
   have gkg := i_ge (k + 1)
   have gwk := wk1 (k := k) (Nat.le_trans hk3.2 (by decide))
   have g32 := wsucc glt hps

   have F0 := And.intro gcq <| And.intro gj <| And.intro glt <| And.intro gg <| And.intro g32 <| And.intro gadd <| And.intro hb <| And.intro hc <| And.intro hle <| And.intro h0 <| And.intro hlen <| And.intro ga <| And.intro gset <| And.intro gset2 <| And.intro gpk <| And.intro gwk <| And.intro gkl <| And.intro gkn <| And.intro gkg <| And.intro gk2 <| F0
   have zL := fun S2 => yN0 ⟨(i + 1, (k : Int), l.set (k + 1) (l.getD (k + 1) [] ++ psk2)), glt, h2, h3, okT_back h4 hk3.1 hk3.2⟩ S2 (by exact Nat.sub_lt_sub_left glt (Nat.lt_succ_self i))
   exact HT.w
 · rw [List.drop_length, wchk_nil] at h2
   rw [List.drop_length, addT_nil] at h3
   have hlen : l.length = 4 := h4.1
   have gcq := nltI (n := ps.length)
   have ga0 := strP_at (lt_of_ok h4 (k := 0) (by decide))
   have ga1 := strP_at (lt_of_ok h4 (k := 1) (by decide))
   rw [h4.2.2.1] at ga0
   rw [h4.2.2.2] at ga1
   have ga00 : List.take 1 (pls (l.map PL.str)) = [.pl (.str A)] := ga0
   have gA : (∀ b ∈ A, b.toNat < 128) ∧ A.length ≤ 100 + 4 * ps.length := by have := okT_get h4 (k := 0) (by decide); rw [h4.2.2.1] at this; exact this
   have gB : (∀ b ∈ B, b.toNat < 128) ∧ B.length ≤ 100 + 4 * ps.length := by have := okT_get h4 (k := 1) (by decide); rw [h4.2.2.2] at this; exact this
   have tkA := (tokens_w A gA.1 (by omega)).told
   have tkB := (tokens_w B gB.1 (by omega)).told

   have F0 := And.intro gcq <| And.intro hlen <| And.intro ga0 <| And.intro ga00 <| And.intro ga1 <| And.intro hbs <| F0
   refine sr_k fun zK zhK => ?_
   simp only [go_sem, F0]
   repeat' (first | apply And.intro | intro _)
   refine zhK _ ?_
   refine seq_k fun zN zM zhN zhM => ?_
   (refine condF_k ?_ ?_; focus (first | rfl | (simp [go_sem, F0]; done)))
   refine exit_k ?_
   refine zhM _ _ ?_; clear zhN zhM
   refine zhM _ _ ?_; clear zhN zhM
   refine zbx _ ?_; clear zbn zbx zbr zbi
   refine zhN _ ?_; clear zhN zhM
   refine sd_k (id := 21) [65, 66, 67, 68, 69, 70, 71, 72, 73, 74, 75, 76, 77, 78, 12] [0, 0, 2, 0, 0, 16, 48, 112, 0, 256, 768, 2032, 4080, 8191, 0, 32767] [] mixed (by kernel_rfl) (by simp only [go_sem]) fun zK zhK => ?_
   simp only [go_sem, F0]
   repeat' (first | apply And.intro | intro _)
   all_goals (refine call_drawh false (fun k => k) (.w (.one (.pl (rowP (tokL A))))) [] (fun _ _ => rfl) ?_ ?_ ?_ tkA ?_ ?_; (iterate 2 (focus (first | rfl | (simp only [go_sem, F0] <;> first | done | rfl | simp)))); (first | kernel_rfl | rfl | simp [fixO, fixL, pls]))
   all_goals try (refine And.intro ?_ (And.intro ?_ (And.intro ?_ ?_)) <;> (first | rfl | (simp only [go_sem, F0]; done) | (simp [go_sem, look, F0]; done)))
   all_goals (try simp only [go_sem, F0])
   all_goals (try simp only [go_sem, F0])
   all_goals repeat' (first | apply And.intro | intro _)
   all_goals (refine call_drawh false (fun k => k) (.w (.one (.pl (rowP (tokL B))))) [] (fun _ _ => rfl) ?_ ?_ ?_ tkB ?_ ?_; (iterate 2 (focus (first | rfl | (simp only [go_sem, F0] <;> first | done | rfl | simp)))); (first | kernel_rfl | rfl | simp [fixO, fixL, pls]))
   all_goals try (refine And.intro ?_ (And.intro ?_ (And.intro ?_ ?_)) <;> (first | rfl | (simp only [go_sem, F0]; done) | (simp [go_sem, look, F0]; done)))
   all_goals (try simp only [go_sem, F0])
   all_goals (try simp only [go_sem, F0])
   all_goals repeat' (first | apply And.intro | intro _)
   refine zhK _ _ trivial ?_
   refine seq_k fun zN zM zhN zhM => ?_
   refine sr_k fun zK zhK => ?_
   simp only [go_sem, F0]
   repeat' (first | apply And.intro | intro _)
   refine zhK _ ?_
   refine block_k fun zB zbn zbx zbr zbi => ?_
   refine loop_k (fun y => [(82, .w (.one (.pl (.i ((y.1.1 : Nat) : Int)))))]) (fun y => (12, ⟨false, [.pl (.str bs), .pl (.b lt), .pl (.R ex 1 (iRows ps)), .pl (rowP (tokL A)), .pl (rowP (tokL B)), tLf 91 y.1.2]⟩) :: tMf 91 y.1.2) (fun y => 2 - y.1.1) (⟨(0, []), Nat.zero_le _, rfl⟩ : {y : Nat × List (List Int) // y.1 ≤ 2 ∧ y.2 = ((l.drop 2).take y.1).map tokL}) ?_ ?_ ?_
   · (simp only [go_sem, leX, List.cons_append, List.nil_append, F0]; try simp)
   · (simp only [go_sem, leX, List.cons_append, List.nil_append, F0]; try simp)
   intro zz zN zM zhN zhM
   simp only [List.cons_append, List.nil_append]
   have yN1 := zhN
   obtain ⟨⟨j, ds⟩, k1, k2⟩ := zz
   simp only at k1 k2
   have hd1 : (j < 2 ∧ ds = []) ∨ (j < 2 ∧ ds ≠ []) ∨ j = 2 := by by_cases ds = [] <;> simp_all <;> omega
   rcases hd1 with ⟨jlt, rfl⟩ | ⟨jlt, hne⟩ | rfl
   · have gcq1 : (j : Int) < 2 := by omega
     have gj1 := Int.natCast_nonneg j
     have gaj := strP_at (lt_of_ok h4 (k := j + 2) (by omega))
     have gaj2 : List.take 1 (List.drop (2 + j) (pls (l.map PL.str))) = [.pl (.str (l.getD (j + 2) []))] := by rw [Nat.add_comm]; exact gaj
     have gaj3 := (sub_at (X := pls (l.map PL.str)) (k := 2) jlt).trans gaj2
     have gtk := okT_get h4 (k := j + 2) (by omega)
     have tkJ := (tokens_w (l.getD (j + 2) []) gtk.1 (by omega)).told
     have gj4 : j + 1 ≤ 2 := jlt
     have gdl := done_len k2 hlen k1
     have gcap : (j + 1) * 8 ≤ 140737488355328 := by omega
     have gcap24 : (j + 1) * 24 ≤ 140737488355328 := by omega
     have gjs : Go.RowKit.wrap64 ((j : Int) + 1) = ((j + 1 : Nat) : Int) := wnat (by omega) (by omega)

     have F0 := And.intro gcq1 <| And.intro gj1 <| And.intro gjs <| And.intro gaj <| And.intro gaj2 <| And.intro gaj3 <| And.intro gj4 <| And.intro gcap <| And.intro gcap24 <| And.intro tL_nil <| And.intro tM_nil <| And.intro tL_one <| And.intro tM_one <| And.intro plsL_nil <| And.intro flatPL_nil <| F0
     refine sr_k fun zK zhK => ?_
     simp only [go_sem, F0]
     repeat' (first | apply And.intro | intro _)
     refine zhK _ ?_
     refine seq_k fun zN zM zhN zhM => ?_
     (refine condT_k ?_ ?_; focus (first | rfl | (simp [go_sem, F0]; done)))
     refine skip_k ?_
     refine zhN _ ?_; clear zhN zhM
     refine seq_k fun zN zM zhN zhM => ?_
     refine block_k fun zB zbn zbx zbr zbi => ?_
     refine sr_k fun zK zhK => ?_
     simp only [go_sem, F0]
     repeat' (first | apply And.intro | intro _)
     refine zhK _ ?_
     refine draw_k (id := 25) [86, 87, 88, 89, 90, 91, 92] [0, 1, 0, 4, 12, 31, 63, 127] [] mixed (by kernel_rfl) (by simp only [go_sem]) fun zK zhK => ?_
     simp only [go_sem, F0]
     repeat' (first | apply And.intro | intro _)
     all_goals (refine call_drawh false (fun k => k) (.w (.one (.pl (rowP (tokL (l.getD (j + 2) [])))))) [] (fun _ _ => rfl) ?_ ?_ ?_ tkJ ?_ ?_; (iterate 2 (focus (first | rfl | (simp only [go_sem, F0] <;> first | done | rfl | simp)))); (first | kernel_rfl | rfl | simp [fixO, fixL, pls]))
     all_goals try (refine And.intro ?_ (And.intro ?_ (And.intro ?_ ?_)) <;> (first | rfl | (simp only [go_sem, F0]; done) | (simp [go_sem, look, F0]; done)))
     all_goals (try simp only [go_sem, F0])
     all_goals (try simp only [go_sem, F0])
     all_goals repeat' (first | apply And.intro | intro _)
     refine zhK _ _ trivial ?_
     refine zbn _ ?_; clear zbn zbx zbr zbi
     refine zhN _ ?_; clear zhN zhM
     refine region_k fun zK zhK => ?_
     simp only [go_sem, F0]
     repeat' (first | apply And.intro | intro _)
     refine zhK _ ?_
     refine zhN ⟨(j + 1, [tokL (l.getD (j + 2) [])]), jlt, done_snoc k2 hlen jlt⟩ _ ?_ ?_ ?_
     · exact Nat.sub_lt_sub_left jlt (Nat.lt_succ_self j)
     · (simp only [go_sem, leX, List.cons_append, List.nil_append, F0]; try simp)
     · (simp only [go_sem, leX, List.cons_append, List.nil_append, F0]; try simp)
   · have gcq1 : (j : Int) < 2 := by omega
     have gj1 := Int.natCast_nonneg j
     have gaj := strP_at (lt_of_ok h4 (k := j + 2) (by omega))
     have gaj2 : List.take 1 (List.drop (2 + j) (pls (l.map PL.str))) = [.pl (.str (l.getD (j + 2) []))] := by rw [Nat.add_comm]; exact gaj
     have gaj3 := (sub_at (X := pls (l.map PL.str)) (k := 2) jlt).trans gaj2
     have gtk := okT_get h4 (k := j + 2) (by omega)
     have tkJ := (tokens_w (l.getD (j + 2) []) gtk.1 (by omega)).told
     have gj4 : j + 1 ≤ 2 := jlt
     have gdl := done_len k2 hlen k1
     have gcap : (j + 1) * 8 ≤ 140737488355328 := by omega
     have gcap24 : (j + 1) * 24 ≤ 140737488355328 := by omega
     have gjs : Go.RowKit.wrap64 ((j : Int) + 1) = ((j + 1 : Nat) : Int) := wnat (by omega) (by omega)
     have hv := tL_own (nm := 91) hne
     have hm := tM_own (nm := 91) hne

     have F0 := And.intro gcq1 <| And.intro gj1 <| And.intro gjs <| And.intro gaj <| And.intro gaj2 <| And.intro gaj3 <| And.intro gj4 <| And.intro gcap <| And.intro gcap24 <| And.intro hv <| And.intro hm <| And.intro gdl <| And.intro rowP_len <| And.intro tL_snoc <| And.intro tM_snoc <| F0
     refine sr_k fun zK zhK => ?_
     simp only [go_sem, F0]
     repeat' (first | apply And.intro | intro _)
     refine zhK _ ?_
     refine seq_k fun zN zM zhN zhM => ?_
     (refine condT_k ?_ ?_; focus (first | rfl | (simp [go_sem, F0]; done)))
     refine skip_k ?_
     refine zhN _ ?_; clear zhN zhM
     refine seq_k fun zN zM zhN zhM => ?_
     refine block_k fun zB zbn zbx zbr zbi => ?_
     refine sr_k fun zK zhK => ?_
     simp only [go_sem, F0]
     repeat' (first | apply And.intro | intro _)
     refine zhK _ ?_
     refine draw_k (id := 25) [86, 87, 88, 89, 90, 92] [0, 1, 0, 4, 12, 31, 63, 127] [] mixed (by kernel_rfl) (by simp only [go_sem]) fun zK zhK => ?_
     simp only [go_sem, F0]
     repeat' (first | apply And.intro | intro _)
     all_goals (refine call_drawh false (fun k => k) (.w (.one (.pl (rowP (tokL (l.getD (j + 2) [])))))) [] (fun _ _ => rfl) ?_ ?_ ?_ tkJ ?_ ?_; (iterate 2 (focus (first | rfl | (simp only [go_sem, F0] <;> first | done | rfl | simp)))); (first | kernel_rfl | rfl | simp [fixO, fixL, pls]))
     all_goals try (refine And.intro ?_ (And.intro ?_ (And.intro ?_ ?_)) <;> (first | rfl | (simp only [go_sem, F0]; done) | (simp [go_sem, look, F0]; done)))
     all_goals (try simp only [go_sem, F0])
     all_goals (try simp only [go_sem, F0])
     all_goals repeat' (first | apply And.intro | intro _)
     refine zhK _ _ trivial ?_
     refine zbn _ ?_; clear zbn zbx zbr zbi
     refine zhN _ ?_; clear zhN zhM
     refine region_k fun zK zhK => ?_
     simp only [go_sem, F0]
     repeat' (first | apply And.intro | intro _)
     refine zhK _ ?_
     refine zhN ⟨(j + 1, ds ++ [tokL (l.getD (j + 2) [])]), jlt, done_snoc k2 hlen jlt⟩ _ ?_ ?_ ?_
     · exact Nat.sub_lt_sub_left jlt (Nat.lt_succ_self j)
     · (simp only [go_sem, leX, List.cons_append, List.nil_append, F0]; try simp)
     · (simp only [go_sem, leX, List.cons_append, List.nil_append, F0]; try simp)
   · have gcq1 : ¬ (2 : Int) < 2 := by decide
     have hne : ds ≠ [] := fun e => by have := done_len k2 hlen k1; rw [e] at this; cases this
     have gdl := done_len k2 hlen k1
     have hv := tL_own (nm := 91) hne
     have hm := tM_own (nm := 91) hne
     have hds : ds = (l.drop 2).map tokL := by rw [k2, List.take_of_length_le (by rw [List.length_drop]; omega)]
     have zE := fun (m : List (Nat × Ob)) (hm : look m 91 = some ⟨true, pls (ds.map rowP)⟩) => rwV_ok (bs := bs) (lt := lt) (ps := ps) (ex := ex) (nm := 91) (by decide) h2.symm h3 h4.2.2.1 h4.2.2.2 hds (n := 2) gdl.symm hm

     have F0 := And.intro gcq1 <| And.intro hv <| And.intro hm <| And.intro gdl <| And.intro rowP_len <| F0
     exact HT.w
end Go.Sy

