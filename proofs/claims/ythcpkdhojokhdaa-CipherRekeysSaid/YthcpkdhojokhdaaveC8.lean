/- Walks: the rest of a stream, as the document tells it; the law on streams. -/
import Derived.Test.YthcpkdhojokhdaaveC7
set_option linter.unusedVariables false
set_option linter.unusedSimpArgs false
namespace Go.Sy
open Go.Proofs
attribute [local irreducible] atCall HT runOps runD onC onE onO onG goV goA goS onSt onGuard
def byW (bs : List UInt8) (v : V) (m : List (Nat × Ob)) : Prop := v = .w (.one (.pl (.R false 1 (byteRows bs)))) ∧ m = []
theorem byW_nil {m : List (Nat × Ob)} {sz : Nat} {ex : Bool} : Told (byW []) (.w (.one (.pl (.R ex sz [])))) m :=
 told_weak (v' := .w (.one (.pl (.R false 1 (byteRows []))))) (fun d y h => byR_weak d y (R_nil_den h)) (told_plain rfl ⟨rfl, rfl⟩)
theorem byW_obj {k n : Nat} {m : List (Nat × Ob)} {b : Bool} {l : List UInt8} (hk : look m k = some ⟨b, bytesC l⟩) (hn : n = l.length) (hlt : k < 500000 := by decide) : Told (byW l) (.w (.one (.s k [] n 1))) m := by
 refine told_seal k (l.map .u8) (by rw [hk, pls_bytes]) hlt ?_
 simp only [sealV, sealW, seal_bytes hn]
 exact told_plain rfl ⟨rfl, rfl⟩
def bV (j : Nat) (l : List UInt8) : V := if l = [] then .w (.one (.pl (.R true 1 []))) else .w (.one (.s j [] l.length 1))
def bM (j : Nat) (l : List UInt8) : List (Nat × Ob) := if l = [] then [] else [(j, ⟨true, bytesC l⟩)]
theorem bV_nil (j : Nat) : bV j [] = .w (.one (.pl (.R true 1 []))) := if_pos rfl
theorem bM_nil (j : Nat) : bM j [] = [] := if_pos rfl
theorem bV_of (j : Nat) {l : List UInt8} (h : l ≠ []) : bV j l = .w (.one (.s j [] l.length 1)) := if_neg h
theorem bM_of (j : Nat) {l : List UInt8} (h : l ≠ []) : bM j l = [(j, ⟨true, bytesC l⟩)] := if_neg h
theorem bV_snoc (j : Nat) (l : List UInt8) (p : UInt8) : bV j (l ++ [p]) = .w (.one (.s j [] (l.length + 1) 1)) := by rw [bV_of j (by simp)]; simp
theorem bV_one (j : Nat) (p : UInt8) : bV j [p] = .w (.one (.s j [] 1 1)) := bV_snoc j [] p
theorem bM_one (j : Nat) (p : UInt8) : bM j [p] = [(j, ⟨true, bytesC [p]⟩)] := bM_of j (by simp)
theorem bM_snoc (j : Nat) (l : List UInt8) (p : UInt8) : bM j (l ++ [p]) = [(j, ⟨true, bytesC (l ++ [p])⟩)] := bM_of j (by simp)
theorem xorF_snoc (f : Nat → UInt8) {c : List UInt8} {n k : Nat} (h : k < c.length) : xorF f n (c.take (k + 1)) = xorF f n (c.take k) ++ [c.getD k 0 ^^^ f (n + k)] := by
 have e : c.take (k + 1) = c.take k ++ [c.getD k 0] := by
  rw [List.take_succ_eq_append_getElem h]; simp [List.getD, List.getElem?_eq_getElem h]
 rw [e, xorF_append, List.length_take, Nat.min_eq_left (by omega)]; rfl
theorem xorF_cut (f : Nat → UInt8) (b : List UInt8) (n k : Nat) (h : k ≤ b.length - n) : xorF f n ((b.drop n).take k) ++ xorF f (n + k) (b.drop (n + k)) = xorF f n (b.drop n) := by
 conv => rhs; rw [← List.take_append_drop k (b.drop n)]
 rw [xorF_append, List.length_take, List.length_drop, Nat.min_eq_left h, List.drop_drop]
theorem xorF_out (f : Nat → UInt8) (b : List UInt8) (n : Nat) (h : b.length ≤ n) : xorF f n (b.drop n) = [] := by rw [List.drop_of_length_le h]; rfl
set_option maxHeartbeats 400000 in
theorem rest_nil (key : List UInt8) (hk : key.length = 32) (counter : UInt32) (nonce : List UInt8) (hn : nonce.length = 12) (b : List UInt8) (ex : Bool) (hb : ¬ 1600 < b.length) (j : Nat) (hj : b.length ≤ 64 * j) :
 Ct Try.prog 51 [.w (.agg (bytesC key)), .w (.one (.pl (.u32 counter))), .w (.agg (bytesC nonce)), .w (.one (.pl (.R ex 1 (byteRows b)))), .w (.one (.pl (.i (64 * j : Nat))))] (Told (byW (xorF (ksB key counter nonce) (64 * j) (b.drop (64 * j))))) := by
 have h1 : ((b.length : Nat) : Int) ≤ ((64 * j : Nat) : Int) := by omega
 have hx := xorF_out (ksB key counter nonce) b (64 * j) hj
 have F0 := And.intro hk <| And.intro hn <| h1
 refine Ct.k Try.func51 rfl Try.ntmps51 (congrArg Array.toList Try.results51) (by simp) fun w0 ro => ?_
 refine top_k fun zZ zhZ => ?_
 iterate 11 first
  | (refine sr_k fun zK zhK => ?_; simp only [go_sem, F0]; (repeat' (first | apply And.intro | intro _)))
  | refine zhK _ ?_
  | refine ret_k ?_
  | (refine zhM _ _ ?_; clear zhN zhM)
  | (refine zhZ _ _ ?_; simp only [go_sem, F0]; (all_goals (rw [hx]; exact byW_nil)))
  | refine seq_k fun zN zM zhN zhM => ?_
  | (refine condT_k ?_ ?_; focus (first | rfl | (simp [go_sem, F0]; done)))
set_option maxHeartbeats 3200000 in
set_option maxRecDepth 100000 in
theorem rest_go (key : List UInt8) (hk : key.length = 32) (counter : UInt32) (nonce : List UInt8) (hn : nonce.length = 12) (b : List UInt8) (ex : Bool) (hb : ¬ 1600 < b.length) (j : Nat) (hj : 64 * j < b.length) (ih : Ct Try.prog 51 [.w (.agg (bytesC key)), .w (.one (.pl (.u32 counter))), .w (.agg (bytesC nonce)), .w (.one (.pl (.R ex 1 (byteRows b)))), .w (.one (.pl (.i (64 * (j + 1) : Nat))))] (byW (xorF (ksB key counter nonce) (64 * (j + 1)) (b.drop (64 * (j + 1)))))) :
 Ct Try.prog 51 [.w (.agg (bytesC key)), .w (.one (.pl (.u32 counter))), .w (.agg (bytesC nonce)), .w (.one (.pl (.R ex 1 (byteRows b)))), .w (.one (.pl (.i (64 * j : Nat))))] (Told (byW (xorF (ksB key counter nonce) (64 * j) (b.drop (64 * j))))) := by
 obtain ⟨f, hf⟩ : ∃ f, ksB key counter nonce = f := ⟨_, rfl⟩
 rw [hf] at ih ⊢
 obtain ⟨kb, hkb⟩ : ∃ kb, blockV (initW key (counter + UInt32.ofNat j) nonce) = kb := ⟨_, rfl⟩
 have hkl : kb.length = 64 := by rw [← hkb]; exact blockV_length _
 have htd2 : ((64 * j : Nat) : Int).tdiv 64 = ((j : Nat) : Int) := by rw [show ((64 * j : Nat) : Int).tdiv 64 = ((64 * j / 64 : Nat) : Int) from rfl]; omega
 have hu : UInt32.ofNat (((j : Nat) : Int) % 4294967296).toNat = UInt32.ofNat j := by rw [show (((j : Nat) : Int) % 4294967296).toNat = j from by omega]
 have hcq : ¬ ((b.length : Nat) : Int) ≤ ((64 * j : Nat) : Int) := by omega
 have hw7 : Go.RowKit.wrap64 ((j : Nat) : Int) = ((j : Nat) : Int) := wnat rfl (by omega)
 have F0 := And.intro hk <| And.intro hn <| And.intro hkl <| And.intro htd2 <| And.intro hu <| And.intro hkb <| And.intro hcq <| hw7
 refine Ct.k Try.func51 rfl Try.ntmps51 (congrArg Array.toList Try.results51) (by simp) fun w0 ro => ?_
 refine top_k fun zZ zhZ => ?_
 iterate 17 first
  | (refine sr_k fun zK zhK => ?_; simp only [go_sem, Nat.zero_add, F0]; (repeat' (first | apply And.intro | intro _)))
  | refine zhK _ ?_
  | refine skip_k ?_
  | (refine zhN _ ?_; clear zhN zhM)
  | refine block_k fun zB zbn zbx zbr zbi => ?_
  | ((all_goals (refine call_view (fun k => k) (fun _ _ => rfl) ?_ ((block_of key hk (counter + UInt32.ofNat j) nonce hn).plain fun _ _ h => h) ?_; focus (first | rfl | (simp only [go_sem, Nat.zero_add, F0] <;> rfl)))); (all_goals (rintro v m ⟨hR, hm⟩; subst hR; subst hm)); (all_goals refine And.intro (by first | rfl | simp only [go_sem, Nat.zero_add, F0]) (And.intro (by first | rfl | simp only [go_sem, Nat.zero_add, F0]) ?_)); (all_goals simp only [go_sem, Nat.zero_add, F0]); (all_goals repeat' (first | apply And.intro | intro _)))
  | refine seq_k fun zN zM zhN zhM => ?_
  | (refine condF_k ?_ ?_; focus (first | rfl | (simp [go_sem, Nat.zero_add, F0]; done)))
 refine ht_dropE [0, 2, 14, 15, 16, 17, 18, 19, 20, 21, 22, 23, 24, 25, 26] ?_
 simp only [dropE_mk, fgt_nil, fgt_cons, List.contains_cons, List.contains_nil, Nat.reduceBEq, beq_self_eq_true, Bool.or_false, Bool.or_true, Bool.true_or, Bool.false_or, Bool.false_eq_true, reduceIte]
 refine loop_k (fun y => [(13, .w (.one (.pl (.i ((y.1.1 : Nat) : Int))))), (12, bV 51 y.1.2)]) (fun y => bM 51 y.1.2) (fun y => 64 * j + 64 - y.1.1) (⟨(64 * j, []), Nat.le_refl _, by clear hw7 F0; omega, by simp [xorF], by simp⟩ : {y : Nat × List UInt8 // 64 * j ≤ y.1 ∧ y.1 ≤ min (64 * j + 64) b.length ∧ y.2 = xorF f (64 * j) ((b.drop (64 * j)).take (y.1 - 64 * j)) ∧ y.2.length = y.1 - 64 * j}) ?_ ?_ ?_
 · (simp only [bV_nil, go_sem, leX, List.cons_append, List.nil_append]; try simp [bV_nil])
 · (simp only [bM_nil, go_sem, leX, List.cons_append, List.nil_append]; try simp [bM_nil])
 intro yy zN zM zhN zhM
 simp only [List.cons_append, List.nil_append]
 obtain ⟨⟨i, l⟩, h1, h2, h3, h4⟩ := yy
 simp only at h1 h2 h3 h4
 have hd : (i < b.length ∧ i < 64 * j + 64 ∧ l = []) ∨ (i < b.length ∧ i < 64 * j + 64 ∧ l ≠ []) ∨ (i = b.length ∧ l ≠ []) ∨ (i < b.length ∧ i = 64 * j + 64 ∧ l ≠ []) := by
  have hne : i = 64 * j ∨ l ≠ [] := by
   by_cases h : l = []
   · subst h; simp at h4; exact .inl (by clear hw7 F0; omega)
   · exact .inr h
  by_cases g : l = []
  · have : i = 64 * j := hne.resolve_right (fun h => h g)
    exact .inl ⟨by clear hw7 F0; omega, by clear hw7 F0; omega, g⟩
  · by_cases g2 : i < b.length
    · by_cases g3 : i < 64 * j + 64
      · exact .inr (.inl ⟨g2, g3, g⟩)
      · exact .inr (.inr (.inr ⟨g2, by clear hw7 F0; omega, g⟩))
    · exact .inr (.inr (.inl ⟨by clear hw7 F0; omega, g⟩))
 rcases hd with ⟨hA, hB, rfl⟩ | ⟨hA, hB, hl0⟩ | ⟨rfl, hl0⟩ | ⟨hA, rfl, hl0⟩
 · simp only [bV_nil, bM_nil, List.cons_append, List.nil_append]
   have hi0 : i = 64 * j := by
    have := h4
    simp only [List.length_nil] at this
    clear hw7 F0
    omega
   have h1' := byteRows_get hA
   have h2' := u8_one (q := kb) (i := i - 64 * j) (by clear hw7 F0; omega)
   have hfi : kb.getD (i - 64 * j) 0 = f i := by
    rw [← hf, ← hkb, ksB, show i / 64 = j from by clear hw7 F0; omega, show i % 64 = i - 64 * j from by clear hw7 F0; omega]
   rw [hfi] at h2'
   have hsn := xorF_snoc f (c := b.drop (64 * j)) (n := 64 * j) (k := i - 64 * j) (by rw [List.length_drop]; omega)
   have hbg : (b.drop (64 * j)).getD (i - 64 * j) 0 = b.getD i 0 := by
    rw [List.getD, List.getElem?_drop, show 64 * j + (i - 64 * j) = i from by clear hw7 F0; omega]; rfl
   rw [hbg, show 64 * j + (i - 64 * j) = i from by clear hw7 F0; omega, ← h3, show i - 64 * j + 1 = i + 1 - 64 * j from by clear hw7 F0; omega] at hsn
   have hcA : ((i : Nat) : Int) < ((b.length : Nat) : Int) := by clear hw7 F0; omega
   have hcB : ((i : Nat) : Int) < ((64 * j + 64 : Nat) : Int) := by clear hw7 F0; omega
   have d0 : (0 : Int) ≤ ((i : Nat) : Int) ∧ (0 : Int) ≤ ((i - 64 * j : Nat) : Int) ∧ ((i - 64 * j : Nat) : Int) < 64 := by clear hw7 F0; omega
   have d1 : i - 64 * j + 1 ≤ 64 := by clear hw7 F0; omega
   have hcap : ([] : List UInt8).length + 1 ≤ 140737488355328 := by clear hw7 F0; omega
   have n4 : ([] ++ [b.getD i 0 ^^^ f i]).length = i + 1 - 64 * j := by rw [List.length_append, List.length_cons, List.length_nil]; omega
   have n1 : 64 * j ≤ i + 1 := by clear hw7 F0; omega
   have n2 : i + 1 ≤ min (64 * j + 64) b.length := by clear hw7 F0; omega
   have nd : 64 * j + 64 - (i + 1) < 64 * j + 64 - i := by clear hw7 F0; omega
   obtain ⟨hs1, hw5, hw6⟩ : Go.RowKit.wrap64 (((i : Nat) : Int) + 1) = ((i + 1 : Nat) : Int) ∧ Go.RowKit.wrap64 (((64 * j : Nat) : Int) + 64) = ((64 * j + 64 : Nat) : Int) ∧ Go.RowKit.wrap64 (((i : Nat) : Int) - ((64 * j : Nat) : Int)) = ((i - 64 * j : Nat) : Int) := ⟨wnat (by clear hw7 F0; omega) (by clear hw7 F0; omega), wnat (by clear hw7 F0; omega) (by clear hw7 F0; omega), wnat (by clear hw7 F0; omega) (by clear hw7 F0; omega)⟩
   have FB := And.intro hcA <| And.intro hcB <| And.intro d0 <| And.intro d1 <| And.intro hcap <| And.intro hs1 <| And.intro hw5 <| hw6
   refine seq_k fun zN zM zhN zhM => ?_
   refine sr_k fun zK zhK => ?_
   simp only [go_sem, Nat.zero_add, F0, h1', h2', hkl, bytesC_1, FB]
   repeat' (first | apply And.intro | intro _)
   refine zhK _ ?_
   (refine condT_k ?_ ?_; focus (first | rfl | (simp [go_sem, Nat.zero_add, F0, h1', h2', hkl, bytesC_1, FB]; done)))
   refine skip_k ?_
   refine zhN _ ?_; clear zhN zhM
   refine seq_k fun zN zM zhN zhM => ?_
   refine block_k fun zB zbn zbx zbr zbi => ?_
   refine draw_k (id := 8) [39, 40, 41, 42, 43, 44, 45, 46, 47, 48, 49, 50, 51, 12] [0, 0, 0, 6, 14, 0, 0, 96, 224, 480, 1022, 2046, 4095, 8191] [] mixed (by kernel_rfl) (by simp only [go_sem]) fun zK zhK => ?_
   simp only [go_sem, Nat.zero_add, F0, h1', h2', hkl, bytesC_1, FB]
   repeat' (first | apply And.intro | intro _)
   refine zhK _ _ trivial ?_
   refine zbn _ ?_; clear zbn zbx zbr zbi
   refine zhN _ ?_; clear zhN zhM
   refine region_k fun zK zhK => ?_
   simp only [go_sem, Nat.zero_add, F0, h1', h2', hkl, bytesC_1, FB]
   repeat' (first | apply And.intro | intro _)
   refine zhK _ ?_
   refine zhN ⟨(i + 1, [] ++ [b.getD i 0 ^^^ f i]), n1, n2, hsn.symm, n4⟩ _ ?_ ?_ ?_
   · (exact nd)
   · (simp only [bV_snoc, go_sem, leX, List.cons_append, List.nil_append]; try simp [bV_one])
   · (simp only [bM_snoc, go_sem, leX, List.cons_append, List.nil_append]; try simp [bM_one, bytesC, pls, leX, look])
 · simp only [bV_of _ hl0, bM_of _ hl0, List.cons_append, List.nil_append]
   have h1' := byteRows_get hA
   have h2' := u8_one (q := kb) (i := i - 64 * j) (by clear hw7 F0; omega)
   have hfi : kb.getD (i - 64 * j) 0 = f i := by
    rw [← hf, ← hkb, ksB, show i / 64 = j from by clear hw7 F0; omega, show i % 64 = i - 64 * j from by clear hw7 F0; omega]
   rw [hfi] at h2'
   have hsn := xorF_snoc f (c := b.drop (64 * j)) (n := 64 * j) (k := i - 64 * j) (by rw [List.length_drop]; omega)
   have hbg : (b.drop (64 * j)).getD (i - 64 * j) 0 = b.getD i 0 := by
    rw [List.getD, List.getElem?_drop, show 64 * j + (i - 64 * j) = i from by clear hw7 F0; omega]; rfl
   rw [hbg, show 64 * j + (i - 64 * j) = i from by clear hw7 F0; omega, ← h3, show i - 64 * j + 1 = i + 1 - 64 * j from by clear hw7 F0; omega] at hsn
   have hcA : ((i : Nat) : Int) < ((b.length : Nat) : Int) := by clear hw7 F0; omega
   have hcB : ((i : Nat) : Int) < ((64 * j + 64 : Nat) : Int) := by clear hw7 F0; omega
   have d0 : (0 : Int) ≤ ((i : Nat) : Int) ∧ (0 : Int) ≤ ((i - 64 * j : Nat) : Int) ∧ ((i - 64 * j : Nat) : Int) < 64 := by clear hw7 F0; omega
   have d1 : i - 64 * j + 1 ≤ 64 := by clear hw7 F0; omega
   have hcap : l.length + 1 ≤ 140737488355328 := by clear hw7 F0; omega
   have n4 : (l ++ [b.getD i 0 ^^^ f i]).length = i + 1 - 64 * j := by rw [List.length_append, List.length_cons, List.length_nil]; omega
   have n1 : 64 * j ≤ i + 1 := by clear hw7 F0; omega
   have n2 : i + 1 ≤ min (64 * j + 64) b.length := by clear hw7 F0; omega
   have nd : 64 * j + 64 - (i + 1) < 64 * j + 64 - i := by clear hw7 F0; omega
   obtain ⟨hs1, hw5, hw6⟩ : Go.RowKit.wrap64 (((i : Nat) : Int) + 1) = ((i + 1 : Nat) : Int) ∧ Go.RowKit.wrap64 (((64 * j : Nat) : Int) + 64) = ((64 * j + 64 : Nat) : Int) ∧ Go.RowKit.wrap64 (((i : Nat) : Int) - ((64 * j : Nat) : Int)) = ((i - 64 * j : Nat) : Int) := ⟨wnat (by clear hw7 F0; omega) (by clear hw7 F0; omega), wnat (by clear hw7 F0; omega) (by clear hw7 F0; omega), wnat (by clear hw7 F0; omega) (by clear hw7 F0; omega)⟩
   have FB := And.intro hcA <| And.intro hcB <| And.intro d0 <| And.intro d1 <| And.intro hcap <| And.intro hs1 <| And.intro hw5 <| hw6
   refine seq_k fun zN zM zhN zhM => ?_
   refine sr_k fun zK zhK => ?_
   simp only [go_sem, Nat.zero_add, F0, h1', h2', hkl, bytesC_1, FB]
   repeat' (first | apply And.intro | intro _)
   refine zhK _ ?_
   (refine condT_k ?_ ?_; focus (first | rfl | (simp [go_sem, Nat.zero_add, F0, h1', h2', hkl, bytesC_1, FB]; done)))
   refine skip_k ?_
   refine zhN _ ?_; clear zhN zhM
   refine seq_k fun zN zM zhN zhM => ?_
   refine block_k fun zB zbn zbx zbr zbi => ?_
   refine draw_k (id := 8) [39, 40, 41, 42, 43, 44, 45, 46, 47, 48, 49, 50, 12] [0, 0, 0, 6, 14, 0, 0, 96, 224, 480, 1022, 2046, 4095, 8191] [] mixed (by kernel_rfl) (by simp only [go_sem]) fun zK zhK => ?_
   simp only [go_sem, Nat.zero_add, F0, h1', h2', hkl, bytesC_1, FB]
   repeat' (first | apply And.intro | intro _)
   refine zhK _ _ trivial ?_
   refine zbn _ ?_; clear zbn zbx zbr zbi
   refine zhN _ ?_; clear zhN zhM
   refine region_k fun zK zhK => ?_
   simp only [go_sem, Nat.zero_add, F0, h1', h2', hkl, bytesC_1, FB]
   repeat' (first | apply And.intro | intro _)
   refine zhK _ ?_
   refine zhN ⟨(i + 1, l ++ [b.getD i 0 ^^^ f i]), n1, n2, hsn.symm, n4⟩ _ ?_ ?_ ?_
   · (exact nd)
   · (simp only [bV_snoc, go_sem, leX, List.cons_append, List.nil_append]; try simp [bV_one])
   · (simp only [bM_snoc, go_sem, leX, List.cons_append, List.nil_append]; try simp [bM_one, bytesC, pls, leX, look])
 · simp only [bV_of _ hl0, bM_of _ hl0, List.cons_append, List.nil_append]
   have hcut := xorF_cut f b (64 * j) (b.length - 64 * j) (by clear hw7 F0; omega)
   have hrest : l ++ xorF f (64 * (j + 1)) (b.drop (64 * (j + 1))) = xorF f (64 * j) (b.drop (64 * j)) := by
    rw [← hcut, ← h3]; congr 1
    rw [xorF_out f b (64 * (j + 1)) (by clear hw7 F0; omega), show 64 * j + (b.length - 64 * j) = b.length from by clear hw7 F0; omega, xorF_out f b b.length (Nat.le_refl _)]
   obtain ⟨r, hr⟩ : ∃ r, xorF f (64 * (j + 1)) (b.drop (64 * (j + 1))) = r := ⟨_, rfl⟩
   have hrl : r.length ≤ 1600 := by rw [← hr, xorF_length, List.length_drop]; omega
   have hll : l.length ≤ 1600 := by clear hw7 F0; omega
   rw [hr] at hrest ih
   have hjn : 64 * (j + 1) = 64 * j + 64 := by clear hw7 F0; omega
   rw [hjn] at ih
   have hcap2 : l.length + r.length ≤ 140737488355328 := by clear hw7 F0; omega
   have hcap3 : l.length ≤ 140737488355328 := by clear hw7 F0; omega
   have hcA : ¬ ((b.length : Nat) : Int) < ((b.length : Nat) : Int) := by clear hw7 F0; omega
   obtain ⟨hw5, hw6⟩ : Go.RowKit.wrap64 (((64 * j : Nat) : Int) + 64) = ((64 * j + 64 : Nat) : Int) ∧ True := ⟨wnat (by clear hw7 F0; omega) (by clear hw7 F0; omega), trivial⟩
   have FB := And.intro hcA <| And.intro hcap2 <| And.intro hcap3 <| hw5
   refine seq_k fun zN zM zhN zhM => ?_
   refine sr_k fun zK zhK => ?_
   simp only [go_sem, Nat.zero_add, F0, FB]
   repeat' (first | apply And.intro | intro _)
   refine zhK _ ?_
   (refine condF_k ?_ ?_; focus (first | rfl | (simp [go_sem, Nat.zero_add, F0, FB]; done)))
   refine exit_k ?_
   refine zhM _ _ ?_; clear zhN zhM
   refine zhM _ _ ?_; clear zhN zhM
   refine zbx _ ?_; clear zbn zbx zbr zbi
   refine zhN _ ?_; clear zhN zhM
   refine sr_k fun zK zhK => ?_
   simp only [go_sem, Nat.zero_add, F0, FB]
   repeat' (first | apply And.intro | intro _)
   all_goals (refine call_hand false [] (fun k => k) (fun _ _ => rfl) ?_ (by decide) ?_ (ih).hands ?_; iterate 2 (focus (first | rfl | (simp only [go_sem, Nat.zero_add, F0, FB] <;> first | done | rfl | simp))))
   all_goals (rintro v m ⟨hR, hm⟩; subst hR; subst hm)
   all_goals (refine And.intro ?_ (And.intro ?_ (And.intro ?_ ?_)); iterate 3 (focus (first | rfl | (simp only [go_sem, Nat.zero_add, F0, FB]; done) | (simp [go_sem, look, Nat.zero_add, F0, FB]; done))))
   all_goals (try simp only [go_sem, Nat.zero_add, F0, FB])
   all_goals (try simp only [go_sem, Nat.zero_add, F0, FB])
   all_goals repeat' (first | apply And.intro | intro _)
   refine zhK _ ?_
   refine ret_k ?_
   refine zhZ _ _ ?_
   simp only [go_sem, Nat.zero_add, F0, FB]
   all_goals (rw [← hrest]; exact byW_obj (b := true) (by simp [look, bytesC]) (by simp))
 · simp only [bV_of _ hl0, bM_of _ hl0, List.cons_append, List.nil_append]
   have hcut := xorF_cut f b (64 * j) ((64 * j + 64) - 64 * j) (by clear hw7 F0; omega)
   have hrest : l ++ xorF f (64 * (j + 1)) (b.drop (64 * (j + 1))) = xorF f (64 * j) (b.drop (64 * j)) := by
    rw [← hcut, ← h3]; congr 1
    rw [show 64 * j + (64 * j + 64 - 64 * j) = 64 * (j + 1) from by clear hw7 F0; omega]
   obtain ⟨r, hr⟩ : ∃ r, xorF f (64 * (j + 1)) (b.drop (64 * (j + 1))) = r := ⟨_, rfl⟩
   have hrl : r.length ≤ 1600 := by rw [← hr, xorF_length, List.length_drop]; omega
   have hll : l.length ≤ 1600 := by clear hw7 F0; omega
   rw [hr] at hrest ih
   have hjn : 64 * (j + 1) = 64 * j + 64 := by clear hw7 F0; omega
   rw [hjn] at ih
   have hcap2 : l.length + r.length ≤ 140737488355328 := by clear hw7 F0; omega
   have hcap3 : l.length ≤ 140737488355328 := by clear hw7 F0; omega
   have hcA : ((64 * j + 64 : Nat) : Int) < ((b.length : Nat) : Int) := by clear hw7 F0; omega
   have hcB : ¬ ((64 * j + 64 : Nat) : Int) < ((64 * j + 64 : Nat) : Int) := by clear hw7 F0; omega
   obtain ⟨hw5, hw6⟩ : Go.RowKit.wrap64 (((64 * j : Nat) : Int) + 64) = ((64 * j + 64 : Nat) : Int) ∧ True := ⟨wnat (by clear hw7 F0; omega) (by clear hw7 F0; omega), trivial⟩
   have FB := And.intro hcA <| And.intro hcB <| And.intro hcap2 <| And.intro hcap3 <| hw5
   refine seq_k fun zN zM zhN zhM => ?_
   refine sr_k fun zK zhK => ?_
   simp only [go_sem, Nat.zero_add, F0, FB]
   repeat' (first | apply And.intro | intro _)
   refine zhK _ ?_
   (refine condF_k ?_ ?_; focus (first | rfl | (simp [go_sem, Nat.zero_add, F0, FB]; done)))
   refine exit_k ?_
   refine zhM _ _ ?_; clear zhN zhM
   refine zhM _ _ ?_; clear zhN zhM
   refine zbx _ ?_; clear zbn zbx zbr zbi
   refine zhN _ ?_; clear zhN zhM
   refine sr_k fun zK zhK => ?_
   simp only [go_sem, Nat.zero_add, F0, FB]
   repeat' (first | apply And.intro | intro _)
   all_goals (refine call_hand false [] (fun k => k) (fun _ _ => rfl) ?_ (by decide) ?_ (ih).hands ?_; iterate 2 (focus (first | rfl | (simp only [go_sem, Nat.zero_add, F0, FB] <;> first | done | rfl | simp))))
   all_goals (rintro v m ⟨hR, hm⟩; subst hR; subst hm)
   all_goals (refine And.intro ?_ (And.intro ?_ (And.intro ?_ ?_)); iterate 3 (focus (first | rfl | (simp only [go_sem, Nat.zero_add, F0, FB]; done) | (simp [go_sem, look, Nat.zero_add, F0, FB]; done))))
   all_goals (try simp only [go_sem, Nat.zero_add, F0, FB])
   all_goals (try simp only [go_sem, Nat.zero_add, F0, FB])
   all_goals repeat' (first | apply And.intro | intro _)
   refine zhK _ ?_
   refine ret_k ?_
   refine zhZ _ _ ?_
   simp only [go_sem, Nat.zero_add, F0, FB]
   all_goals (rw [← hrest]; exact byW_obj (b := true) (by simp [look, bytesC]) (by simp))
theorem rest_ (key : List UInt8) (hk : key.length = 32) (counter : UInt32) (nonce : List UInt8) (hn : nonce.length = 12) (b : List UInt8) (ex : Bool) (hb : ¬ 1600 < b.length) : ∀ (n j : Nat), b.length ≤ 64 * j + n → Ct Try.prog 51 [.w (.agg (bytesC key)), .w (.one (.pl (.u32 counter))), .w (.agg (bytesC nonce)), .w (.one (.pl (.R ex 1 (byteRows b)))), .w (.one (.pl (.i (64 * j : Nat))))] (byW (xorF (ksB key counter nonce) (64 * j) (b.drop (64 * j)))) := by
 intro n
 induction n with
 | zero => intro j h; exact (rest_nil key hk counter nonce hn b ex hb j (by omega)).told
 | succ n ih =>
  intro j h
  rcases Nat.lt_or_ge (64 * j) b.length with h1 | h1
  · exact (rest_go key hk counter nonce hn b ex hb j h1 (ih (j + 1) (by omega))).told
  · exact (rest_nil key hk counter nonce hn b ex hb j h1).told
theorem rest_0 (key : List UInt8) (hk : key.length = 32) (counter : UInt32) (nonce : List UInt8) (hn : nonce.length = 12) (b : List UInt8) (ex : Bool) (hb : ¬ 1600 < b.length) : Ct Try.prog 51 [.w (.agg (bytesC key)), .w (.one (.pl (.u32 counter))), .w (.agg (bytesC nonce)), .w (.one (.pl (.R ex 1 (byteRows b)))), .w (.one (.pl (.i 0)))] (byW (strV key counter nonce b)) := by
 have h := rest_ key hk counter nonce hn b ex hb b.length 0 (by omega)
 simp only [Nat.mul_zero, List.drop_zero] at h
 exact h
set_option maxHeartbeats 800000 in
theorem strd_ok (key : List UInt8) (hk : key.length = 32) (counter : UInt32) (nonce : List UInt8) (hn : nonce.length = 12) (b : List UInt8) (ex : Bool) (hb : ¬ 1600 < b.length) (ho : ¬ 64 * (4294967296 - counter.toNat) < b.length) :
 Ct Try.prog 27 [.w (.agg (bytesC key)), .w (.one (.pl (.u32 counter))), .w (.agg (bytesC nonce)), .w (.one (.pl (.R ex 1 (byteRows b))))] (Told (byV (strV key counter nonce b) 0)) := by
 have h1 : ¬ (1600 : Int) < ((b.length : Nat) : Int) := by omega
 have hc := counter.toNat_lt
 have htd : ((b.length + 63 : Nat) : Int).tdiv 64 = (((b.length + 63) / 64 : Nat) : Int) := rfl
 have hlt : ¬ (((4294967296 - counter.toNat : Nat) : Int) < (((b.length + 63) / 64 : Nat) : Int)) := by omega
 have hl2 : ¬ ((64 * (4294967296 - counter.toNat) : Nat) : Int) < ((b.length : Nat) : Int) := by omega
 obtain ⟨hw1, hw2, hw3, hw4⟩ : Go.RowKit.wrap64 (((b.length : Nat) : Int) + 63) = ((b.length + 63 : Nat) : Int) ∧ Go.RowKit.wrap64 (4294967296 - ((counter.toNat : Nat) : Int)) = ((4294967296 - counter.toNat : Nat) : Int) ∧ Go.RowKit.wrap64 ((((b.length + 63) / 64 : Nat) : Int)) = (((b.length + 63) / 64 : Nat) : Int) ∧ Go.RowKit.wrap64 (64 * ((4294967296 - counter.toNat : Nat) : Int)) = ((64 * (4294967296 - counter.toNat) : Nat) : Int) := ⟨wnat (by omega) (by omega), wnat (by omega) (by omega), wnat rfl (by omega), wnat (by omega) (by omega)⟩
 have F0 := And.intro hk <| And.intro hn <| And.intro h1 <| And.intro htd <| And.intro hlt <| And.intro hl2 <| And.intro hw1 <| And.intro hw2 <| And.intro hw3 <| hw4
 refine Ct.k Try.func27 rfl Try.ntmps27 (congrArg Array.toList Try.results27) (by simp) fun w0 ro => ?_
 refine top_k fun zZ zhZ => ?_
 iterate 19 first
  | (refine sr_k fun zK zhK => ?_; simp only [go_sem, F0]; (repeat' (first | apply And.intro | intro _)))
  | refine zhK _ ?_
  | refine skip_k ?_
  | (refine zhN _ ?_; clear zhN zhM)
  | refine ret_k ?_
  | (refine zhZ _ _ ?_; simp only [go_sem, F0]; (all_goals (exact by_same _)))
  | ((all_goals (refine call_hand false [] (fun k => k) (fun _ _ => rfl) ?_ (by decide) ?_ (rest_0 key hk counter nonce hn b ex hb).hands ?_; iterate 2 (focus (first | rfl | (simp only [go_sem, F0] <;> first | done | rfl | simp))))); (all_goals (rintro v m ⟨hR, hm⟩; subst hR; subst hm)); (all_goals (refine And.intro ?_ (And.intro ?_ (And.intro ?_ ?_)); iterate 3 (focus (first | rfl | (simp only [go_sem, F0]; done) | (simp [go_sem, look, F0]; done))))); (all_goals (try simp only [go_sem, F0])); (all_goals (try simp only [go_sem, F0])); (all_goals repeat' (first | apply And.intro | intro _)))
  | refine seq_k fun zN zM zhN zhM => ?_
  | (refine condF_k ?_ ?_; focus (first | rfl | (simp [go_sem, F0]; done)))
set_option maxHeartbeats 400000 in
theorem same_bytesE (e1 e2 : Bool) (r1 r2 : List UInt8) :
 Ct Try.prog 28 [.w (.one (.pl (.R e1 1 (byteRows r1)))), .w (.one (.pl (.R e2 1 (byteRows r2))))] (fun v m => v = .w (.one (.pl (.b (decide (r1 = r2)))))) := by
 refine Ct.k Try.func28 rfl Try.ntmps28 (congrArg Array.toList Try.results28) (by simp) fun w0 ro => ?_
 refine top_k fun zZ zhZ => ?_
 iterate 6 first
  | (refine sr_k fun zK zhK => ?_; simp only [go_sem]; (repeat' (first | apply And.intro | intro _)))
  | refine zhK _ ?_
  | refine ret_k ?_
  | (refine zhZ _ _ ?_; simp only [go_sem]; (all_goals rfl))
end Go.Sy

