/- Walks: the rest of a stream, as the document tells it; the law on streams. -/
import Derived.Test.YthcpkdhojokhdaaveC7
set_option linter.unusedVariables false
set_option linter.unusedSimpArgs false
namespace Go.Sy
open Go.Proofs
attribute [local irreducible] atCall HT runOps runD onC onE onO onG goV goA goS onSt onGuard
def byW (bs : List UInt8) (v : V) (m : List (Nat × Ob)) : Prop := v = .w (.one (.pl (.R false 1 (byteRows bs)))) ∧ m = []
theorem byW_nil {m : List (Nat × Ob)} {sz : Nat} {ex : Bool} : Told (byW []) (.w (.one (.pl (.R ex sz [])))) m :=
 told_weak (v' := .w (.one (.pl (.R false 1 (byteRows []))))) (fun d y h => byR_weak d y (R_nil_den h)) (told_plain rfl ⟨rfl, rfl⟩)
theorem byW_obj {k n : Nat} {m : List (Nat × Ob)} {b : Bool} {l : List UInt8} (hk : look m k = some ⟨b, bytesC l⟩) (hn : n = l.length) (hlt : k < 500000 := by decide) : Told (byW l) (.w (.one (.s k [] n 1))) m := by
 refine told_seal k (l.map .u8) (by rw [hk, pls_bytes]) hlt ?_
 simp only [sealV, sealW, seal_bytes hn]
 exact told_plain rfl ⟨rfl, rfl⟩
def bV (j : Nat) (l : List UInt8) : V := if l = [] then .w (.one (.pl (.R true 1 []))) else .w (.one (.s j [] l.length 1))
def bM (j : Nat) (l : List UInt8) : List (Nat × Ob) := if l = [] then [] else [(j, ⟨true, bytesC l⟩)]
theorem bV_nil (j : Nat) : bV j [] = .w (.one (.pl (.R true 1 []))) := if_pos rfl
theorem bM_nil (j : Nat) : bM j [] = [] := if_pos rfl
theorem bV_of (j : Nat) {l : List UInt8} (h : l ≠ []) : bV j l = .w (.one (.s j [] l.length 1)) := if_neg h
theorem bM_of (j : Nat) {l : List UInt8} (h : l ≠ []) : bM j l = [(j, ⟨true, bytesC l⟩)] := if_neg h
theorem bV_snoc (j : Nat) (l : List UInt8) (p : UInt8) : bV j (l ++ [p]) = .w (.one (.s j [] (l.length + 1) 1)) := by rw [bV_of j (by simp)]; simp
theorem bV_one (j : Nat) (p : UInt8) : bV j [p] = .w (.one (.s j [] 1 1)) := bV_snoc j [] p
theorem bM_one (j : Nat) (p : UInt8) : bM j [p] = [(j, ⟨true, bytesC [p]⟩)] := bM_of j (by simp)
theorem bM_snoc (j : Nat) (l : List UInt8) (p : UInt8) : bM j (l ++ [p]) = [(j, ⟨true, bytesC (l ++ [p])⟩)] := bM_of j (by simp)
theorem xorF_snoc (f : Nat → UInt8) {c : List UInt8} {n k : Nat} (h : k < c.length) : xorF f n (c.take (k + 1)) = xorF f n (c.take k) ++ [c.getD k 0 ^^^ f (n + k)] := by
 have e : c.take (k + 1) = c.take k ++ [c.getD k 0] := by
  rw [List.take_succ_eq_append_getElem h]; simp [List.getD, List.getElem?_eq_getElem h]
 rw [e, xorF_append, List.length_take, Nat.min_eq_left (by omega)]; rfl
theorem xorF_cut (f : Nat → UInt8) (b : List UInt8) (n k : Nat) (h : k ≤ b.length - n) : xorF f n ((b.drop n).take k) ++ xorF f (n + k) (b.drop (n + k)) = xorF f n (b.drop n) := by
 conv => rhs; rw [← List.take_append_drop k (b.drop n)]
 rw [xorF_append, List.length_take, List.length_drop, Nat.min_eq_left h, List.drop_drop]
theorem xorF_out (f : Nat → UInt8) (b : List UInt8) (n : Nat) (h : b.length ≤ n) : xorF f n (b.drop n) = [] := by rw [List.drop_of_length_le h]; rfl
set_option maxHeartbeats 400000 in
theorem rest_nil (key : List UInt8) (hk : key.length = 32) (counter : UInt32) (nonce : List UInt8) (hn : nonce.length = 12) (b : List UInt8) (ex : Bool) (hb : ¬ 1600 < b.length) (j : Nat) (hj : b.length ≤ 64 * j) :
 Ct Try.prog 51 [.w (.agg (bytesC key)), .w (.one (.pl (.u32 counter))), .w (.agg (bytesC nonce)), .w (.one (.pl (.R ex 1 (byteRows b)))), .w (.one (.pl (.i (64 * j : Nat))))] (Told (byW (xorF (ksB key counter nonce) (64 * j) (b.drop (64 * j))))) := by
 have h1 : ((b.length : Nat) : Int) ≤ ((64 * j : Nat) : Int) := by omega
 have hx := xorF_out (ksB key counter nonce) b (64 * j) hj
 have F0 := And.intro hk <| And.intro hn <| h1
 refine Ct.k Try.func51 rfl Try.ntmps51 (congrArg Array.toList Try.results51) (by simp) fun w0 ro => ?_
 refine sr_k fun K1 hK1 => ?_
 simp only [go_sem, F0]
 all_goals repeat' (first | apply And.intro | intro _)
 refine hK1 _ ?_
 refine seq_k fun N2 M2 hN2 hM2 => ?_
 refine sr_k fun K3 hK3 => ?_
 simp only [go_sem, F0]
 all_goals repeat' (first | apply And.intro | intro _)
 refine hK3 _ ?_
 refine condT_k (by first | rfl | (simp [go_sem, F0]; done)) ?_
 refine sr_k fun K4 hK4 => ?_
 simp only [go_sem, F0]
 all_goals repeat' (first | apply And.intro | intro _)
 refine hK4 _ ?_
 refine ret_k ?_
 refine hM2 _ _ ?_
 simp only [go_sem, F0]
 all_goals (rw [hx]; exact byW_nil)
set_option maxHeartbeats 3200000 in
set_option maxRecDepth 100000 in
theorem rest_go (key : List UInt8) (hk : key.length = 32) (counter : UInt32) (nonce : List UInt8) (hn : nonce.length = 12) (b : List UInt8) (ex : Bool) (hb : ¬ 1600 < b.length) (j : Nat) (hj : 64 * j < b.length) (ih : Ct Try.prog 51 [.w (.agg (bytesC key)), .w (.one (.pl (.u32 counter))), .w (.agg (bytesC nonce)), .w (.one (.pl (.R ex 1 (byteRows b)))), .w (.one (.pl (.i (64 * (j + 1) : Nat))))] (byW (xorF (ksB key counter nonce) (64 * (j + 1)) (b.drop (64 * (j + 1)))))) :
 Ct Try.prog 51 [.w (.agg (bytesC key)), .w (.one (.pl (.u32 counter))), .w (.agg (bytesC nonce)), .w (.one (.pl (.R ex 1 (byteRows b)))), .w (.one (.pl (.i (64 * j : Nat))))] (Told (byW (xorF (ksB key counter nonce) (64 * j) (b.drop (64 * j))))) := by
 obtain ⟨f, hf⟩ : ∃ f, ksB key counter nonce = f := ⟨_, rfl⟩
 rw [hf] at ih ⊢
 obtain ⟨kb, hkb⟩ : ∃ kb, blockV (initW key (counter + UInt32.ofNat j) nonce) = kb := ⟨_, rfl⟩
 have hkl : kb.length = 64 := by rw [← hkb]; exact blockV_length _
 have htd2 : ((64 * j : Nat) : Int).tdiv 64 = ((j : Nat) : Int) := by rw [show ((64 * j : Nat) : Int).tdiv 64 = ((64 * j / 64 : Nat) : Int) from rfl]; omega
 have hu : UInt32.ofNat (((j : Nat) : Int) % 4294967296).toNat = UInt32.ofNat j := by rw [show (((j : Nat) : Int) % 4294967296).toNat = j from by omega]
 have hcq : ¬ ((b.length : Nat) : Int) ≤ ((64 * j : Nat) : Int) := by omega
 have hw7 : Go.RowKit.wrap64 ((j : Nat) : Int) = ((j : Nat) : Int) := wnat rfl (by omega)
 have F0 := And.intro hk <| And.intro hn <| And.intro hkl <| And.intro htd2 <| And.intro hu <| And.intro hkb <| And.intro hcq <| hw7
 refine Ct.k Try.func51 rfl Try.ntmps51 (congrArg Array.toList Try.results51) (by simp) fun w0 ro => ?_
 refine sr_k fun K1 hK1 => ?_
 simp only [go_sem, Nat.zero_add, F0]
 all_goals repeat' (first | apply And.intro | intro _)
 refine hK1 _ ?_
 refine seq_k fun N2 M2 hN2 hM2 => ?_
 refine sr_k fun K3 hK3 => ?_
 simp only [go_sem, Nat.zero_add, F0]
 all_goals repeat' (first | apply And.intro | intro _)
 refine hK3 _ ?_
 refine condF_k (by first | rfl | (simp [go_sem, Nat.zero_add, F0]; done)) ?_
 refine skip_k ?_
 refine hN2 _ ?_
 refine sr_k fun K4 hK4 => ?_
 simp only [go_sem, Nat.zero_add, F0]
 all_goals repeat' (first | apply And.intro | intro _)
 all_goals refine call_view (fun k => k) (fun _ _ => rfl) (by first | rfl | (simp only [go_sem, Nat.zero_add, F0]; rfl) | simp only [go_sem, Nat.zero_add, F0]) ((block_of key hk (counter + UInt32.ofNat j) nonce hn).plain fun _ _ h => h) ?_
 all_goals (rintro v m ⟨hR, hm⟩; subst hR; subst hm)
 all_goals refine And.intro (by first | rfl | simp only [go_sem, Nat.zero_add, F0]) (And.intro (by first | rfl | simp only [go_sem, Nat.zero_add, F0]) ?_)
 all_goals simp only [go_sem, Nat.zero_add, F0]
 all_goals repeat' (first | apply And.intro | intro _)
 refine hK4 _ ?_
 refine sr_k fun K5 hK5 => ?_
 simp only [go_sem, Nat.zero_add, F0]
 all_goals repeat' (first | apply And.intro | intro _)
 refine hK5 _ ?_
 refine seq_k fun N6 M6 hN6 hM6 => ?_
 refine sr_k fun K7 hK7 => ?_
 simp only [go_sem, Nat.zero_add, F0]
 all_goals repeat' (first | apply And.intro | intro _)
 refine hK7 _ ?_
 refine block_k fun B8 bn8 bx8 br8 bi8 => ?_
 refine ht_dropE [0, 2, 14, 15, 16, 17, 18, 19, 20, 21, 22, 23, 24, 25, 26] ?_
 simp only [dropE_mk, fgt_nil, fgt_cons, List.contains_cons, List.contains_nil, Nat.reduceBEq, beq_self_eq_true, Bool.or_false, Bool.or_true, Bool.true_or, Bool.false_or, Bool.false_eq_true, reduceIte]
 refine loop_k (fun y => [(13, .w (.one (.pl (.i ((y.1.1 : Nat) : Int))))), (12, bV 51 y.1.2)]) (fun y => bM 51 y.1.2) (fun y => 64 * j + 64 - y.1.1) (⟨(64 * j, []), Nat.le_refl _, by clear hw7 F0; omega, by simp [xorF], by simp⟩ : {y : Nat × List UInt8 // 64 * j ≤ y.1 ∧ y.1 ≤ min (64 * j + 64) b.length ∧ y.2 = xorF f (64 * j) ((b.drop (64 * j)).take (y.1 - 64 * j)) ∧ y.2.length = y.1 - 64 * j}) ?_ ?_ ?_
 · (simp only [bV_nil, go_sem, leX, List.cons_append, List.nil_append]; try simp [bV_nil])
 · (simp only [bM_nil, go_sem, leX, List.cons_append, List.nil_append]; try simp [bM_nil])
 intro yy N9 M9 hN9 hM9
 simp only [List.cons_append, List.nil_append]
 obtain ⟨⟨i, l⟩, h1, h2, h3, h4⟩ := yy
 simp only at h1 h2 h3 h4
 have hd : (i < b.length ∧ i < 64 * j + 64 ∧ l = []) ∨ (i < b.length ∧ i < 64 * j + 64 ∧ l ≠ []) ∨ (i = b.length ∧ l ≠ []) ∨ (i < b.length ∧ i = 64 * j + 64 ∧ l ≠ []) := by
  have hne : i = 64 * j ∨ l ≠ [] := by
   by_cases h : l = []
   · subst h; simp at h4; exact .inl (by clear hw7 F0; omega)
   · exact .inr h
  by_cases g : l = []
  · have : i = 64 * j := hne.resolve_right (fun h => h g)
    exact .inl ⟨by clear hw7 F0; omega, by clear hw7 F0; omega, g⟩
  · by_cases g2 : i < b.length
    · by_cases g3 : i < 64 * j + 64
      · exact .inr (.inl ⟨g2, g3, g⟩)
      · exact .inr (.inr (.inr ⟨g2, by clear hw7 F0; omega, g⟩))
    · exact .inr (.inr (.inl ⟨by clear hw7 F0; omega, g⟩))
 rcases hd with ⟨hA, hB, rfl⟩ | ⟨hA, hB, hl0⟩ | ⟨rfl, hl0⟩ | ⟨hA, rfl, hl0⟩
 · simp only [bV_nil, bM_nil, List.cons_append, List.nil_append]
   have hi0 : i = 64 * j := by
    have := h4
    simp only [List.length_nil] at this
    clear hw7 F0
    omega
   have h1' := byteRows_get hA
   have h2' := u8_one (q := kb) (i := i - 64 * j) (by clear hw7 F0; omega)
   have hfi : kb.getD (i - 64 * j) 0 = f i := by
    rw [← hf, ← hkb, ksB, show i / 64 = j from by clear hw7 F0; omega, show i % 64 = i - 64 * j from by clear hw7 F0; omega]
   rw [hfi] at h2'
   have hsn := xorF_snoc f (c := b.drop (64 * j)) (n := 64 * j) (k := i - 64 * j) (by rw [List.length_drop]; omega)
   have hbg : (b.drop (64 * j)).getD (i - 64 * j) 0 = b.getD i 0 := by
    rw [List.getD, List.getElem?_drop, show 64 * j + (i - 64 * j) = i from by clear hw7 F0; omega]; rfl
   rw [hbg, show 64 * j + (i - 64 * j) = i from by clear hw7 F0; omega, ← h3, show i - 64 * j + 1 = i + 1 - 64 * j from by clear hw7 F0; omega] at hsn
   have hcA : ((i : Nat) : Int) < ((b.length : Nat) : Int) := by clear hw7 F0; omega
   have hcB : ((i : Nat) : Int) < ((64 * j + 64 : Nat) : Int) := by clear hw7 F0; omega
   have d0 : (0 : Int) ≤ ((i : Nat) : Int) ∧ (0 : Int) ≤ ((i - 64 * j : Nat) : Int) ∧ ((i - 64 * j : Nat) : Int) < 64 := by clear hw7 F0; omega
   have d1 : i - 64 * j + 1 ≤ 64 := by clear hw7 F0; omega
   have hcap : ([] : List UInt8).length + 1 ≤ 140737488355328 := by clear hw7 F0; omega
   have n4 : ([] ++ [b.getD i 0 ^^^ f i]).length = i + 1 - 64 * j := by rw [List.length_append, List.length_cons, List.length_nil]; omega
   have n1 : 64 * j ≤ i + 1 := by clear hw7 F0; omega
   have n2 : i + 1 ≤ min (64 * j + 64) b.length := by clear hw7 F0; omega
   have nd : 64 * j + 64 - (i + 1) < 64 * j + 64 - i := by clear hw7 F0; omega
   obtain ⟨hs1, hw5, hw6⟩ : Go.RowKit.wrap64 (((i : Nat) : Int) + 1) = ((i + 1 : Nat) : Int) ∧ Go.RowKit.wrap64 (((64 * j : Nat) : Int) + 64) = ((64 * j + 64 : Nat) : Int) ∧ Go.RowKit.wrap64 (((i : Nat) : Int) - ((64 * j : Nat) : Int)) = ((i - 64 * j : Nat) : Int) := ⟨wnat (by clear hw7 F0; omega) (by clear hw7 F0; omega), wnat (by clear hw7 F0; omega) (by clear hw7 F0; omega), wnat (by clear hw7 F0; omega) (by clear hw7 F0; omega)⟩
   have FB := And.intro hcA <| And.intro hcB <| And.intro d0 <| And.intro d1 <| And.intro hcap <| And.intro hs1 <| And.intro hw5 <| hw6
   refine seq_k fun N10 M10 hN10 hM10 => ?_
   refine sr_k fun K11 hK11 => ?_
   simp only [go_sem, Nat.zero_add, F0, h1', h2', hkl, bytesC_1, FB]
   all_goals repeat' (first | apply And.intro | intro _)
   refine hK11 _ ?_
   refine condT_k (by first | rfl | (simp [go_sem, Nat.zero_add, F0, h1', h2', hkl, bytesC_1, FB]; done)) ?_
   refine skip_k ?_
   refine hN10 _ ?_
   refine seq_k fun N12 M12 hN12 hM12 => ?_
   refine block_k fun B13 bn13 bx13 br13 bi13 => ?_
   refine draw_k [39, 40, 41, 42, 43, 44, 45, 46, 47, 48, 49, 50, 51, 12] [0, 0, 0, 6, 14, 0, 0, 96, 224, 480, 1022, 2046, 4095, 8191] [] mixed (by kernel_rfl) (by simp only [go_sem]) fun K14 hK14 => ?_
   simp only [go_sem, Nat.zero_add, F0, h1', h2', hkl, bytesC_1, FB]
   all_goals repeat' (first | apply And.intro | intro _)
   refine hK14 _ _ ?_ ?_
   · first | trivial | (simp only [go_sem]; done) | (simp only [go_sem]; simp; done) | (simp only [go_sem]; simp; simp only [go_sem])
   refine bn13 _ ?_
   refine hN12 _ ?_
   refine region_k fun K15 hK15 => ?_
   simp only [go_sem, Nat.zero_add, F0, h1', h2', hkl, bytesC_1, FB]
   all_goals repeat' (first | apply And.intro | intro _)
   refine hK15 _ ?_
   refine hN9 ⟨(i + 1, [] ++ [b.getD i 0 ^^^ f i]), n1, n2, hsn.symm, n4⟩ _ ?_ ?_ ?_
   · (exact nd)
   · (simp only [bV_snoc, go_sem, leX, List.cons_append, List.nil_append]; try simp [bV_one])
   · (simp only [bM_snoc, go_sem, leX, List.cons_append, List.nil_append]; try simp [bM_one, bytesC, pls, leX, look])
 · simp only [bV_of _ hl0, bM_of _ hl0, List.cons_append, List.nil_append]
   have h1' := byteRows_get hA
   have h2' := u8_one (q := kb) (i := i - 64 * j) (by clear hw7 F0; omega)
   have hfi : kb.getD (i - 64 * j) 0 = f i := by
    rw [← hf, ← hkb, ksB, show i / 64 = j from by clear hw7 F0; omega, show i % 64 = i - 64 * j from by clear hw7 F0; omega]
   rw [hfi] at h2'
   have hsn := xorF_snoc f (c := b.drop (64 * j)) (n := 64 * j) (k := i - 64 * j) (by rw [List.length_drop]; omega)
   have hbg : (b.drop (64 * j)).getD (i - 64 * j) 0 = b.getD i 0 := by
    rw [List.getD, List.getElem?_drop, show 64 * j + (i - 64 * j) = i from by clear hw7 F0; omega]; rfl
   rw [hbg, show 64 * j + (i - 64 * j) = i from by clear hw7 F0; omega, ← h3, show i - 64 * j + 1 = i + 1 - 64 * j from by clear hw7 F0; omega] at hsn
   have hcA : ((i : Nat) : Int) < ((b.length : Nat) : Int) := by clear hw7 F0; omega
   have hcB : ((i : Nat) : Int) < ((64 * j + 64 : Nat) : Int) := by clear hw7 F0; omega
   have d0 : (0 : Int) ≤ ((i : Nat) : Int) ∧ (0 : Int) ≤ ((i - 64 * j : Nat) : Int) ∧ ((i - 64 * j : Nat) : Int) < 64 := by clear hw7 F0; omega
   have d1 : i - 64 * j + 1 ≤ 64 := by clear hw7 F0; omega
   have hcap : l.length + 1 ≤ 140737488355328 := by clear hw7 F0; omega
   have n4 : (l ++ [b.getD i 0 ^^^ f i]).length = i + 1 - 64 * j := by rw [List.length_append, List.length_cons, List.length_nil]; omega
   have n1 : 64 * j ≤ i + 1 := by clear hw7 F0; omega
   have n2 : i + 1 ≤ min (64 * j + 64) b.length := by clear hw7 F0; omega
   have nd : 64 * j + 64 - (i + 1) < 64 * j + 64 - i := by clear hw7 F0; omega
   obtain ⟨hs1, hw5, hw6⟩ : Go.RowKit.wrap64 (((i : Nat) : Int) + 1) = ((i + 1 : Nat) : Int) ∧ Go.RowKit.wrap64 (((64 * j : Nat) : Int) + 64) = ((64 * j + 64 : Nat) : Int) ∧ Go.RowKit.wrap64 (((i : Nat) : Int) - ((64 * j : Nat) : Int)) = ((i - 64 * j : Nat) : Int) := ⟨wnat (by clear hw7 F0; omega) (by clear hw7 F0; omega), wnat (by clear hw7 F0; omega) (by clear hw7 F0; omega), wnat (by clear hw7 F0; omega) (by clear hw7 F0; omega)⟩
   have FB := And.intro hcA <| And.intro hcB <| And.intro d0 <| And.intro d1 <| And.intro hcap <| And.intro hs1 <| And.intro hw5 <| hw6
   refine seq_k fun N16 M16 hN16 hM16 => ?_
   refine sr_k fun K17 hK17 => ?_
   simp only [go_sem, Nat.zero_add, F0, h1', h2', hkl, bytesC_1, FB]
   all_goals repeat' (first | apply And.intro | intro _)
   refine hK17 _ ?_
   refine condT_k (by first | rfl | (simp [go_sem, Nat.zero_add, F0, h1', h2', hkl, bytesC_1, FB]; done)) ?_
   refine skip_k ?_
   refine hN16 _ ?_
   refine seq_k fun N18 M18 hN18 hM18 => ?_
   refine block_k fun B19 bn19 bx19 br19 bi19 => ?_
   refine draw_k [39, 40, 41, 42, 43, 44, 45, 46, 47, 48, 49, 50, 12] [0, 0, 0, 6, 14, 0, 0, 96, 224, 480, 1022, 2046, 4095, 8191] [] mixed (by kernel_rfl) (by simp only [go_sem]) fun K20 hK20 => ?_
   simp only [go_sem, Nat.zero_add, F0, h1', h2', hkl, bytesC_1, FB]
   all_goals repeat' (first | apply And.intro | intro _)
   refine hK20 _ _ ?_ ?_
   · first | trivial | (simp only [go_sem]; done) | (simp only [go_sem]; simp; done) | (simp only [go_sem]; simp; simp only [go_sem])
   refine bn19 _ ?_
   refine hN18 _ ?_
   refine region_k fun K21 hK21 => ?_
   simp only [go_sem, Nat.zero_add, F0, h1', h2', hkl, bytesC_1, FB]
   all_goals repeat' (first | apply And.intro | intro _)
   refine hK21 _ ?_
   refine hN9 ⟨(i + 1, l ++ [b.getD i 0 ^^^ f i]), n1, n2, hsn.symm, n4⟩ _ ?_ ?_ ?_
   · (exact nd)
   · (simp only [bV_snoc, go_sem, leX, List.cons_append, List.nil_append]; try simp [bV_one])
   · (simp only [bM_snoc, go_sem, leX, List.cons_append, List.nil_append]; try simp [bM_one, bytesC, pls, leX, look])
 · simp only [bV_of _ hl0, bM_of _ hl0, List.cons_append, List.nil_append]
   have hcut := xorF_cut f b (64 * j) (b.length - 64 * j) (by clear hw7 F0; omega)
   have hrest : l ++ xorF f (64 * (j + 1)) (b.drop (64 * (j + 1))) = xorF f (64 * j) (b.drop (64 * j)) := by
    rw [← hcut, ← h3]; congr 1
    rw [xorF_out f b (64 * (j + 1)) (by clear hw7 F0; omega), show 64 * j + (b.length - 64 * j) = b.length from by clear hw7 F0; omega, xorF_out f b b.length (Nat.le_refl _)]
   obtain ⟨r, hr⟩ : ∃ r, xorF f (64 * (j + 1)) (b.drop (64 * (j + 1))) = r := ⟨_, rfl⟩
   have hrl : r.length ≤ 1600 := by rw [← hr, xorF_length, List.length_drop]; omega
   have hll : l.length ≤ 1600 := by clear hw7 F0; omega
   rw [hr] at hrest ih
   have hjn : 64 * (j + 1) = 64 * j + 64 := by clear hw7 F0; omega
   rw [hjn] at ih
   have hcap2 : l.length + r.length ≤ 140737488355328 := by clear hw7 F0; omega
   have hcap3 : l.length ≤ 140737488355328 := by clear hw7 F0; omega
   have hcA : ¬ ((b.length : Nat) : Int) < ((b.length : Nat) : Int) := by clear hw7 F0; omega
   obtain ⟨hw5, hw6⟩ : Go.RowKit.wrap64 (((64 * j : Nat) : Int) + 64) = ((64 * j + 64 : Nat) : Int) ∧ True := ⟨wnat (by clear hw7 F0; omega) (by clear hw7 F0; omega), trivial⟩
   have FB := And.intro hcA <| And.intro hcap2 <| And.intro hcap3 <| hw5
   refine seq_k fun N22 M22 hN22 hM22 => ?_
   refine sr_k fun K23 hK23 => ?_
   simp only [go_sem, Nat.zero_add, F0, FB]
   all_goals repeat' (first | apply And.intro | intro _)
   refine hK23 _ ?_
   refine condF_k (by first | rfl | (simp [go_sem, Nat.zero_add, F0, FB]; done)) ?_
   refine exit_k ?_
   refine hM22 _ _ ?_
   refine hM9 _ _ ?_
   refine bx8 _ ?_
   refine hN6 _ ?_
   refine sr_k fun K24 hK24 => ?_
   simp only [go_sem, Nat.zero_add, F0, FB]
   all_goals repeat' (first | apply And.intro | intro _)
   all_goals (refine call_hand false [] (fun k => k) (fun _ _ => rfl) ?_ (by decide) ?_ (ih).hands ?_; (focus ( first | rfl | (simp only [go_sem, valsIn, valIn, leafIn, leavesIn, nameIn, capsIn, handOk, Nat.zero_add, F0, FB] <;> done) | (simp only [go_sem, valsIn, valIn, leafIn, leavesIn, nameIn, capsIn, handOk, Nat.zero_add, F0, FB] <;> rfl) | (simp only [go_sem, valsIn, valIn, leafIn, leavesIn, nameIn, capsIn, handOk, Nat.zero_add, F0, FB] <;> simp))); (focus ( first | rfl | (simp only [go_sem, valsIn, valIn, leafIn, leavesIn, nameIn, capsIn, handOk, Nat.zero_add, F0, FB] <;> done) | (simp only [go_sem, valsIn, valIn, leafIn, leavesIn, nameIn, capsIn, handOk, Nat.zero_add, F0, FB] <;> rfl) | (simp only [go_sem, valsIn, valIn, leafIn, leavesIn, nameIn, capsIn, handOk, Nat.zero_add, F0, FB] <;> simp))))
   all_goals (rintro v m ⟨hR, hm⟩; subst hR; subst hm)
   all_goals refine And.intro (by (first | rfl | (simp only [go_sem, leafOutV, leafOutW, leafOut, okN, outOk, inv, Nat.zero_add, F0, FB]; done) | (simp [go_sem, leafOutV, leafOutW, leafOut, okN, outOk, inv, look, Nat.zero_add, F0, FB]; done))) (And.intro (by (first | rfl | (simp only [go_sem, leafOutV, leafOutW, leafOut, okN, outOk, inv, Nat.zero_add, F0, FB]; done) | (simp [go_sem, leafOutV, leafOutW, leafOut, okN, outOk, inv, look, Nat.zero_add, F0, FB]; done))) (And.intro (by (first | rfl | (simp only [go_sem, leafOutV, leafOutW, leafOut, okN, outOk, inv, Nat.zero_add, F0, FB]; done) | (simp [go_sem, leafOutV, leafOutW, leafOut, okN, outOk, inv, look, Nat.zero_add, F0, FB]; done))) ?_))
   all_goals (try simp only [go_sem, backM, outN, nameOut, Ob.ren, V.ren, W.ren, L.ren, setM, Nat.zero_add, F0, FB])
   all_goals (try simp only [go_sem, Nat.zero_add, F0, FB])
   all_goals repeat' (first | apply And.intro | intro _)
   refine hK24 _ ?_
   refine ret_k ?_
   simp only [go_sem, Nat.zero_add, F0, FB]
   all_goals (rw [← hrest]; exact byW_obj (b := true) (by simp [look, bytesC]) (by simp))
 · simp only [bV_of _ hl0, bM_of _ hl0, List.cons_append, List.nil_append]
   have hcut := xorF_cut f b (64 * j) ((64 * j + 64) - 64 * j) (by clear hw7 F0; omega)
   have hrest : l ++ xorF f (64 * (j + 1)) (b.drop (64 * (j + 1))) = xorF f (64 * j) (b.drop (64 * j)) := by
    rw [← hcut, ← h3]; congr 1
    rw [show 64 * j + (64 * j + 64 - 64 * j) = 64 * (j + 1) from by clear hw7 F0; omega]
   obtain ⟨r, hr⟩ : ∃ r, xorF f (64 * (j + 1)) (b.drop (64 * (j + 1))) = r := ⟨_, rfl⟩
   have hrl : r.length ≤ 1600 := by rw [← hr, xorF_length, List.length_drop]; omega
   have hll : l.length ≤ 1600 := by clear hw7 F0; omega
   rw [hr] at hrest ih
   have hjn : 64 * (j + 1) = 64 * j + 64 := by clear hw7 F0; omega
   rw [hjn] at ih
   have hcap2 : l.length + r.length ≤ 140737488355328 := by clear hw7 F0; omega
   have hcap3 : l.length ≤ 140737488355328 := by clear hw7 F0; omega
   have hcA : ((64 * j + 64 : Nat) : Int) < ((b.length : Nat) : Int) := by clear hw7 F0; omega
   have hcB : ¬ ((64 * j + 64 : Nat) : Int) < ((64 * j + 64 : Nat) : Int) := by clear hw7 F0; omega
   obtain ⟨hw5, hw6⟩ : Go.RowKit.wrap64 (((64 * j : Nat) : Int) + 64) = ((64 * j + 64 : Nat) : Int) ∧ True := ⟨wnat (by clear hw7 F0; omega) (by clear hw7 F0; omega), trivial⟩
   have FB := And.intro hcA <| And.intro hcB <| And.intro hcap2 <| And.intro hcap3 <| hw5
   refine seq_k fun N25 M25 hN25 hM25 => ?_
   refine sr_k fun K26 hK26 => ?_
   simp only [go_sem, Nat.zero_add, F0, FB]
   all_goals repeat' (first | apply And.intro | intro _)
   refine hK26 _ ?_
   refine condF_k (by first | rfl | (simp [go_sem, Nat.zero_add, F0, FB]; done)) ?_
   refine exit_k ?_
   refine hM25 _ _ ?_
   refine hM9 _ _ ?_
   refine bx8 _ ?_
   refine hN6 _ ?_
   refine sr_k fun K27 hK27 => ?_
   simp only [go_sem, Nat.zero_add, F0, FB]
   all_goals repeat' (first | apply And.intro | intro _)
   all_goals (refine call_hand false [] (fun k => k) (fun _ _ => rfl) ?_ (by decide) ?_ (ih).hands ?_; (focus ( first | rfl | (simp only [go_sem, valsIn, valIn, leafIn, leavesIn, nameIn, capsIn, handOk, Nat.zero_add, F0, FB] <;> done) | (simp only [go_sem, valsIn, valIn, leafIn, leavesIn, nameIn, capsIn, handOk, Nat.zero_add, F0, FB] <;> rfl) | (simp only [go_sem, valsIn, valIn, leafIn, leavesIn, nameIn, capsIn, handOk, Nat.zero_add, F0, FB] <;> simp))); (focus ( first | rfl | (simp only [go_sem, valsIn, valIn, leafIn, leavesIn, nameIn, capsIn, handOk, Nat.zero_add, F0, FB] <;> done) | (simp only [go_sem, valsIn, valIn, leafIn, leavesIn, nameIn, capsIn, handOk, Nat.zero_add, F0, FB] <;> rfl) | (simp only [go_sem, valsIn, valIn, leafIn, leavesIn, nameIn, capsIn, handOk, Nat.zero_add, F0, FB] <;> simp))))
   all_goals (rintro v m ⟨hR, hm⟩; subst hR; subst hm)
   all_goals refine And.intro (by (first | rfl | (simp only [go_sem, leafOutV, leafOutW, leafOut, okN, outOk, inv, Nat.zero_add, F0, FB]; done) | (simp [go_sem, leafOutV, leafOutW, leafOut, okN, outOk, inv, look, Nat.zero_add, F0, FB]; done))) (And.intro (by (first | rfl | (simp only [go_sem, leafOutV, leafOutW, leafOut, okN, outOk, inv, Nat.zero_add, F0, FB]; done) | (simp [go_sem, leafOutV, leafOutW, leafOut, okN, outOk, inv, look, Nat.zero_add, F0, FB]; done))) (And.intro (by (first | rfl | (simp only [go_sem, leafOutV, leafOutW, leafOut, okN, outOk, inv, Nat.zero_add, F0, FB]; done) | (simp [go_sem, leafOutV, leafOutW, leafOut, okN, outOk, inv, look, Nat.zero_add, F0, FB]; done))) ?_))
   all_goals (try simp only [go_sem, backM, outN, nameOut, Ob.ren, V.ren, W.ren, L.ren, setM, Nat.zero_add, F0, FB])
   all_goals (try simp only [go_sem, Nat.zero_add, F0, FB])
   all_goals repeat' (first | apply And.intro | intro _)
   refine hK27 _ ?_
   refine ret_k ?_
   simp only [go_sem, Nat.zero_add, F0, FB]
   all_goals (rw [← hrest]; exact byW_obj (b := true) (by simp [look, bytesC]) (by simp))
theorem rest_ (key : List UInt8) (hk : key.length = 32) (counter : UInt32) (nonce : List UInt8) (hn : nonce.length = 12) (b : List UInt8) (ex : Bool) (hb : ¬ 1600 < b.length) : ∀ (n j : Nat), b.length ≤ 64 * j + n → Ct Try.prog 51 [.w (.agg (bytesC key)), .w (.one (.pl (.u32 counter))), .w (.agg (bytesC nonce)), .w (.one (.pl (.R ex 1 (byteRows b)))), .w (.one (.pl (.i (64 * j : Nat))))] (byW (xorF (ksB key counter nonce) (64 * j) (b.drop (64 * j)))) := by
 intro n
 induction n with
 | zero => intro j h; exact (rest_nil key hk counter nonce hn b ex hb j (by omega)).told
 | succ n ih =>
  intro j h
  rcases Nat.lt_or_ge (64 * j) b.length with h1 | h1
  · exact (rest_go key hk counter nonce hn b ex hb j h1 (ih (j + 1) (by omega))).told
  · exact (rest_nil key hk counter nonce hn b ex hb j h1).told
theorem rest_0 (key : List UInt8) (hk : key.length = 32) (counter : UInt32) (nonce : List UInt8) (hn : nonce.length = 12) (b : List UInt8) (ex : Bool) (hb : ¬ 1600 < b.length) : Ct Try.prog 51 [.w (.agg (bytesC key)), .w (.one (.pl (.u32 counter))), .w (.agg (bytesC nonce)), .w (.one (.pl (.R ex 1 (byteRows b)))), .w (.one (.pl (.i 0)))] (byW (strV key counter nonce b)) := by
 have h := rest_ key hk counter nonce hn b ex hb b.length 0 (by omega)
 simp only [Nat.mul_zero, List.drop_zero] at h
 exact h
set_option maxHeartbeats 800000 in
theorem strd_ok (key : List UInt8) (hk : key.length = 32) (counter : UInt32) (nonce : List UInt8) (hn : nonce.length = 12) (b : List UInt8) (ex : Bool) (hb : ¬ 1600 < b.length) (ho : ¬ 64 * (4294967296 - counter.toNat) < b.length) :
 Ct Try.prog 27 [.w (.agg (bytesC key)), .w (.one (.pl (.u32 counter))), .w (.agg (bytesC nonce)), .w (.one (.pl (.R ex 1 (byteRows b))))] (Told (byV (strV key counter nonce b) 0)) := by
 have h1 : ¬ (1600 : Int) < ((b.length : Nat) : Int) := by omega
 have hc := counter.toNat_lt
 have htd : ((b.length + 63 : Nat) : Int).tdiv 64 = (((b.length + 63) / 64 : Nat) : Int) := rfl
 have hlt : ¬ (((4294967296 - counter.toNat : Nat) : Int) < (((b.length + 63) / 64 : Nat) : Int)) := by omega
 have hl2 : ¬ ((64 * (4294967296 - counter.toNat) : Nat) : Int) < ((b.length : Nat) : Int) := by omega
 obtain ⟨hw1, hw2, hw3, hw4⟩ : Go.RowKit.wrap64 (((b.length : Nat) : Int) + 63) = ((b.length + 63 : Nat) : Int) ∧ Go.RowKit.wrap64 (4294967296 - ((counter.toNat : Nat) : Int)) = ((4294967296 - counter.toNat : Nat) : Int) ∧ Go.RowKit.wrap64 ((((b.length + 63) / 64 : Nat) : Int)) = (((b.length + 63) / 64 : Nat) : Int) ∧ Go.RowKit.wrap64 (64 * ((4294967296 - counter.toNat : Nat) : Int)) = ((64 * (4294967296 - counter.toNat) : Nat) : Int) := ⟨wnat (by omega) (by omega), wnat (by omega) (by omega), wnat rfl (by omega), wnat (by omega) (by omega)⟩
 have F0 := And.intro hk <| And.intro hn <| And.intro h1 <| And.intro htd <| And.intro hlt <| And.intro hl2 <| And.intro hw1 <| And.intro hw2 <| And.intro hw3 <| hw4
 refine Ct.k Try.func27 rfl Try.ntmps27 (congrArg Array.toList Try.results27) (by simp) fun w0 ro => ?_
 refine sr_k fun K1 hK1 => ?_
 simp only [go_sem, F0]
 all_goals repeat' (first | apply And.intro | intro _)
 refine hK1 _ ?_
 refine seq_k fun N2 M2 hN2 hM2 => ?_
 refine sr_k fun K3 hK3 => ?_
 simp only [go_sem, F0]
 all_goals repeat' (first | apply And.intro | intro _)
 refine hK3 _ ?_
 refine condF_k (by first | rfl | (simp [go_sem, F0]; done)) ?_
 refine skip_k ?_
 refine hN2 _ ?_
 refine seq_k fun N4 M4 hN4 hM4 => ?_
 refine sr_k fun K5 hK5 => ?_
 simp only [go_sem, F0]
 all_goals repeat' (first | apply And.intro | intro _)
 refine hK5 _ ?_
 refine condF_k (by first | rfl | (simp [go_sem, F0]; done)) ?_
 refine skip_k ?_
 refine hN4 _ ?_
 refine sr_k fun K6 hK6 => ?_
 simp only [go_sem, F0]
 all_goals repeat' (first | apply And.intro | intro _)
 all_goals (refine call_hand false [] (fun k => k) (fun _ _ => rfl) ?_ (by decide) ?_ (rest_0 key hk counter nonce hn b ex hb).hands ?_; (focus ( first | rfl | (simp only [go_sem, valsIn, valIn, leafIn, leavesIn, nameIn, capsIn, handOk, F0] <;> done) | (simp only [go_sem, valsIn, valIn, leafIn, leavesIn, nameIn, capsIn, handOk, F0] <;> rfl) | (simp only [go_sem, valsIn, valIn, leafIn, leavesIn, nameIn, capsIn, handOk, F0] <;> simp))); (focus ( first | rfl | (simp only [go_sem, valsIn, valIn, leafIn, leavesIn, nameIn, capsIn, handOk, F0] <;> done) | (simp only [go_sem, valsIn, valIn, leafIn, leavesIn, nameIn, capsIn, handOk, F0] <;> rfl) | (simp only [go_sem, valsIn, valIn, leafIn, leavesIn, nameIn, capsIn, handOk, F0] <;> simp))))
 all_goals (rintro v m ⟨hR, hm⟩; subst hR; subst hm)
 all_goals refine And.intro (by (first | rfl | (simp only [go_sem, leafOutV, leafOutW, leafOut, okN, outOk, inv, F0]; done) | (simp [go_sem, leafOutV, leafOutW, leafOut, okN, outOk, inv, look, F0]; done))) (And.intro (by (first | rfl | (simp only [go_sem, leafOutV, leafOutW, leafOut, okN, outOk, inv, F0]; done) | (simp [go_sem, leafOutV, leafOutW, leafOut, okN, outOk, inv, look, F0]; done))) (And.intro (by (first | rfl | (simp only [go_sem, leafOutV, leafOutW, leafOut, okN, outOk, inv, F0]; done) | (simp [go_sem, leafOutV, leafOutW, leafOut, okN, outOk, inv, look, F0]; done))) ?_))
 all_goals (try simp only [go_sem, backM, outN, nameOut, Ob.ren, V.ren, W.ren, L.ren, setM, F0])
 all_goals (try simp only [go_sem, F0])
 all_goals repeat' (first | apply And.intro | intro _)
 refine hK6 _ ?_
 refine ret_k ?_
 simp only [go_sem, F0]
 all_goals (exact by_same _)
def strB (counter : UInt32) (key nonce b : List UInt8) : List UInt8 := if strE counter b = 0 then strV key counter nonce b else []
theorem strm_ (key : List UInt8) (hk : key.length = 32) (counter : UInt32) (nonce : List UInt8) (hn : nonce.length = 12) (b : List UInt8) (ex : Bool) : Ct Try.prog 26 [.w (.agg (bytesC key)), .w (.one (.pl (.u32 counter))), .w (.agg (bytesC nonce)), .w (.one (.pl (.R ex 1 (byteRows b))))] (byV (strB counter key nonce b) (strE counter b)) := by
 by_cases hb : 1600 < b.length
 · have e : strE counter b = 1 := if_pos hb
   rw [strB, e, if_neg (by decide)]
   exact (strm_big key hk counter nonce hn b ex hb).told
 · by_cases ho : 64 * (4294967296 - counter.toNat) < b.length
   · have e : strE counter b = 11 := by unfold strE; rw [if_neg hb, if_pos ho]
     rw [strB, e, if_neg (by decide)]
     exact (strm_over key hk counter nonce hn b ex hb ho).told
   · have e : strE counter b = 0 := by unfold strE; rw [if_neg hb, if_neg ho]
     rw [strB, e, if_pos rfl]
     exact (strm_ok key hk counter nonce hn b ex hb ho).told
theorem strd_ (key : List UInt8) (hk : key.length = 32) (counter : UInt32) (nonce : List UInt8) (hn : nonce.length = 12) (b : List UInt8) (ex : Bool) : Ct Try.prog 27 [.w (.agg (bytesC key)), .w (.one (.pl (.u32 counter))), .w (.agg (bytesC nonce)), .w (.one (.pl (.R ex 1 (byteRows b))))] (byV (strB counter key nonce b) (strE counter b)) := by
 by_cases hb : 1600 < b.length
 · have e : strE counter b = 1 := if_pos hb
   rw [strB, e, if_neg (by decide)]
   exact (strd_big key hk counter nonce hn b ex hb).told
 · by_cases ho : 64 * (4294967296 - counter.toNat) < b.length
   · have e : strE counter b = 11 := by unfold strE; rw [if_neg hb, if_pos ho]
     rw [strB, e, if_neg (by decide)]
     exact (strd_over key hk counter nonce hn b ex hb ho).told
   · have e : strE counter b = 0 := by unfold strE; rw [if_neg hb, if_neg ho]
     rw [strB, e, if_pos rfl]
     exact (strd_ok key hk counter nonce hn b ex hb ho).told
set_option maxHeartbeats 400000 in
theorem same_bytesE (e1 e2 : Bool) (r1 r2 : List UInt8) :
 Ct Try.prog 28 [.w (.one (.pl (.R e1 1 (byteRows r1)))), .w (.one (.pl (.R e2 1 (byteRows r2))))] (fun v m => v = .w (.one (.pl (.b (decide (r1 = r2)))))) := by
 refine Ct.k Try.func28 rfl Try.ntmps28 (congrArg Array.toList Try.results28) (by simp) fun w0 ro => ?_
 refine sr_k fun K1 hK1 => ?_
 simp only [go_sem]
 all_goals repeat' (first | apply And.intro | intro _)
 refine hK1 _ ?_
 refine sr_k fun K2 hK2 => ?_
 simp only [go_sem]
 all_goals repeat' (first | apply And.intro | intro _)
 refine hK2 _ ?_
 refine ret_k ?_
 simp only [go_sem]
 all_goals rfl
set_option maxHeartbeats 800000 in
theorem chachastreams (key : List UInt8) (hk : key.length = 32) (counter : UInt32) (nonce : List UInt8) (hn : nonce.length = 12) (b : List UInt8) (ex : Bool) :
 Ct Try.prog 8 [.w (.agg (bytesC key)), .w (.one (.pl (.u32 counter))), .w (.agg (bytesC nonce)), .w (.one (.pl (.R ex 1 (byteRows b))))] (fun v m => v = .w (.one (.pl (.b true)))) := by
 refine Ct.k Try.func8 rfl Try.ntmps8 (congrArg Array.toList Try.results8) (by simp) fun w0 ro => ?_
 refine sr_k fun K1 hK1 => ?_
 simp only [go_sem, hk, hn]
 all_goals repeat' (first | apply And.intro | intro _)
 refine hK1 _ ?_
 refine sr_k fun K2 hK2 => ?_
 simp only [go_sem, hk, hn]
 all_goals repeat' (first | apply And.intro | intro _)
 all_goals (refine call_hand false [] (fun k => k) (fun _ _ => rfl) ?_ (by decide) ?_ (strm_ key hk counter nonce hn b ex).hands ?_; (focus ( first | rfl | (simp only [go_sem, valsIn, valIn, leafIn, leavesIn, nameIn, capsIn, handOk, hk, hn] <;> done) | (simp only [go_sem, valsIn, valIn, leafIn, leavesIn, nameIn, capsIn, handOk, hk, hn] <;> rfl) | (simp only [go_sem, valsIn, valIn, leafIn, leavesIn, nameIn, capsIn, handOk, hk, hn] <;> simp))); (focus ( first | rfl | (simp only [go_sem, valsIn, valIn, leafIn, leavesIn, nameIn, capsIn, handOk, hk, hn] <;> done) | (simp only [go_sem, valsIn, valIn, leafIn, leavesIn, nameIn, capsIn, handOk, hk, hn] <;> rfl) | (simp only [go_sem, valsIn, valIn, leafIn, leavesIn, nameIn, capsIn, handOk, hk, hn] <;> simp))))
 all_goals (rintro v m ⟨hR, hm⟩; subst hR; subst hm)
 all_goals refine And.intro (by (first | rfl | (simp only [go_sem, leafOutV, leafOutW, leafOut, okN, outOk, inv, hk, hn]; done) | (simp [go_sem, leafOutV, leafOutW, leafOut, okN, outOk, inv, look, hk, hn]; done))) (And.intro (by (first | rfl | (simp only [go_sem, leafOutV, leafOutW, leafOut, okN, outOk, inv, hk, hn]; done) | (simp [go_sem, leafOutV, leafOutW, leafOut, okN, outOk, inv, look, hk, hn]; done))) (And.intro (by (first | rfl | (simp only [go_sem, leafOutV, leafOutW, leafOut, okN, outOk, inv, hk, hn]; done) | (simp [go_sem, leafOutV, leafOutW, leafOut, okN, outOk, inv, look, hk, hn]; done))) ?_))
 all_goals (try simp only [go_sem, backM, outN, nameOut, Ob.ren, V.ren, W.ren, L.ren, setM, hk, hn])
 all_goals (try simp only [go_sem, hk, hn])
 all_goals repeat' (first | apply And.intro | intro _)
 refine hK2 _ ?_
 refine sr_k fun K3 hK3 => ?_
 simp only [go_sem, hk, hn]
 all_goals repeat' (first | apply And.intro | intro _)
 all_goals (refine call_hand false [] (fun k => k) (fun _ _ => rfl) ?_ (by decide) ?_ (strd_ key hk counter nonce hn b ex).hands ?_; (focus ( first | rfl | (simp only [go_sem, valsIn, valIn, leafIn, leavesIn, nameIn, capsIn, handOk, hk, hn] <;> done) | (simp only [go_sem, valsIn, valIn, leafIn, leavesIn, nameIn, capsIn, handOk, hk, hn] <;> rfl) | (simp only [go_sem, valsIn, valIn, leafIn, leavesIn, nameIn, capsIn, handOk, hk, hn] <;> simp))); (focus ( first | rfl | (simp only [go_sem, valsIn, valIn, leafIn, leavesIn, nameIn, capsIn, handOk, hk, hn] <;> done) | (simp only [go_sem, valsIn, valIn, leafIn, leavesIn, nameIn, capsIn, handOk, hk, hn] <;> rfl) | (simp only [go_sem, valsIn, valIn, leafIn, leavesIn, nameIn, capsIn, handOk, hk, hn] <;> simp))))
 all_goals (rintro v m ⟨hR, hm⟩; subst hR; subst hm)
 all_goals refine And.intro (by (first | rfl | (simp only [go_sem, leafOutV, leafOutW, leafOut, okN, outOk, inv, hk, hn]; done) | (simp [go_sem, leafOutV, leafOutW, leafOut, okN, outOk, inv, look, hk, hn]; done))) (And.intro (by (first | rfl | (simp only [go_sem, leafOutV, leafOutW, leafOut, okN, outOk, inv, hk, hn]; done) | (simp [go_sem, leafOutV, leafOutW, leafOut, okN, outOk, inv, look, hk, hn]; done))) (And.intro (by (first | rfl | (simp only [go_sem, leafOutV, leafOutW, leafOut, okN, outOk, inv, hk, hn]; done) | (simp [go_sem, leafOutV, leafOutW, leafOut, okN, outOk, inv, look, hk, hn]; done))) ?_))
 all_goals (try simp only [go_sem, backM, outN, nameOut, Ob.ren, V.ren, W.ren, L.ren, setM, hk, hn])
 all_goals (try simp only [go_sem, hk, hn])
 all_goals repeat' (first | apply And.intro | intro _)
 refine hK3 _ ?_
 refine sr_k fun K4 hK4 => ?_
 simp only [go_sem, hk, hn]
 all_goals repeat' (first | apply And.intro | intro _)
 all_goals refine call_view (fun k => k) (fun _ _ => rfl) (by first | rfl | (simp only [go_sem, hk, hn]; rfl) | simp only [go_sem, hk, hn]) ((same_bytesE false false _ _).plain fun _ _ h => h) ?_
 all_goals (rintro v m ⟨hR, hm⟩; subst hR; subst hm)
 all_goals refine And.intro (by first | rfl | simp only [go_sem, hk, hn]) (And.intro (by first | rfl | simp only [go_sem, hk, hn]) ?_)
 all_goals simp only [go_sem, hk, hn]
 all_goals repeat' (first | apply And.intro | intro _)
 refine hK4 _ ?_
 refine ret_k ?_
 simp only [go_sem, hk, hn]
 all_goals (first | rfl | simp)
end Go.Sy
