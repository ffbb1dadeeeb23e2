/- Walks: bytes turned by a stream. -/
import Derived.Test.YthcpkdhojokhdaaveC6
set_option linter.unusedVariables false
set_option linter.unusedSimpArgs false
namespace Go.Sy
open Go.Proofs
attribute [local irreducible] atCall HT runOps runD onC onE onO onG goV goA goS onSt onGuard
def xorF (f : Nat → UInt8) : Nat → List UInt8 → List UInt8
 | _, [] => []
 | n, x :: l => (x ^^^ f n) :: xorF f (n + 1) l
theorem xorF_length (f : Nat → UInt8) : ∀ (l : List UInt8) (n : Nat), (xorF f n l).length = l.length
 | [], _ => rfl
 | x :: l, n => by simp [xorF, xorF_length f l]
theorem xorF_get (f : Nat → UInt8) : ∀ (l : List UInt8) (n i : Nat), i < l.length → (xorF f n l)[i]? = some (l.getD i 0 ^^^ f (n + i))
 | [], _, i, h => by simp at h
 | x :: l, n, 0, h => by simp [xorF]
 | x :: l, n, i + 1, h => by
  simp only [xorF, List.getElem?_cons_succ]
  rw [xorF_get f l (n + 1) i (by simpa using h)]
  simp only [List.getD_cons_succ]
  rw [show n + 1 + i = n + (i + 1) from by omega]
theorem xorF_append (f : Nat → UInt8) : ∀ (a b : List UInt8) (n : Nat), xorF f n (a ++ b) = xorF f n a ++ xorF f (n + a.length) b
 | [], b, n => by simp [xorF]
 | x :: a, b, n => by
  simp only [List.cons_append, xorF, xorF_append f a b, List.length_cons]
  rw [show n + 1 + a.length = n + (a.length + 1) from by omega]
def partX (f : Nat → UInt8) (b : List UInt8) (i : Nat) : List UInt8 := (xorF f 0 b).take i ++ b.drop i
theorem partX_length {f : Nat → UInt8} {b : List UInt8} {i : Nat} (h : i ≤ b.length) : (partX f b i).length = b.length := by
 simp only [partX, List.length_append, List.length_take, List.length_drop, xorF_length]; omega
theorem partX_zero (f : Nat → UInt8) (b : List UInt8) : partX f b 0 = b := by simp [partX]
theorem partX_all (f : Nat → UInt8) (b : List UInt8) : partX f b b.length = xorF f 0 b := by
 rw [partX, List.drop_length, List.append_nil, List.take_of_length_le (by rw [xorF_length]; exact Nat.le_refl _)]
theorem partX_get {f : Nat → UInt8} {b : List UInt8} {i : Nat} (h : i < b.length) : (partX f b i).getD i 0 = b.getD i 0 := by
 have ht : ((xorF f 0 b).take i).length = i := by rw [List.length_take, xorF_length]; omega
 rw [partX, List.getD, List.getElem?_append_right (by omega), ht, Nat.sub_self, List.getElem?_drop, Nat.add_zero]; rfl
theorem partX_set {f : Nat → UInt8} {b : List UInt8} {i : Nat} (h : i < b.length) : (partX f b i).set i (b.getD i 0 ^^^ f i) = partX f b (i + 1) := by
 have ht : ((xorF f 0 b).take i).length = i := by rw [List.length_take, xorF_length]; omega
 have hx := xorF_get f b 0 i h
 rw [Nat.zero_add] at hx
 obtain ⟨hlt, e⟩ := List.getElem?_eq_some_iff.mp hx
 rw [partX, partX, List.set_append_right _ _ (by omega), ht, Nat.sub_self, List.drop_eq_getElem_cons h, List.set_cons_zero, List.take_succ_eq_append_getElem hlt, e]
 simp
theorem u8_one {q : List UInt8} {i : Nat} (h : i < q.length) : List.take 1 (List.drop i q) = [q.getD i 0] := by
 rw [List.drop_eq_getElem_cons h, List.take_succ_cons, List.take_zero]
 simp [List.getD, List.getElem?_eq_getElem h]
theorem bytesC_1 (x : UInt8) : bytesC [x] = [.pl (.u8 x)] := rfl
def ksB (key : List UInt8) (counter : UInt32) (nonce : List UInt8) (i : Nat) : UInt8 := (blockV (initW key (counter + UInt32.ofNat (i / 64)) nonce)).getD (i % 64) 0
def strV (key : List UInt8) (counter : UInt32) (nonce b : List UInt8) : List UInt8 := xorF (ksB key counter nonce) 0 b
def byV (bs : List UInt8) (e : Int) (v : V) (m : List (Nat × Ob)) : Prop := v = .tup [.one (.pl (.R false 1 (byteRows bs))), .one (.pl (.i e))] ∧ m = []
theorem by_weak {a a' : L} {b : W} (h : ∀ d y, a.den d y → a'.den d y) (d : Va) (y : Value) (hv : (V.tup [.one a, b]).den d y) : (V.tup [.one a', b]).den d y := by
 obtain ⟨vs, rfl, hv⟩ := hv
 refine ⟨vs, rfl, ?_⟩
 generalize vs.toList = l at hv
 cases hv with
 | cons h1 h2 => exact .cons (h d _ h1) h2
theorem byR_weak {ex : Bool} {sz : Nat} {rows : List (List PL)} (d : Va) (y : Value) (h : (L.pl (.R ex sz rows)).den d y) : (L.pl (.R false sz rows)).den d y := by
 simp only [L.den] at h ⊢
 rw [PL.den] at h ⊢
 rcases h with h | ⟨blk, off, cap, h1, h2, h3, h4, h5⟩
 · exact .inl h
 · exact .inr ⟨blk, off, cap, h1, h2, h3, fun h => (by cases h), h5⟩
theorem by_nil {e : Int} {m : List (Nat × Ob)} {sz : Nat} {ex : Bool} : Told (byV [] e) (.tup [.one (.pl (.R ex sz [])), .one (.pl (.i e))]) m :=
 told_weak (by_weak (a' := .pl (.R false 1 (byteRows []))) fun d y h => byR_weak d y (R_nil_den h)) (told_plain rfl ⟨rfl, rfl⟩)
theorem by_same {e : Int} {m : List (Nat × Ob)} {ex : Bool} (l : List UInt8) : Told (byV l e) (.tup [.one (.pl (.R ex 1 (byteRows l))), .one (.pl (.i e))]) m :=
 told_weak (by_weak fun d y h => byR_weak d y h) (told_plain rfl ⟨rfl, rfl⟩)
theorem by_obj {k n : Nat} {e : Int} {m : List (Nat × Ob)} {b : Bool} {l : List UInt8} (hk : look m k = some ⟨b, bytesC l⟩) (hn : n = l.length) (hlt : k < 500000 := by decide) : Told (byV l e) (.tup [.one (.s k [] n 1), .one (.pl (.i e))]) m := by
 refine told_seal k (l.map .u8) (by rw [hk, pls_bytes]) hlt ?_
 simp only [sealV, List.map_cons, List.map_nil, sealW, seal_bytes hn, sealL_pl]
 exact told_plain rfl ⟨rfl, rfl⟩
def byO (l : List UInt8) (e : Int) (v : V) (m : List (Nat × Ob)) : Prop := v = .tup [.one (.s 0 [] l.length 1), .one (.pl (.i e))] ∧ m = [(0, ⟨true, bytesC l⟩)]
theorem byO_told {m : List (Nat × Ob)} {j n : Nat} {e : Int} {l : List UInt8} (hn : n = l.length) (h : look m j = some ⟨true, bytesC l⟩) (hj : j < 500000 := by decide) : Told (byO l e) (.tup [.one (.s j [] n 1), .one (.pl (.i e))]) m :=
 told_tidy ⟨only j, .tup [.one (.s 0 [] l.length 1), .one (.pl (.i e))], [(0, ⟨true, bytesC l⟩)], by rw [hn]; rfl, within_own h hj, rfl, rfl⟩
set_option maxHeartbeats 400000 in
theorem strm_over (key : List UInt8) (hk : key.length = 32) (counter : UInt32) (nonce : List UInt8) (hn : nonce.length = 12) (b : List UInt8) (ex : Bool) (hb : ¬ 1600 < b.length) (ho : 64 * (4294967296 - counter.toNat) < b.length) :
 Ct Try.prog 26 [.w (.agg (bytesC key)), .w (.one (.pl (.u32 counter))), .w (.agg (bytesC nonce)), .w (.one (.pl (.R ex 1 (byteRows b))))] (Told (byV [] 11)) := by
 have h1 : ¬ (1600 : Int) < ((b.length : Nat) : Int) := by omega
 have hc := counter.toNat_lt
 have htd : ((b.length + 63 : Nat) : Int).tdiv 64 = (((b.length + 63) / 64 : Nat) : Int) := rfl
 have hlt : (((4294967296 - counter.toNat : Nat) : Int) < (((b.length + 63) / 64 : Nat) : Int)) := by omega
 have hl2 : ((64 * (4294967296 - counter.toNat) : Nat) : Int) < ((b.length : Nat) : Int) := by omega
 obtain ⟨hw1, hw2, hw3, hw4⟩ : Go.RowKit.wrap64 (((b.length : Nat) : Int) + 63) = ((b.length + 63 : Nat) : Int) ∧ Go.RowKit.wrap64 (4294967296 - ((counter.toNat : Nat) : Int)) = ((4294967296 - counter.toNat : Nat) : Int) ∧ Go.RowKit.wrap64 ((((b.length + 63) / 64 : Nat) : Int)) = (((b.length + 63) / 64 : Nat) : Int) ∧ Go.RowKit.wrap64 (64 * ((4294967296 - counter.toNat : Nat) : Int)) = ((64 * (4294967296 - counter.toNat) : Nat) : Int) := ⟨wnat (by omega) (by omega), wnat (by omega) (by omega), wnat rfl (by omega), wnat (by omega) (by omega)⟩
 have F0 := And.intro hk <| And.intro hn <| And.intro h1 <| And.intro htd <| And.intro hlt <| And.intro hl2 <| And.intro hw1 <| And.intro hw2 <| And.intro hw3 <| hw4
 refine Ct.k Try.func26 rfl Try.ntmps26 (congrArg Array.toList Try.results26) (by simp) fun w0 ro => ?_
 refine top_k fun zZ zhZ => ?_
 iterate 17 first
  | (refine sr_k fun zK zhK => ?_; simp only [go_sem, F0]; (repeat' (first | apply And.intro | intro _)))
  | refine zhK _ ?_
  | refine skip_k ?_
  | (refine zhN _ ?_; clear zhN zhM)
  | refine ret_k ?_
  | (refine zhM _ _ ?_; clear zhN zhM)
  | (refine zhZ _ _ ?_; simp only [go_sem, F0]; (all_goals (exact by_nil)))
  | refine seq_k fun zN zM zhN zhM => ?_
  | (refine condF_k ?_ ?_; focus (first | rfl | (simp [go_sem, F0]; done)))
  | (refine condT_k ?_ ?_; focus (first | rfl | (simp [go_sem, F0]; done)))
set_option maxHeartbeats 3200000 in
set_option maxRecDepth 100000 in
theorem strm_own (key : List UInt8) (hk : key.length = 32) (counter : UInt32) (nonce : List UInt8) (hn : nonce.length = 12) (b : List UInt8) (ex : Bool) (hb : ¬ 1600 < b.length) (ho : ¬ 64 * (4294967296 - counter.toNat) < b.length) :
 Ct Try.prog 26 [.w (.agg (bytesC key)), .w (.one (.pl (.u32 counter))), .w (.agg (bytesC nonce)), .w (.one (.pl (.R ex 1 (byteRows b))))] (Told (byO (strV key counter nonce b) 0)) := by
 obtain ⟨f, hf⟩ : ∃ f, ksB key counter nonce = f := ⟨_, rfl⟩
 have hcap : b.length ≤ 140737488355328 := by omega
 have h1 : ¬ (1600 : Int) < ((b.length : Nat) : Int) := by omega
 have hc := counter.toNat_lt
 have htd : ((b.length + 63 : Nat) : Int).tdiv 64 = (((b.length + 63) / 64 : Nat) : Int) := rfl
 have hlt : ¬ (((4294967296 - counter.toNat : Nat) : Int) < (((b.length + 63) / 64 : Nat) : Int)) := by omega
 have hl2 : ¬ ((64 * (4294967296 - counter.toNat) : Nat) : Int) < ((b.length : Nat) : Int) := by omega
 obtain ⟨hw1, hw2, hw3, hw4⟩ : Go.RowKit.wrap64 (((b.length : Nat) : Int) + 63) = ((b.length + 63 : Nat) : Int) ∧ Go.RowKit.wrap64 (4294967296 - ((counter.toNat : Nat) : Int)) = ((4294967296 - counter.toNat : Nat) : Int) ∧ Go.RowKit.wrap64 ((((b.length + 63) / 64 : Nat) : Int)) = (((b.length + 63) / 64 : Nat) : Int) ∧ Go.RowKit.wrap64 (64 * ((4294967296 - counter.toNat : Nat) : Int)) = ((64 * (4294967296 - counter.toNat) : Nat) : Int) := ⟨wnat (by omega) (by omega), wnat (by omega) (by omega), wnat rfl (by omega), wnat (by omega) (by omega)⟩
 have F0 := And.intro hk <| And.intro hn <| And.intro h1 <| And.intro htd <| And.intro hlt <| And.intro hl2 <| And.intro hw1 <| And.intro hw2 <| And.intro hw3 <| And.intro hw4 <| hcap
 refine Ct.k Try.func26 rfl Try.ntmps26 (congrArg Array.toList Try.results26) (by simp) fun w0 ro => ?_
 refine top_k fun zZ zhZ => ?_
 iterate 20 first
  | (refine sr_k fun zK zhK => ?_; simp only [go_sem, Nat.zero_add, F0]; (repeat' (first | apply And.intro | intro _)))
  | refine zhK _ ?_
  | refine skip_k ?_
  | (refine zhN _ ?_; clear zhN zhM)
  | refine block_k fun zB zbn zbx zbr zbi => ?_
  | refine seq_k fun zN zM zhN zhM => ?_
  | (refine condF_k ?_ ?_; focus (first | rfl | (simp [go_sem, Nat.zero_add, F0]; done)))
 refine ht_dropE [0, 2, 3, 14, 15, 16, 17, 18, 19, 20, 21, 22, 23, 24, 25, 26, 27] ?_
 simp only [dropE_mk, fgt_nil, fgt_cons, List.contains_cons, List.contains_nil, Nat.reduceBEq, beq_self_eq_true, Bool.or_false, Bool.or_true, Bool.true_or, Bool.false_or, Bool.false_eq_true, reduceIte]
 refine loop_k (fun y => [(11, .w (.one (.pl (.i ((64 * y.1 : Nat) : Int)))))]) (fun y => [(25, ⟨true, bytesC (partX f b (min (64 * y.1) b.length))⟩)]) (fun y => b.length - 64 * y.1) (⟨0, Nat.zero_le _⟩ : {y : Nat // y ≤ 26}) ?_ ?_ ?_
 · (simp only [go_sem, leX, List.cons_append, List.nil_append]; try simp)
 · (simp only [partX_zero, Nat.mul_zero, Nat.zero_min, go_sem, leX, List.cons_append, List.nil_append]; try simp [partX_zero])
 intro ⟨j, hj⟩ zN zM zhN zhM
 simp only [List.cons_append, List.nil_append]
 rcases Nat.lt_or_ge (64 * j) b.length with hlt1 | hge1
 · have hmj : min (64 * j) b.length = 64 * j := by clear hw1 hw2 hw3 hw4 F0; omega
   have hpl0 := partX_length (f := f) (b := b) (i := 64 * j) (by clear hw1 hw2 hw3 hw4 F0; omega)
   simp only [hmj]
   have hcq : ((64 * j : Nat) : Int) < ((b.length : Nat) : Int) := by clear hw1 hw2 hw3 hw4 F0; omega
   obtain ⟨kb, hkb⟩ : ∃ kb, blockV (initW key (counter + UInt32.ofNat j) nonce) = kb := ⟨_, rfl⟩
   have hkl : kb.length = 64 := by rw [← hkb]; exact blockV_length _
   have htd2 : ((64 * j : Nat) : Int).tdiv 64 = ((j : Nat) : Int) := by rw [show ((64 * j : Nat) : Int).tdiv 64 = ((64 * j / 64 : Nat) : Int) from rfl]; omega
   have hu : UInt32.ofNat (((j : Nat) : Int) % 4294967296).toNat = UInt32.ofNat j := by rw [show (((j : Nat) : Int) % 4294967296).toNat = j from by clear hw1 hw2 hw3 hw4 F0; omega]
   obtain ⟨hw7, hw8⟩ : Go.RowKit.wrap64 ((j : Nat) : Int) = ((j : Nat) : Int) ∧ True := ⟨wnat rfl (by clear hw1 hw2 hw3 hw4 F0; omega), trivial⟩
   have FA := And.intro hpl0 <| And.intro hcq <| And.intro hkl <| And.intro htd2 <| And.intro hu <| And.intro hkb <| hw7
   iterate 14 first
    | (refine sr_k fun zK zhK => ?_; simp only [go_sem, Nat.zero_add, F0, FA]; (repeat' (first | apply And.intro | intro _)))
    | refine zhK _ ?_
    | refine block_k fun zB zbn zbx zbr zbi => ?_
    | refine skip_k ?_
    | (refine zhN _ ?_; clear zhN zhM)
    | ((all_goals (refine call_view (fun k => k) (fun _ _ => rfl) ?_ ((block_ key hk (counter + UInt32.ofNat j) nonce hn).plain fun _ _ h => h) ?_; focus (first | rfl | (simp only [go_sem, Nat.zero_add, F0, FA] <;> rfl)))); (all_goals (rintro v m ⟨hR, hm⟩; subst hR; subst hm)); (all_goals refine And.intro (by first | rfl | simp only [go_sem, Nat.zero_add, F0, FA]) (And.intro (by first | rfl | simp only [go_sem, Nat.zero_add, F0, FA]) ?_)); (all_goals simp only [go_sem, Nat.zero_add, F0, FA]); (all_goals repeat' (first | apply And.intro | intro _)))
    | refine seq_k fun zN zM zhN zhM => ?_
    | (refine condT_k ?_ ?_; focus (first | rfl | (simp [go_sem, Nat.zero_add, F0, FA]; done)))
   refine loop_k (fun y => [(13, .w (.one (.pl (.i ((y.1 : Nat) : Int)))))]) (fun y => [(25, ⟨true, bytesC (partX f b y.1)⟩)]) (fun y => 64 * j + 64 - y.1) (⟨64 * j, Nat.le_refl _, by clear hw1 hw2 hw3 hw4 F0 hw7 FA; omega⟩ : {y : Nat // 64 * j ≤ y ∧ y ≤ min (64 * j + 64) b.length}) ?_ ?_ ?_
   · (simp only [go_sem, leX, List.cons_append, List.nil_append]; try simp)
   · (simp only [hmj, go_sem, leX, List.cons_append, List.nil_append]; try simp)
   intro ⟨i, hi1, hi2⟩ zN zM zhN zhM
   simp only [List.cons_append, List.nil_append]
   rcases Nat.lt_or_ge i (min (64 * j + 64) b.length) with hlt2 | hge2
   · have hib : i < b.length := by clear hw1 hw2 hw3 hw4 F0 hw7 FA; omega
     have hpl := partX_length (f := f) (b := b) (i := i) (by clear hw1 hw2 hw3 hw4 F0 hw7 FA; omega)
     have h1' := u8_one (q := partX f b i) (i := i) (by clear hw1 hw2 hw3 hw4 F0 hw7 FA; omega)
     rw [partX_get hib] at h1'
     have h2' := u8_one (q := kb) (i := i - 64 * j) (by clear hw1 hw2 hw3 hw4 F0 hw7 FA; omega)
     have hfi : kb.getD (i - 64 * j) 0 = f i := by
      rw [← hf, ← hkb, ksB, show i / 64 = j from by clear hw1 hw2 hw3 hw4 F0 hw7 FA; omega, show i % 64 = i - 64 * j from by clear hw1 hw2 hw3 hw4 F0 hw7 FA; omega]
     rw [hfi] at h2'
     have hps := partX_set (f := f) hib
     have hput := put_set (q := partX f b i) (j := i) (b.getD i 0 ^^^ f i) (by clear hw1 hw2 hw3 hw4 F0 hw7 FA; omega)
     rw [hps] at hput
     have hcq2 : ((i : Nat) : Int) < ((min (64 * j + 64) b.length : Nat) : Int) := by clear hw1 hw2 hw3 hw4 F0 hw7 FA; omega
     have hmn : (if ((b.length : Nat) : Int) < ((64 * j + 64 : Nat) : Int) then ((b.length : Nat) : Int) else ((64 * j + 64 : Nat) : Int)) = ((min (64 * j + 64) b.length : Nat) : Int) := by clear hw1 hw2 hw3 hw4 F0 hw7 FA; split <;> omega
     have d0 : (0 : Int) ≤ ((i : Nat) : Int) ∧ ((i : Nat) : Int) < ((b.length : Nat) : Int) ∧ (0 : Int) ≤ ((i - 64 * j : Nat) : Int) ∧ ((i - 64 * j : Nat) : Int) < 64 := by clear hw1 hw2 hw3 hw4 F0 hw7 FA; omega
     have d1 : i + 1 ≤ b.length ∧ i - 64 * j + 1 ≤ 64 := by clear hw1 hw2 hw3 hw4 F0 hw7 FA; omega
     obtain ⟨hs1, hw5, hw6⟩ : Go.RowKit.wrap64 (((i : Nat) : Int) + 1) = ((i + 1 : Nat) : Int) ∧ Go.RowKit.wrap64 (((64 * j : Nat) : Int) + 64) = ((64 * j + 64 : Nat) : Int) ∧ Go.RowKit.wrap64 (((i : Nat) : Int) - ((64 * j : Nat) : Int)) = ((i - 64 * j : Nat) : Int) := ⟨wnat (by clear hw1 hw2 hw3 hw4 F0 hw7 FA; omega) (by clear hw1 hw2 hw3 hw4 F0 hw7 FA; omega), wnat (by clear hw1 hw2 hw3 hw4 F0 hw7 FA; omega) (by clear hw1 hw2 hw3 hw4 F0 hw7 FA; omega), wnat (by clear hw1 hw2 hw3 hw4 F0 hw7 FA; omega) (by clear hw1 hw2 hw3 hw4 F0 hw7 FA; omega)⟩
     have FB := And.intro hpl <| And.intro hput <| And.intro hcq2 <| And.intro hmn <| And.intro d0 <| And.intro d1 <| And.intro hs1 <| And.intro hw5 <| hw6
     refine seq_k fun zN zM zhN zhM => ?_
     refine sr_k fun zK zhK => ?_
     simp only [go_sem, Nat.zero_add, F0, FA, h1', h2', hkl, bytesC_1, FB]
     repeat' (first | apply And.intro | intro _)
     refine zhK _ ?_
     (refine condT_k ?_ ?_; focus (first | rfl | (simp [go_sem, Nat.zero_add, F0, FA, h1', h2', hkl, bytesC_1, FB]; done)))
     refine skip_k ?_
     refine zhN _ ?_; clear zhN zhM
     refine seq_k fun zN zM zhN zhM => ?_
     refine block_k fun zB zbn zbx zbr zbi => ?_
     refine draw_k (id := 13) [52, 53, 54, 55, 56, 57, 58, 59, 60, 61, 62] [0, 0, 3, 7, 0, 0, 48, 112, 240, 511, 1023, 2047] [] mixed (by kernel_rfl) (by simp only [go_sem]) fun zK zhK => ?_
     simp only [go_sem, Nat.zero_add, F0, FA, h1', h2', hkl, bytesC_1, FB]
     repeat' (first | apply And.intro | intro _)
     refine zhK _ _ trivial ?_
     refine zbn _ ?_; clear zbn zbx zbr zbi
     refine zhN _ ?_; clear zhN zhM
     refine region_k fun zK zhK => ?_
     simp only [go_sem, Nat.zero_add, F0, FA, h1', h2', hkl, bytesC_1, FB]
     repeat' (first | apply And.intro | intro _)
     refine zhK _ ?_
     refine zhN ⟨i + 1, Nat.le_succ_of_le hi1, hlt2⟩ _ ?_ ?_ ?_
     · (exact Nat.sub_lt_sub_left (Nat.lt_of_lt_of_le hlt2 (Nat.min_le_left _ _)) (Nat.lt_succ_self i))
     · (simp only [go_sem, leX, List.cons_append, List.nil_append]; try simp)
     · (simp only [go_sem, leX, List.cons_append, List.nil_append]; try simp)
   · obtain rfl : i = min (64 * j + 64) b.length := by clear hw1 hw2 hw3 hw4 F0 hw7 FA; omega
     have hpl := partX_length (f := f) (b := b) (i := min (64 * j + 64) b.length) (by clear hw1 hw2 hw3 hw4 F0 hw7 FA; omega)
     have hcq2 : ¬ ((min (64 * j + 64) b.length : Nat) : Int) < ((min (64 * j + 64) b.length : Nat) : Int) := by clear hw1 hw2 hw3 hw4 F0 hw7 FA; omega
     have hmn : (if ((b.length : Nat) : Int) < ((64 * j + 64 : Nat) : Int) then ((b.length : Nat) : Int) else ((64 * j + 64 : Nat) : Int)) = ((min (64 * j + 64) b.length : Nat) : Int) := by clear hw1 hw2 hw3 hw4 F0 hw7 FA; split <;> omega
     have hjn : 64 * (j + 1) = 64 * j + 64 := by clear hw1 hw2 hw3 hw4 F0 hw7 FA; omega
     have hjd : b.length - 64 * (j + 1) < b.length - 64 * j := by clear hw1 hw2 hw3 hw4 F0 hw7 FA; omega
     obtain ⟨hw5, hw6⟩ : Go.RowKit.wrap64 (((64 * j : Nat) : Int) + 64) = ((64 * j + 64 : Nat) : Int) ∧ True := ⟨wnat (by clear hw1 hw2 hw3 hw4 F0 hw7 FA; omega) (by clear hw1 hw2 hw3 hw4 F0 hw7 FA; omega), trivial⟩
     have FB := And.intro hpl <| And.intro hcq2 <| And.intro hmn <| hw5
     refine seq_k fun zN zM zhN zhM => ?_
     refine sr_k fun zK zhK => ?_
     simp only [go_sem, Nat.zero_add, F0, FA, FB]
     repeat' (first | apply And.intro | intro _)
     refine zhK _ ?_
     (refine condF_k ?_ ?_; focus (first | rfl | (simp [go_sem, Nat.zero_add, F0, FA, FB]; done)))
     refine exit_k ?_
     refine zhM _ _ ?_; clear zhN zhM
     refine zhM _ _ ?_; clear zhN zhM
     refine zbx _ ?_; clear zbn zbx zbr zbi
     refine zbn _ ?_; clear zbn zbx zbr zbi
     refine zhN _ ?_; clear zhN zhM
     refine region_k fun zK zhK => ?_
     simp only [go_sem, Nat.zero_add, F0, FA, FB]
     repeat' (first | apply And.intro | intro _)
     refine zhK _ ?_
     refine zhN ⟨j + 1, by clear hw1 hw2 hw3 hw4 F0 hw7 FA; omega⟩ _ ?_ ?_ ?_
     · (exact hjd)
     · (simp only [hjn, go_sem, leX, List.cons_append, List.nil_append]; try simp)
     · (simp only [hjn, go_sem, leX, List.cons_append, List.nil_append]; try simp)
 · have hmj : min (64 * j) b.length = b.length := by clear hw1 hw2 hw3 hw4 F0; omega
   have hpl0 := partX_length (f := f) (b := b) (i := b.length) (Nat.le_refl _)
   simp only [hmj]
   have hcq : ¬ ((64 * j : Nat) : Int) < ((b.length : Nat) : Int) := by clear hw1 hw2 hw3 hw4 F0; omega
   have hfin : partX f b b.length = strV key counter nonce b := by rw [partX_all, strV, hf]
   iterate 13 first
    | (refine sr_k fun zK zhK => ?_; simp only [go_sem, Nat.zero_add, F0, hpl0, hcq]; (repeat' (first | apply And.intro | intro _)))
    | refine zhK _ ?_
    | (refine zhM _ _ ?_; clear zhN zhM)
    | refine exit_k ?_
    | (refine zbx _ ?_; clear zbn zbx zbr zbi)
    | (refine zhN _ ?_; clear zhN zhM)
    | refine ret_k ?_
    | (refine zhZ _ _ ?_; simp only [go_sem, Nat.zero_add, F0, hpl0, hcq]; (all_goals (rw [hfin]; exact byO_told (by simp [strV, xorF_length]) (by simp [look]))))
    | refine seq_k fun zN zM zhN zhM => ?_
    | (refine condF_k ?_ ?_; focus (first | rfl | (simp [go_sem, Nat.zero_add, F0, hpl0, hcq]; done)))
end Go.Sy

