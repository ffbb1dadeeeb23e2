/- Walks: a block of the stream, as the document tells it; the law on blocks. -/
import Derived.Test.YthcpkdhojokhdaaveC5
set_option linter.unusedVariables false
set_option linter.unusedSimpArgs false
namespace Go.Sy
open Go.Proofs
attribute [local irreducible] atCall HT runOps runD onC onE onO onG goV goA goS onSt onGuard
def refW (al : List UInt8) : W16 := ⟨(lev ((al.drop 0).take 4)).toUInt32, (lev ((al.drop 4).take 4)).toUInt32, (lev ((al.drop 8).take 4)).toUInt32, (lev ((al.drop 12).take 4)).toUInt32, (lev ((al.drop 16).take 4)).toUInt32, (lev ((al.drop 20).take 4)).toUInt32, (lev ((al.drop 24).take 4)).toUInt32, (lev ((al.drop 28).take 4)).toUInt32, (lev ((al.drop 32).take 4)).toUInt32, (lev ((al.drop 36).take 4)).toUInt32, (lev ((al.drop 40).take 4)).toUInt32, (lev ((al.drop 44).take 4)).toUInt32, (lev ((al.drop 48).take 4)).toUInt32, (lev ((al.drop 52).take 4)).toUInt32, (lev ((al.drop 56).take 4)).toUInt32, (lev ((al.drop 60).take 4)).toUInt32⟩
theorem wordL_lev {l : List UInt8} (h : 4 ≤ l.length) : (lev (l.take 4)).toUInt32 = wordL l := by
 match l, h with
 | a :: b :: c :: d :: r, _ =>
  have ha := a.toNat_lt
  have hb := b.toNat_lt
  have hc := c.toNat_lt
  have hd := d.toNat_lt
  have s : ∀ (x : UInt8) (k : Nat), k ≤ 24 → (shl32 x.toUInt32 k).toNat = x.toNat * 2 ^ k := fun x k hk => by
   have hx := x.toNat_lt
   have h2 : 2 ^ k ≤ 2 ^ 24 := Nat.pow_le_pow_right (by decide) hk
   have h3 : x.toNat * 2 ^ k ≤ 255 * 2 ^ 24 := Nat.mul_le_mul (by omega) h2
   simp only [shl32, UInt32.toNat_ofNat', UInt8.toNat_toUInt32]
   exact Nat.mod_eq_of_lt (by omega)
  have o1 : (a.toUInt32 ||| shl32 b.toUInt32 8).toNat = a.toNat + b.toNat * 256 := by
   rw [UInt32.toNat_or, s b 8 (by decide), UInt8.toNat_toUInt32, Nat.or_comm, Nat.mul_comm, ← Nat.two_pow_add_eq_or_of_lt (i := 8) ha]; omega
  have o2 : (a.toUInt32 ||| shl32 b.toUInt32 8 ||| shl32 c.toUInt32 16).toNat = a.toNat + b.toNat * 256 + c.toNat * 65536 := by
   rw [UInt32.toNat_or, s c 16 (by decide), o1, Nat.or_comm, Nat.mul_comm, ← Nat.two_pow_add_eq_or_of_lt (i := 16) (by omega)]; omega
  have o3 : (a.toUInt32 ||| shl32 b.toUInt32 8 ||| shl32 c.toUInt32 16 ||| shl32 d.toUInt32 24).toNat = a.toNat + b.toNat * 256 + c.toNat * 65536 + d.toNat * 16777216 := by
   rw [UInt32.toNat_or, s d 24 (by decide), o2, Nat.or_comm, Nat.mul_comm, ← Nat.two_pow_add_eq_or_of_lt (i := 24) (by omega)]; omega
  apply UInt32.toNat_inj.mp
  show _ = (a.toUInt32 ||| shl32 b.toUInt32 8 ||| shl32 c.toUInt32 16 ||| shl32 d.toUInt32 24).toNat
  rw [o3, UInt64.toNat_toUInt32]
  show (lev [a, b, c, d]).toNat % _ = _
  rw [lev_nat (by simp)]
  simp only [leN]; omega
theorem low4_word (c : UInt32) : (lev (lowB c.toUInt64 4)).toUInt32 = c := by
 apply UInt32.toNat_inj.mp
 have h := c.toNat_lt
 rw [UInt64.toNat_toUInt32, lev_nat (by rw [lowB_length]; decide), leN_lowB, UInt32.toNat_toUInt64]
 have e : (256 : Nat) ^ 4 = 4294967296 := rfl
 rw [e]; omega
theorem refW_init (key : List UInt8) (hk : key.length = 32) (c : UInt32) (nonce : List UInt8) (hn : nonce.length = 12) : refW (101 :: 120 :: 112 :: 97 :: 110 :: 100 :: 32 :: 51 :: 50 :: 45 :: 98 :: 121 :: 116 :: 101 :: 32 :: 107 :: (key ++ lowB c.toUInt64 4 ++ nonce)) = initW key c nonce := by
 have lc : (lowB c.toUInt64 4).length = 4 := lowB_length _ _
 have hd : ∀ j, j ≤ 28 → (lev (((key ++ lowB c.toUInt64 4 ++ nonce).drop j).take 4)).toUInt32 = wordL (key.drop j) := fun j hj => by
  rw [List.append_assoc, List.drop_append_of_le_length (by omega), List.take_append_of_le_length (by rw [List.length_drop]; omega), wordL_lev (by rw [List.length_drop]; omega)]
 have h32 : (key ++ lowB c.toUInt64 4 ++ nonce).drop 32 = lowB c.toUInt64 4 ++ nonce := by rw [List.append_assoc, List.drop_left' hk]
 have hcn : (lev (((key ++ lowB c.toUInt64 4 ++ nonce).drop 32).take 4)).toUInt32 = c := by rw [h32, List.take_left' lc, low4_word]
 have hno : ∀ j, j ≤ 8 → (lev (((key ++ lowB c.toUInt64 4 ++ nonce).drop (36 + j)).take 4)).toUInt32 = wordL (nonce.drop j) := fun j hj => by
  have : (key ++ lowB c.toUInt64 4 ++ nonce).drop (36 + j) = nonce.drop j := by
   rw [← List.drop_drop, List.drop_left' (by rw [List.length_append, hk, lc])]
  rw [this, wordL_lev (by rw [List.length_drop]; omega)]
 generalize key ++ lowB c.toUInt64 4 ++ nonce = r at *
 have e4 : ∀ k, List.drop (16 + k) (101 :: 120 :: 112 :: 97 :: 110 :: 100 :: 32 :: 51 :: 50 :: 45 :: 98 :: 121 :: 116 :: 101 :: 32 :: 107 :: r) = List.drop k r := fun k => by rw [← List.drop_drop]; rfl
 simp only [refW, initW, W16.mk.injEq]
 refine ⟨rfl, rfl, rfl, rfl, ?_, ?_, ?_, ?_, ?_, ?_, ?_, ?_, ?_, ?_, ?_, ?_⟩
 · rw [show 16 = 16 + 0 from rfl, e4]; exact hd 0 (by decide)
 · rw [show 20 = 16 + 4 from rfl, e4]; exact hd 4 (by decide)
 · rw [show 24 = 16 + 8 from rfl, e4]; exact hd 8 (by decide)
 · rw [show 28 = 16 + 12 from rfl, e4]; exact hd 12 (by decide)
 · rw [show 32 = 16 + 16 from rfl, e4]; exact hd 16 (by decide)
 · rw [show 36 = 16 + 20 from rfl, e4]; exact hd 20 (by decide)
 · rw [show 40 = 16 + 24 from rfl, e4]; exact hd 24 (by decide)
 · rw [show 44 = 16 + 28 from rfl, e4]; exact hd 28 (by decide)
 · rw [show 48 = 16 + 32 from rfl, e4]; exact hcn
 · rw [show 52 = 16 + 36 from rfl, e4]; exact hno 0 (by decide)
 · rw [show 56 = 16 + 40 from rfl, e4]; exact hno 4 (by decide)
 · rw [show 60 = 16 + 44 from rfl, e4]; exact hno 8 (by decide)
set_option maxHeartbeats 3200000 in
set_option maxRecDepth 100000 in
theorem block_of (key : List UInt8) (hk : key.length = 32) (counter : UInt32) (nonce : List UInt8) (hn : nonce.length = 12) :
 Ct Try.prog 25 [.w (.agg (bytesC key)), .w (.one (.pl (.u32 counter))), .w (.agg (bytesC nonce))] (fun v m => v = .w (.agg (bytesC (blockV (initW key counter nonce))))) := by
 obtain ⟨al, hal⟩ : ∃ al, 101 :: 120 :: 112 :: 97 :: 110 :: 100 :: 32 :: 51 :: 50 :: 45 :: 98 :: 121 :: 116 :: 101 :: 32 :: 107 :: (key ++ lowB counter.toUInt64 4 ++ nonce) = al := ⟨_, rfl⟩
 obtain ⟨Wi, hW⟩ : ∃ Wi, initW key counter nonce = Wi := ⟨_, rfl⟩
 rw [hW]
 have hrW := refW_init key hk counter nonce hn
 rw [hal, hW] at hrW
 have hll : al.length = 64 := by rw [← hal]; simp [lowB_length, hk, hn]
 have F0 := And.intro hk <| And.intro hn <| And.intro hal <| hll
 refine Ct.k Try.func25 rfl Try.ntmps25 (congrArg Array.toList Try.results25) (by simp) fun w0 ro => ?_
 refine top_k fun zZ zhZ => ?_
 iterate 332 first
  | (refine rnd_forget (x := .seq (.region 4 _ _) _) [9, 25, 26, 27, 28, 29, 30, 31, 32, 33, 34, 35, 36, 37, 38, 39, 40, 41, 42] ?_; simp only [go_sem, St.forget, fgt]; refine rnd_k fun zN zM zhN zhM => ?_)
  | refine zhK _ ?_
  | (refine zhN _ ?_; clear zhN zhM)
  | (refine sr_k fun zK zhK => ?_; simp only [go_sem, lowB_length, Int.reduceTMod, Int.reduceTDiv, Int.toNat_one, F0]; (repeat' (first | apply And.intro | intro _)))
  | refine block_k fun zB zbn zbx zbr zbi => ?_
  | refine zhK _ _ trivial ?_
  | refine skip_k ?_
  | (refine draw_k (id := 6) [27, 28, 29, 30, 31, 32, 33, 34, 35, 36, 37, 38, 39, 40, 41] [0, 1, 0, 4, 0, 0, 32, 0, 128, 384, 1008, 2032, 4080, 3, 16383, 32767] [] mixed (by kernel_rfl) (by simp only [go_sem]) fun zK zhK => ?_; simp only [go_sem, lowB_length, Int.reduceTMod, Int.reduceTDiv, Int.toNat_one, F0]; (repeat' (first | apply And.intro | intro _)))
  | (refine zbn _ ?_; clear zbn zbx zbr zbi)
  | (refine region_k fun zK zhK => ?_; simp only [go_sem, lowB_length, Int.reduceTMod, Int.reduceTDiv, Int.toNat_one, F0]; (repeat' (first | apply And.intro | intro _)))
  | (refine zhM _ _ ?_; clear zhN zhM)
  | (refine sd_k (id := 1) [14, 15, 16, 17, 18, 19, 20, 21, 22, 23, 7] [0, 1, 3, 0, 8, 24, 63, 0, 128, 511, 1023] [] mixed (by kernel_rfl) (by simp only [go_sem]) fun zK zhK => ?_; simp only [go_sem, lowB_length, Int.reduceTMod, Int.reduceTDiv, Int.toNat_one, F0]; (repeat' (first | apply And.intro | intro _)))
  | refine rounds_k (x := .seq (.region 4 _ _) _) 17 ?_
  | refine rnd_k fun zN zM zhN zhM => ?_
  | refine exit_k ?_
  | (refine zbx _ ?_; clear zbn zbx zbr zbi)
  | ((all_goals refine call_draw (fun k => k) _ [] (fun _ _ => rfl) (by first | rfl | (simp only [go_sem, lowB_length, Int.reduceTMod, Int.reduceTDiv, Int.toNat_one, F0] <;> rfl)) ((number_ _ (by first | (simp [List.length_take, List.length_drop]; done) | (simp [List.length_take, List.length_drop]; omega))).plain fun _ _ h => h) ?_ ?_); (all_goals try (refine And.intro ?_ (And.intro ?_ (And.intro ?_ ?_)) <;> first | rfl | simp only [go_sem])); (all_goals simp only [go_sem, lowB_length, Int.reduceTMod, Int.reduceTDiv, Int.toNat_one, F0]); (all_goals repeat' (first | apply And.intro | intro _)))
  | ((all_goals refine call_draw (fun k => k) _ [] (fun _ _ => rfl) (by first | rfl | (simp only [go_sem, lowB_length, Int.reduceTMod, Int.reduceTDiv, Int.toNat_one, F0] <;> rfl)) ((low_ _ 4 (by decide)).plain fun _ _ h => h) ?_ ?_); (all_goals try (refine And.intro ?_ (And.intro ?_ (And.intro ?_ ?_)) <;> first | rfl | simp only [go_sem])); (all_goals simp only [go_sem, lowB_length, Int.reduceTMod, Int.reduceTDiv, Int.toNat_one, F0]); (all_goals repeat' (first | apply And.intro | intro _)))
  | refine seq_k fun zN zM zhN zhM => ?_
  | (refine condT_k ?_ ?_; focus (first | rfl | (simp [go_sem, lowB_length, Int.reduceTMod, Int.reduceTDiv, Int.toNat_one, F0]; done)))
  | (refine condF_k ?_ ?_; focus (first | rfl | (simp [go_sem, lowB_length, Int.reduceTMod, Int.reduceTDiv, Int.toNat_one, F0]; done)))
 refine ht_dropE [0, 1, 2, 3, 5, 7, 9, 14, 15, 16, 17, 18, 19, 20, 21, 22, 23, 24, 25, 26, 27, 28, 29, 30, 31, 32, 33, 34, 35, 36, 37, 38, 39, 40, 41, 42, 43] ?_
 simp only [dropE_mk, fgt_nil, fgt_cons, List.contains_cons, List.contains_nil, Nat.reduceBEq, beq_self_eq_true, Bool.or_false, Bool.or_true, Bool.true_or, Bool.false_or, Bool.false_eq_true, reduceIte]
 refine loop_k (fun y => [(44, .w (.one (.pl (.i ((y.1 : Nat) : Int)))))]) (fun y => [(10, ⟨false, (roundN y.1 Wi).ls⟩)]) (fun y => 10 - y.1) (⟨0, Nat.zero_le _⟩ : {y : Nat // y ≤ 10}) ?_ ?_ ?_
 · (simp only [go_sem, leX, List.cons_append, List.nil_append]; try simp)
 · (simp only [roundN, go_sem, leX, List.cons_append, List.nil_append]; first | done | rfl | (rw [← hrW]; simp [roundN, refW, W16.ls, leX, look]; done))
 intro ⟨k, hk9⟩ zN zM zhN zhM
 simp only [List.cons_append, List.nil_append]
 rcases Nat.lt_or_ge k 10 with hlt | hge
 · have hcq : ((k : Nat) : Int) < 10 := by omega
   have hs1 : Go.RowKit.wrap64 (((k : Nat) : Int) + 1) = ((k + 1 : Nat) : Int) := wnat (by omega) (by omega)
   obtain ⟨v, hv⟩ : ∃ v, roundN k Wi = v := ⟨_, rfl⟩
   have hdg := sh_diag v.col
   simp only [hv]
   refine sr_k fun zK zhK => ?_
   simp only [go_sem, lowB_length, Int.reduceTMod, Int.reduceTDiv, Int.toNat_one, F0, W16.ls, hcq, hs1]
   repeat' (first | apply And.intro | intro _)
   refine zhK _ ?_
   refine seq_k fun zN zM zhN zhM => ?_
   (refine condT_k ?_ ?_; focus (first | rfl | (simp [go_sem, lowB_length, Int.reduceTMod, Int.reduceTDiv, Int.toNat_one, F0, W16.ls, hcq, hs1]; done)))
   refine skip_k ?_
   refine zhN _ ?_; clear zhN zhM
   refine seq_k fun zN zM zhN zhM => ?_
   refine block_k fun zB zbn zbx zbr zbi => ?_
   refine region_k fun zK zhK => ?_
   simp only [go_sem, lowB_length, Int.reduceTMod, Int.reduceTDiv, Int.toNat_one, F0, W16.ls, hcq, hs1]
   repeat' (first | apply And.intro | intro _)
   all_goals (refine call_view (fun k => k) (fun _ _ => rfl) ?_ ((round_of v).plain fun _ _ h => h) ?_; focus (first | rfl | (simp only [go_sem, lowB_length, Int.reduceTMod, Int.reduceTDiv, Int.toNat_one, F0, W16.ls, hcq, hs1] <;> rfl)))
   all_goals (rintro v m ⟨hR, hm⟩; subst hR; subst hm)
   all_goals refine And.intro (by first | rfl | simp only [go_sem, lowB_length, Int.reduceTMod, Int.reduceTDiv, Int.toNat_one, F0, W16.ls, hcq, hs1]) (And.intro (by first | rfl | simp only [go_sem, lowB_length, Int.reduceTMod, Int.reduceTDiv, Int.toNat_one, F0, W16.ls, hcq, hs1]) ?_)
   all_goals simp only [go_sem, lowB_length, Int.reduceTMod, Int.reduceTDiv, Int.toNat_one, F0, W16.ls, hcq, hs1]
   all_goals repeat' (first | apply And.intro | intro _)
   all_goals (refine call_view (fun k => k) (fun _ _ => rfl) ?_ ((shifted_of v.col).plain fun _ _ h => h) ?_; focus (first | rfl | (simp only [go_sem, lowB_length, Int.reduceTMod, Int.reduceTDiv, Int.toNat_one, F0, W16.ls, hcq, hs1] <;> rfl)))
   all_goals (rintro v m ⟨hR, hm⟩; subst hR; subst hm)
   all_goals refine And.intro (by first | rfl | simp only [go_sem, lowB_length, Int.reduceTMod, Int.reduceTDiv, Int.toNat_one, F0, W16.ls, hcq, hs1]) (And.intro (by first | rfl | simp only [go_sem, lowB_length, Int.reduceTMod, Int.reduceTDiv, Int.toNat_one, F0, W16.ls, hcq, hs1]) ?_)
   all_goals simp only [go_sem, lowB_length, Int.reduceTMod, Int.reduceTDiv, Int.toNat_one, F0, W16.ls, hcq, hs1]
   all_goals repeat' (first | apply And.intro | intro _)
   all_goals (refine call_view (fun k => k) (fun _ _ => rfl) ?_ ((round_of v.col.sh).plain fun _ _ h => h) ?_; focus (first | rfl | (simp only [go_sem, lowB_length, Int.reduceTMod, Int.reduceTDiv, Int.toNat_one, F0, W16.ls, hcq, hs1] <;> rfl)))
   all_goals (rintro v m ⟨hR, hm⟩; subst hR; subst hm)
   all_goals refine And.intro (by first | rfl | simp only [go_sem, lowB_length, Int.reduceTMod, Int.reduceTDiv, Int.toNat_one, F0, W16.ls, hcq, hs1]) (And.intro (by first | rfl | simp only [go_sem, lowB_length, Int.reduceTMod, Int.reduceTDiv, Int.toNat_one, F0, W16.ls, hcq, hs1]) ?_)
   all_goals simp only [go_sem, lowB_length, Int.reduceTMod, Int.reduceTDiv, Int.toNat_one, F0, W16.ls, hcq, hs1]
   all_goals repeat' (first | apply And.intro | intro _)
   all_goals (refine call_view (fun k => k) (fun _ _ => rfl) ?_ ((unshifted_of v.col.sh.col).plain fun _ _ h => h) ?_; focus (first | rfl | (simp only [go_sem, lowB_length, Int.reduceTMod, Int.reduceTDiv, Int.toNat_one, F0, W16.ls, hcq, hs1] <;> rfl)))
   all_goals (rintro v m ⟨hR, hm⟩; subst hR; subst hm)
   all_goals refine And.intro (by first | rfl | simp only [go_sem, lowB_length, Int.reduceTMod, Int.reduceTDiv, Int.toNat_one, F0, W16.ls, hcq, hs1]) (And.intro (by first | rfl | simp only [go_sem, lowB_length, Int.reduceTMod, Int.reduceTDiv, Int.toNat_one, F0, W16.ls, hcq, hs1]) ?_)
   all_goals simp only [go_sem, lowB_length, Int.reduceTMod, Int.reduceTDiv, Int.toNat_one, F0, W16.ls, hcq, hs1]
   all_goals repeat' (first | apply And.intro | intro _)
   refine zhK _ ?_
   refine zbn _ ?_; clear zbn zbx zbr zbi
   refine zhN _ ?_; clear zhN zhM
   refine region_k fun zK zhK => ?_
   simp only [go_sem, lowB_length, Int.reduceTMod, Int.reduceTDiv, Int.toNat_one, F0, W16.ls, hcq, hs1]
   repeat' (first | apply And.intro | intro _)
   refine zhK _ ?_
   refine zhN ⟨k + 1, hlt⟩ _ ?_ ?_ ?_
   · (exact Nat.sub_lt_sub_left hlt (Nat.lt_succ_self k))
   · (simp only [go_sem, leX, List.cons_append, List.nil_append]; try simp)
   · (simp only [roundN, hv, go_sem, leX, List.cons_append, List.nil_append]; first | done | rfl | (simp [roundN, hv, leX, look]; done))
 · obtain rfl : k = 10 := by omega
   have hcq : ¬ ((10 : Nat) : Int) < 10 := by omega
   obtain ⟨v, hv⟩ : ∃ v, roundN 10 Wi = v := ⟨_, rfl⟩
   simp only [hv]
   iterate 15 first
    | (refine sr_k fun zK zhK => ?_; simp only [go_sem, lowB_length, Int.reduceTMod, Int.reduceTDiv, Int.toNat_one, F0, hcq]; (repeat' (first | apply And.intro | intro _)))
    | refine zhK _ ?_
    | (refine zhM _ _ ?_; clear zhN zhM)
    | refine exit_k ?_
    | (refine zbx _ ?_; clear zbn zbx zbr zbi)
    | (refine zhN _ ?_; clear zhN zhM)
    | refine block_k fun zB zbn zbx zbr zbi => ?_
    | refine seq_k fun zN zM zhN zhM => ?_
    | (refine condF_k ?_ ?_; focus (first | rfl | (simp [go_sem, lowB_length, Int.reduceTMod, Int.reduceTDiv, Int.toNat_one, F0, hcq]; done)))
   refine ht_dropE [0, 1, 2, 3, 5, 7, 9, 14, 15, 16, 17, 18, 19, 20, 21, 22, 23, 24, 25, 26, 27, 28, 29, 30, 31, 32, 33, 34, 35, 36, 37, 38, 39, 40, 41, 42, 43, 44, 45, 46, 47, 48, 49, 50, 51] ?_
   simp only [dropE_mk, fgt_nil, fgt_cons, List.contains_cons, List.contains_nil, Nat.reduceBEq, beq_self_eq_true, Bool.or_false, Bool.or_true, Bool.true_or, Bool.false_or, Bool.false_eq_true, reduceIte]
   refine loop_k (fun y => [(52, .w (.one (.pl (.i ((y.1.1 : Nat) : Int))))), (11, .w (.one (.pl (.str y.1.2))))]) (fun y => [(10, ⟨false, u32C v.l⟩), (8, ⟨false, u32C Wi.l⟩)]) (fun y => 16 - y.1.1) (⟨(0, []), Nat.zero_le _, rfl, by simp⟩ : {y : Nat × List UInt8 // y.1 ≤ 16 ∧ y.2.length = 4 * y.1 ∧ y.2 ++ zipB (v.l.drop y.1) (Wi.l.drop y.1) = zipB v.l Wi.l}) ?_ ?_ ?_
   · (simp only [go_sem, leX, List.cons_append, List.nil_append]; try simp)
   · (simp only [go_sem, leX, List.cons_append, List.nil_append]; first | done | rfl | (rw [← hrW]; simp [W16.ls, W16.l, u32C, refW, leX, look]; done))
   intro yy zN zM zhN zhM
   simp only [List.cons_append, List.nil_append]
   obtain ⟨⟨i, q⟩, hi, hq, hz⟩ := yy
   simp only at hi hq hz
   have hvl : v.l.length = 16 := rfl
   have hwl : Wi.l.length = 16 := rfl
   rcases Nat.lt_or_ge i 16 with hlt | hge
   · obtain ⟨a, ha⟩ : ∃ a, v.l.getD i 0 = a := ⟨_, rfl⟩
     obtain ⟨b, hb⟩ : ∃ b, Wi.l.getD i 0 = b := ⟨_, rfl⟩
     have hl1 := u32_len v.l
     have hl2 := u32_len Wi.l
     rw [hvl] at hl1
     rw [hwl] at hl2
     have hij : i / 4 * 4 + i % 4 = i := by omega
     have two : ∀ l : List UInt32, l.length = 16 → List.take 1 (List.drop (i % 4) (List.take 4 (List.drop (i / 4 * 4) (u32C l)))) = [.pl (.u32 (l.getD i 0))] := fun l hl => by
      rw [List.drop_take, List.take_take, List.drop_drop, hij, Nat.min_eq_left (by omega), u32_one (by omega)]
     have h1 := two v.l hvl
     have h2 := two Wi.l hwl
     rw [ha] at h1
     rw [hb] at h2
     have hda := drop_cons32 (l := v.l) (j := i) (by omega)
     have hdb := drop_cons32 (l := Wi.l) (j := i) (by omega)
     rw [ha] at hda
     rw [hb] at hdb
     rw [hda, hdb, zipB] at hz
     have hcq : ((i : Nat) : Int) < 16 := by omega
     have htd : ((i : Nat) : Int).tdiv 4 = ((i / 4 : Nat) : Int) := rfl
     have htm : ((i : Nat) : Int).tmod 4 = ((i % 4 : Nat) : Int) := rfl
     have d0 : (0 : Int) ≤ ((i / 4 : Nat) : Int) ∧ ((i / 4 : Nat) : Int) < 4 ∧ (0 : Int) ≤ ((i % 4 : Nat) : Int) ∧ ((i % 4 : Nat) : Int) < 4 := by omega
     have d1 : i / 4 * 4 + 4 ≤ 16 ∧ i % 4 + 1 ≤ 4 := by omega
     have hml : q.length + 4 ≤ 9223372036854775807 := by omega
     obtain ⟨hs1, hw4⟩ : Go.RowKit.wrap64 (((i : Nat) : Int) + 1) = ((i + 1 : Nat) : Int) ∧ Go.RowKit.wrap64 (((i / 4 : Nat) : Int)) = ((i / 4 : Nat) : Int) := ⟨wnat (by omega) (by omega), wnat rfl (by omega)⟩
     have F156 := And.intro h1 <| And.intro h2 <| And.intro hl1 <| And.intro hl2 <| And.intro hcq <| And.intro htd <| And.intro htm <| And.intro d0 <| And.intro d1 <| And.intro hml <| And.intro hs1 <| hw4
     refine sr_k fun zK zhK => ?_
     simp only [go_sem, lowB_length, Int.reduceTMod, Int.reduceTDiv, Int.toNat_one, F0, hcq, F156]
     repeat' (first | apply And.intro | intro _)
     refine zhK _ ?_
     refine seq_k fun zN zM zhN zhM => ?_
     (refine condT_k ?_ ?_; focus (first | rfl | (simp [go_sem, lowB_length, Int.reduceTMod, Int.reduceTDiv, Int.toNat_one, F0, hcq, F156]; done)))
     refine skip_k ?_
     refine zhN _ ?_; clear zhN zhM
     refine seq_k fun zN zM zhN zhM => ?_
     refine block_k fun zB zbn zbx zbr zbi => ?_
     refine sr_k fun zK zhK => ?_
     simp only [go_sem, lowB_length, Int.reduceTMod, Int.reduceTDiv, Int.toNat_one, F0, hcq, F156]
     repeat' (first | apply And.intro | intro _)
     refine zhK _ ?_
     refine draw_k (id := 17) [55, 56, 57, 58, 59, 60, 61, 62, 63, 64, 65, 66, 67, 68, 69, 70, 71, 72, 73, 11] [0, 0, 2, 0, 8, 6, 62, 126, 0, 256, 0, 1024, 768, 7936, 16128, 32766, 65534, 131070, 262143, 524287] [] mixed (by kernel_rfl) (by simp only [go_sem]) fun zK zhK => ?_
     simp only [go_sem, lowB_length, Int.reduceTMod, Int.reduceTDiv, Int.toNat_one, F0, hcq, F156]
     repeat' (first | apply And.intro | intro _)
     all_goals refine call_draw (fun k => k) _ [] (fun _ _ => rfl) (by first | rfl | (simp only [go_sem, lowB_length, Int.reduceTMod, Int.reduceTDiv, Int.toNat_one, F0, hcq, F156] <;> rfl)) ((low_ _ 4 (by decide)).plain fun _ _ h => h) ?_ ?_
     all_goals try (refine And.intro ?_ (And.intro ?_ (And.intro ?_ ?_)) <;> first | rfl | simp only [go_sem])
     all_goals simp only [go_sem, lowB_length, Int.reduceTMod, Int.reduceTDiv, Int.toNat_one, F0, hcq, F156]
     all_goals repeat' (first | apply And.intro | intro _)
     refine zhK _ _ trivial ?_
     refine zbn _ ?_; clear zbn zbx zbr zbi
     refine zhN _ ?_; clear zhN zhM
     refine region_k fun zK zhK => ?_
     simp only [go_sem, lowB_length, Int.reduceTMod, Int.reduceTDiv, Int.toNat_one, F0, hcq, F156]
     repeat' (first | apply And.intro | intro _)
     refine zhK _ ?_
     refine zhN ⟨(i + 1, q ++ lowB (a + b).toUInt64 4), hlt, by simp [lowB_length, hq, Nat.mul_add], by rw [← hz, List.append_assoc]⟩ _ ?_ ?_ ?_
     · (exact Nat.sub_lt_sub_left hlt (Nat.lt_succ_self i))
     · (simp only [go_sem, leX, List.cons_append, List.nil_append]; try simp)
     · (simp only [go_sem, leX, List.cons_append, List.nil_append]; try simp)
   · obtain rfl : i = 16 := by omega
     have hcq : ¬ ((16 : Nat) : Int) < 16 := by omega
     have hfin : q = blockV Wi := by
      rw [blockV, hv, ← hz, List.drop_of_length_le (by omega)]; simp [zipB]
     have hq64 : q.length = 64 := by omega
     have htk : List.take 64 q = q := List.take_of_length_le (by omega)
     have hdr : List.drop 64 (List.replicate 64 (0 : UInt8)) = [] := rfl
     have hmi : min 64 64 = 64 := rfl
     have F163 := And.intro hcq <| And.intro hq64 <| And.intro htk <| And.intro hdr <| hmi
     refine sr_k fun zK zhK => ?_
     simp only [go_sem, lowB_length, Int.reduceTMod, Int.reduceTDiv, Int.toNat_one, F0, hcq, F163]
     repeat' (first | apply And.intro | intro _)
     refine zhK _ ?_
     refine seq_k fun zN zM zhN zhM => ?_
     (refine condF_k ?_ ?_; focus (first | rfl | (simp [go_sem, lowB_length, Int.reduceTMod, Int.reduceTDiv, Int.toNat_one, F0, hcq, F163]; done)))
     refine exit_k ?_
     refine zhM _ _ ?_; clear zhN zhM
     refine zhM _ _ ?_; clear zhN zhM
     refine zbx _ ?_; clear zbn zbx zbr zbi
     refine zhN _ ?_; clear zhN zhM
     refine sr_k fun zK zhK => ?_
     simp only [go_sem, lowB_length, Int.reduceTMod, Int.reduceTDiv, Int.toNat_one, F0, hcq, F163]
     repeat' (first | apply And.intro | intro _)
     refine zhK _ ?_
     refine seq_k fun zN zM zhN zhM => ?_
     refine text_k (id := 20) [75, 76, 77] (by simp only [go_sem]) fun zK zhK => ?_
     simp only [go_sem, lowB_length, Int.reduceTMod, Int.reduceTDiv, Int.toNat_one, F0, hcq, F163]
     repeat' (first | apply And.intro | intro _)
     refine zhK _ _ ?_
     refine zhN _ ?_; clear zhN zhM
     refine sr_k fun zK zhK => ?_
     simp only [go_sem, lowB_length, Int.reduceTMod, Int.reduceTDiv, Int.toNat_one, F0, hcq, F163]
     repeat' (first | apply And.intro | intro _)
     refine zhK _ ?_
     refine ret_k ?_
     refine zhZ _ _ ?_
     simp only [go_sem, lowB_length, Int.reduceTMod, Int.reduceTDiv, Int.toNat_one, F0, hcq, F163]
     all_goals (first | (rw [hfin]; done) | (rw [hfin]; rfl))
end Go.Sy

