/- Walks: a block of the stream. -/
import Derived.Test.YthcpkdhojokhdaaveC3
set_option linter.unusedVariables false
set_option linter.unusedSimpArgs false
namespace Go.Sy
open Go.Proofs
attribute [local irreducible] atCall HT runOps runD onC onE onO onG goV goA goS onSt onGuard
structure W16 where
 x0 : UInt32
 x1 : UInt32
 x2 : UInt32
 x3 : UInt32
 x4 : UInt32
 x5 : UInt32
 x6 : UInt32
 x7 : UInt32
 x8 : UInt32
 x9 : UInt32
 x10 : UInt32
 x11 : UInt32
 x12 : UInt32
 x13 : UInt32
 x14 : UInt32
 x15 : UInt32
def W16.l (w : W16) : List UInt32 := [w.x0, w.x1, w.x2, w.x3, w.x4, w.x5, w.x6, w.x7, w.x8, w.x9, w.x10, w.x11, w.x12, w.x13, w.x14, w.x15]
def W16.ls (w : W16) : List L := [.pl (.u32 w.x0), .pl (.u32 w.x1), .pl (.u32 w.x2), .pl (.u32 w.x3), .pl (.u32 w.x4), .pl (.u32 w.x5), .pl (.u32 w.x6), .pl (.u32 w.x7), .pl (.u32 w.x8), .pl (.u32 w.x9), .pl (.u32 w.x10), .pl (.u32 w.x11), .pl (.u32 w.x12), .pl (.u32 w.x13), .pl (.u32 w.x14), .pl (.u32 w.x15)]
theorem W16.ls_l (w : W16) : w.ls = u32C w.l := rfl
def W16.col (w : W16) : W16 := ⟨(qA w.x0 w.x4 w.x8 w.x12), (qA w.x1 w.x5 w.x9 w.x13), (qA w.x2 w.x6 w.x10 w.x14), (qA w.x3 w.x7 w.x11 w.x15), (qB w.x0 w.x4 w.x8 w.x12), (qB w.x1 w.x5 w.x9 w.x13), (qB w.x2 w.x6 w.x10 w.x14), (qB w.x3 w.x7 w.x11 w.x15), (qC w.x0 w.x4 w.x8 w.x12), (qC w.x1 w.x5 w.x9 w.x13), (qC w.x2 w.x6 w.x10 w.x14), (qC w.x3 w.x7 w.x11 w.x15), (qD w.x0 w.x4 w.x8 w.x12), (qD w.x1 w.x5 w.x9 w.x13), (qD w.x2 w.x6 w.x10 w.x14), (qD w.x3 w.x7 w.x11 w.x15)⟩
def W16.diag (w : W16) : W16 := ⟨(qA w.x0 w.x5 w.x10 w.x15), (qA w.x1 w.x6 w.x11 w.x12), (qA w.x2 w.x7 w.x8 w.x13), (qA w.x3 w.x4 w.x9 w.x14), (qB w.x3 w.x4 w.x9 w.x14), (qB w.x0 w.x5 w.x10 w.x15), (qB w.x1 w.x6 w.x11 w.x12), (qB w.x2 w.x7 w.x8 w.x13), (qC w.x2 w.x7 w.x8 w.x13), (qC w.x3 w.x4 w.x9 w.x14), (qC w.x0 w.x5 w.x10 w.x15), (qC w.x1 w.x6 w.x11 w.x12), (qD w.x1 w.x6 w.x11 w.x12), (qD w.x2 w.x7 w.x8 w.x13), (qD w.x3 w.x4 w.x9 w.x14), (qD w.x0 w.x5 w.x10 w.x15)⟩
def roundN : Nat → W16 → W16
 | 0, w => w
 | k + 1, w => (roundN k w).col.diag
def zipB : List UInt32 → List UInt32 → List UInt8
 | a :: l, b :: k => lowB (a + b).toUInt64 4 ++ zipB l k
 | _, _ => []
def blockV (w : W16) : List UInt8 := zipB (roundN 10 w).l w.l
def initW (key : List UInt8) (counter : UInt32) (nonce : List UInt8) : W16 := ⟨1634760805, 857760878, 2036477234, 1797285236, wordL (key.drop 0), wordL (key.drop 4), wordL (key.drop 8), wordL (key.drop 12), wordL (key.drop 16), wordL (key.drop 20), wordL (key.drop 24), wordL (key.drop 28), counter, wordL (nonce.drop 0), wordL (nonce.drop 4), wordL (nonce.drop 8)⟩
theorem zipB_length : ∀ (a b : List UInt32), a.length = b.length → (zipB a b).length = 4 * a.length
 | [], [], _ => rfl
 | [], _ :: _, h => by simp at h
 | _ :: _, [], h => by simp at h
 | a :: l, b :: k, h => by
  simp only [zipB, List.length_append, lowB_length, List.length_cons, zipB_length l k (by simpa using h)]; omega
theorem blockV_length (w : W16) : (blockV w).length = 64 := zipB_length _ _ rfl
theorem u32_one {l : List UInt32} {i : Nat} (h : i < l.length) : List.take 1 (List.drop i (u32C l)) = [.pl (.u32 (l.getD i 0))] := by
 rw [List.drop_eq_getElem_cons (by simpa [u32C] using h), List.take_succ_cons, List.take_zero]
 simp [u32C, List.getD, List.getElem?_eq_getElem h]
theorem u32_len (l : List UInt32) : (u32C l).length = l.length := by simp [u32C]
theorem u32_any (k : Nat) (l : List UInt32) : (u32C l).any (L.has k) = false := by
 rw [List.any_eq_false]
 intro x hx
 obtain ⟨y, _, rfl⟩ := List.mem_map.mp hx
 simp [L.has]
theorem ls_any (k : Nat) (w : W16) : w.ls.any (L.has k) = false := by rw [W16.ls_l]; exact u32_any k _
attribute [go_sem] u32_any ls_any
theorem drop_cons32 {l : List UInt32} {j : Nat} (h : j < l.length) : l.drop j = l.getD j 0 :: l.drop (j + 1) := by
 rw [List.drop_eq_getElem_cons h]; congr 1; simp [List.getD, List.getElem?_eq_getElem h]
theorem put_set {q : List UInt8} {j : Nat} (x : UInt8) (h : j < q.length) : bytesC (List.take j q) ++ [L.pl (PL.u8 x)] ++ bytesC (List.drop (j + 1) q) = bytesC (q.set j x) := by
 rw [List.set_eq_take_append_cons_drop, if_pos h]; simp [bytesC]
theorem lowB4 (x : UInt32) : lowB x.toUInt64 4 = [(shr32 x 0).toUInt8, (shr32 x 8).toUInt8, (shr32 x 16).toUInt8, (shr32 x 24).toUInt8] := by
 have e : ∀ y : UInt64, (y / 256).toNat = y.toNat / 256 := fun y => by rw [UInt64.toNat_div]; rfl
 have hx := x.toNat_lt
 have s : ∀ k : Nat, (shr32 x k).toNat = x.toNat / 2 ^ k := fun k => by
  have h2 : x.toNat / 2 ^ k ≤ x.toNat := Nat.div_le_self _ _
  simp only [shr32, UInt32.toNat_ofNat']
  exact Nat.mod_eq_of_lt (by omega)
 have g : ∀ (y : UInt32) (n : Nat), y.toNat = n → UInt8.ofNat n = y.toUInt8 := fun y n h => by
  apply UInt8.toNat_inj.mp
  rw [← h, UInt8.toNat_ofNat', UInt32.toNat_toUInt8]
 simp only [lowB, List.cons.injEq, and_true]
 refine ⟨?_, ?_, ?_, ?_⟩
 all_goals refine g _ _ ?_
 all_goals simp only [s, e, UInt32.toNat_toUInt64, Nat.div_div_eq_div_mul]
 all_goals simp
theorem set4 {q : List UInt8} {j : Nat} (h : j + 4 ≤ q.length) (a b c d : UInt8) : ((((q.set j a).set (j + 1) b).set (j + 2) c).set (j + 3) d).take (j + 4) = q.take j ++ [a, b, c, d] := by
 apply List.ext_getElem
 · simp; omega
 · intro i h1 h2
   simp only [List.length_take, List.length_set] at h1
   rw [List.getElem_take]
   simp only [List.getElem_set]
   rcases Nat.lt_or_ge i j with g | g
   · rw [if_neg (by omega), if_neg (by omega), if_neg (by omega), if_neg (by omega), List.getElem_append_left (by simp; omega), List.getElem_take]
   · rw [List.getElem_append_right (by simp; omega)]
     have hj : (q.take j).length = j := by rw [List.length_take]; omega
     have : i = j ∨ i = j + 1 ∨ i = j + 2 ∨ i = j + 3 := by omega
     rcases this with rfl | rfl | rfl | rfl
     all_goals simp [hj]
set_option maxHeartbeats 3200000 in
set_option maxRecDepth 100000 in
theorem block_ (key : List UInt8) (hk : key.length = 32) (counter : UInt32) (nonce : List UInt8) (hn : nonce.length = 12) :
 Ct Try.prog 24 [.w (.agg (bytesC key)), .w (.one (.pl (.u32 counter))), .w (.agg (bytesC nonce))] (fun v m => v = .w (.agg (bytesC (blockV (initW key counter nonce))))) := by
 obtain ⟨Wi, hW⟩ : ∃ Wi, initW key counter nonce = Wi := ⟨_, rfl⟩
 rw [hW]
 refine Ct.k Try.func24 rfl Try.ntmps24 (congrArg Array.toList Try.results24) (by simp) fun w0 ro => ?_
 refine top_k fun zZ zhZ => ?_
 iterate 249 first
  | (refine rnd_forget (x := .seq (.region 3 _ _) _) [8, 20, 21, 22, 23, 24, 25, 26, 27, 28, 29] ?_; simp only [go_sem, St.forget, fgt]; refine rnd_k fun zN zM zhN zhM => ?_)
  | (refine rnd_forget (x := .seq (.region 8 _ _) _) [9, 31, 32, 33, 34, 35, 36, 37, 38, 39, 40] ?_; simp only [go_sem, St.forget, fgt]; refine rnd_k fun zN zM zhN zhM => ?_)
  | refine zhK _ ?_
  | (refine zhN _ ?_; clear zhN zhM)
  | (refine sr_k fun zK zhK => ?_; simp only [go_sem, hk, hn, chunks_bytes', List.length_drop, List.length_take, Int.reduceTMod, Int.toNat_one]; (repeat' (first | apply And.intro | intro _)))
  | (refine region_k fun zK zhK => ?_; simp only [go_sem, hk, hn, chunks_bytes', List.length_drop, List.length_take, Int.reduceTMod, Int.toNat_one]; (repeat' (first | apply And.intro | intro _)))
  | refine block_k fun zB zbn zbx zbr zbi => ?_
  | refine skip_k ?_
  | (refine zbn _ ?_; clear zbn zbx zbr zbi)
  | (refine zhM _ _ ?_; clear zhN zhM)
  | refine rnd_k fun zN zM zhN zhM => ?_
  | refine exit_k ?_
  | (refine zbx _ ?_; clear zbn zbx zbr zbi)
  | refine rounds_k (x := .seq (.region 3 _ _) _) 9 ?_
  | refine rounds_k (x := .seq (.region 8 _ _) _) 4 ?_
  | ((all_goals refine call_view (fun k => k) (fun _ _ => rfl) (by first | rfl | (simp only [go_sem, hk, hn, chunks_bytes', List.length_drop, List.length_take, Int.reduceTMod, Int.toNat_one] <;> rfl)) ((word_ _ (by first | (simp [hk]; done) | (simp [hn]; done) | (simp only [List.length_drop, List.length_take, hk, hn]; omega)) _).plain fun _ _ h => h) ?_); (all_goals (rintro v m ⟨hR, hm⟩; subst hR; subst hm)); (all_goals refine And.intro (by first | rfl | simp only [go_sem, hk, hn, chunks_bytes', List.length_drop, List.length_take, Int.reduceTMod, Int.toNat_one]) (And.intro (by first | rfl | simp only [go_sem, hk, hn, chunks_bytes', List.length_drop, List.length_take, Int.reduceTMod, Int.toNat_one]) ?_)); (all_goals simp only [go_sem, hk, hn, chunks_bytes', List.length_drop, List.length_take, Int.reduceTMod, Int.toNat_one]); (all_goals repeat' (first | apply And.intro | intro _)))
  | refine seq_k fun zN zM zhN zhM => ?_
  | (refine condT_k ?_ ?_; focus (first | rfl | (simp [go_sem, hk, hn, chunks_bytes', List.length_drop, List.length_take, Int.reduceTMod, Int.toNat_one]; done)))
  | (refine condF_k ?_ ?_; focus (first | rfl | (simp [go_sem, hk, hn, chunks_bytes', List.length_drop, List.length_take, Int.reduceTMod, Int.toNat_one]; done)))
 refine ht_dropE [0, 1, 2, 3, 5, 8, 9, 17, 18, 19, 20, 21, 22, 23, 24, 25, 26, 27, 28, 29, 30, 31, 32, 33, 34, 35, 36, 37, 38, 39, 40, 41] ?_
 simp only [dropE_mk, fgt_nil, fgt_cons, List.contains_cons, List.contains_nil, Nat.reduceBEq, beq_self_eq_true, Bool.or_false, Bool.or_true, Bool.true_or, Bool.false_or, Bool.false_eq_true, reduceIte]
 refine loop_k (fun y => [(42, .w (.one (.pl (.i ((y.1 : Nat) : Int)))))]) (fun y => [(7, ⟨false, (roundN y.1 Wi).ls⟩)]) (fun y => 10 - y.1) (⟨0, Nat.zero_le _⟩ : {y : Nat // y ≤ 10}) ?_ ?_ ?_
 · (simp only [go_sem, leX, List.cons_append, List.nil_append]; try simp)
 · (simp only [roundN, go_sem, leX, List.cons_append, List.nil_append]; first | done | rfl | (subst hW; simp [roundN, initW, W16.ls, leX, look]; done))
 intro ⟨k, hk9⟩ zN zM zhN zhM
 simp only [List.cons_append, List.nil_append]
 rcases Nat.lt_or_ge k 10 with hlt | hge
 · have hcq : ((k : Nat) : Int) < 10 := by omega
   have hs1 : Go.RowKit.wrap64 (((k : Nat) : Int) + 1) = ((k + 1 : Nat) : Int) := wnat (by omega) (by omega)
   obtain ⟨q, hq⟩ : ∃ q, roundN k Wi = q := ⟨_, rfl⟩
   obtain ⟨x0, x1, x2, x3, x4, x5, x6, x7, x8, x9, x10, x11, x12, x13, x14, x15⟩ := q
   simp only [hq, W16.ls]
   iterate 192 first
    | (refine rnd_forget (x := .seq (.region 16 _ _) _) [11, 45, 46, 47, 48, 49, 50, 51, 52, 53, 54, 55] ?_; simp only [go_sem, St.forget, fgt]; refine rnd_k fun zN zM zhN zhM => ?_)
    | (refine rnd_forget (x := .seq (.region 21 _ _) _) [12, 57, 58, 59, 60, 61, 62, 63, 64, 65, 66, 67, 68, 69, 70, 71, 72, 73] ?_; simp only [go_sem, St.forget, fgt]; refine rnd_k fun zN zM zhN zhM => ?_)
    | refine zhK _ ?_
    | (refine zhN _ ?_; clear zhN zhM)
    | (refine sr_k fun zK zhK => ?_; simp only [go_sem, hk, hn, chunks_bytes', List.length_drop, List.length_take, Int.reduceTMod, Int.toNat_one, hcq, hs1]; (repeat' (first | apply And.intro | intro _)))
    | (refine region_k fun zK zhK => ?_; simp only [go_sem, hk, hn, chunks_bytes', List.length_drop, List.length_take, Int.reduceTMod, Int.toNat_one, hcq, hs1]; (repeat' (first | apply And.intro | intro _)))
    | refine block_k fun zB zbn zbx zbr zbi => ?_
    | refine skip_k ?_
    | (refine zbn _ ?_; clear zbn zbx zbr zbi)
    | (refine zhM _ _ ?_; clear zhN zhM)
    | refine rnd_k fun zN zM zhN zhM => ?_
    | refine exit_k ?_
    | (refine zbx _ ?_; clear zbn zbx zbr zbi)
    | refine rounds_k (x := .seq (.region 16 _ _) _) 5 ?_
    | refine rounds_k (x := .seq (.region 21 _ _) _) 5 ?_
    | ((all_goals (refine call_hand false [(500000, 7)] (fun k => k) (fun _ _ => rfl) ?_ (by decide) ?_ (quarter_0 x0 x1 x2 x3 x4 x5 x6 x7 x8 x9 x10 x11 x12 x13 x14 x15) ?_; iterate 2 (focus (first | rfl | (simp only [go_sem, hk, hn, chunks_bytes', List.length_drop, List.length_take, Int.reduceTMod, Int.toNat_one, hcq, hs1] <;> first | done | rfl | simp))))); (all_goals (rintro v m ⟨hR, hm⟩; subst hR; subst hm)); (all_goals (refine And.intro ?_ (And.intro ?_ (And.intro ?_ ?_)); iterate 3 (focus (first | rfl | (simp only [go_sem, hk, hn, chunks_bytes', List.length_drop, List.length_take, Int.reduceTMod, Int.toNat_one, hcq, hs1]; done) | (simp [go_sem, look, hk, hn, chunks_bytes', List.length_drop, List.length_take, Int.reduceTMod, Int.toNat_one, hcq, hs1]; done))))); (all_goals (try simp only [go_sem, hk, hn, chunks_bytes', List.length_drop, List.length_take, Int.reduceTMod, Int.toNat_one, hcq, hs1])); (all_goals (try simp only [go_sem, hk, hn, chunks_bytes', List.length_drop, List.length_take, Int.reduceTMod, Int.toNat_one, hcq, hs1])); (all_goals repeat' (first | apply And.intro | intro _)))
    | ((all_goals (refine call_hand false [(500000, 7)] (fun k => k) (fun _ _ => rfl) ?_ (by decide) ?_ (quarter_1 (qA x0 x4 x8 x12) x1 x2 x3 (qB x0 x4 x8 x12) x5 x6 x7 (qC x0 x4 x8 x12) x9 x10 x11 (qD x0 x4 x8 x12) x13 x14 x15) ?_; iterate 2 (focus (first | rfl | (simp only [go_sem, hk, hn, chunks_bytes', List.length_drop, List.length_take, Int.reduceTMod, Int.toNat_one, hcq, hs1] <;> first | done | rfl | simp))))); (all_goals (rintro v m ⟨hR, hm⟩; subst hR; subst hm)); (all_goals (refine And.intro ?_ (And.intro ?_ (And.intro ?_ ?_)); iterate 3 (focus (first | rfl | (simp only [go_sem, hk, hn, chunks_bytes', List.length_drop, List.length_take, Int.reduceTMod, Int.toNat_one, hcq, hs1]; done) | (simp [go_sem, look, hk, hn, chunks_bytes', List.length_drop, List.length_take, Int.reduceTMod, Int.toNat_one, hcq, hs1]; done))))); (all_goals (try simp only [go_sem, hk, hn, chunks_bytes', List.length_drop, List.length_take, Int.reduceTMod, Int.toNat_one, hcq, hs1])); (all_goals (try simp only [go_sem, hk, hn, chunks_bytes', List.length_drop, List.length_take, Int.reduceTMod, Int.toNat_one, hcq, hs1])); (all_goals repeat' (first | apply And.intro | intro _)))
    | ((all_goals (refine call_hand false [(500000, 7)] (fun k => k) (fun _ _ => rfl) ?_ (by decide) ?_ (quarter_2 (qA x0 x4 x8 x12) (qA x1 x5 x9 x13) x2 x3 (qB x0 x4 x8 x12) (qB x1 x5 x9 x13) x6 x7 (qC x0 x4 x8 x12) (qC x1 x5 x9 x13) x10 x11 (qD x0 x4 x8 x12) (qD x1 x5 x9 x13) x14 x15) ?_; iterate 2 (focus (first | rfl | (simp only [go_sem, hk, hn, chunks_bytes', List.length_drop, List.length_take, Int.reduceTMod, Int.toNat_one, hcq, hs1] <;> first | done | rfl | simp))))); (all_goals (rintro v m ⟨hR, hm⟩; subst hR; subst hm)); (all_goals (refine And.intro ?_ (And.intro ?_ (And.intro ?_ ?_)); iterate 3 (focus (first | rfl | (simp only [go_sem, hk, hn, chunks_bytes', List.length_drop, List.length_take, Int.reduceTMod, Int.toNat_one, hcq, hs1]; done) | (simp [go_sem, look, hk, hn, chunks_bytes', List.length_drop, List.length_take, Int.reduceTMod, Int.toNat_one, hcq, hs1]; done))))); (all_goals (try simp only [go_sem, hk, hn, chunks_bytes', List.length_drop, List.length_take, Int.reduceTMod, Int.toNat_one, hcq, hs1])); (all_goals (try simp only [go_sem, hk, hn, chunks_bytes', List.length_drop, List.length_take, Int.reduceTMod, Int.toNat_one, hcq, hs1])); (all_goals repeat' (first | apply And.intro | intro _)))
    | ((all_goals (refine call_hand false [(500000, 7)] (fun k => k) (fun _ _ => rfl) ?_ (by decide) ?_ (quarter_3 (qA x0 x4 x8 x12) (qA x1 x5 x9 x13) (qA x2 x6 x10 x14) x3 (qB x0 x4 x8 x12) (qB x1 x5 x9 x13) (qB x2 x6 x10 x14) x7 (qC x0 x4 x8 x12) (qC x1 x5 x9 x13) (qC x2 x6 x10 x14) x11 (qD x0 x4 x8 x12) (qD x1 x5 x9 x13) (qD x2 x6 x10 x14) x15) ?_; iterate 2 (focus (first | rfl | (simp only [go_sem, hk, hn, chunks_bytes', List.length_drop, List.length_take, Int.reduceTMod, Int.toNat_one, hcq, hs1] <;> first | done | rfl | simp))))); (all_goals (rintro v m ⟨hR, hm⟩; subst hR; subst hm)); (all_goals (refine And.intro ?_ (And.intro ?_ (And.intro ?_ ?_)); iterate 3 (focus (first | rfl | (simp only [go_sem, hk, hn, chunks_bytes', List.length_drop, List.length_take, Int.reduceTMod, Int.toNat_one, hcq, hs1]; done) | (simp [go_sem, look, hk, hn, chunks_bytes', List.length_drop, List.length_take, Int.reduceTMod, Int.toNat_one, hcq, hs1]; done))))); (all_goals (try simp only [go_sem, hk, hn, chunks_bytes', List.length_drop, List.length_take, Int.reduceTMod, Int.toNat_one, hcq, hs1])); (all_goals (try simp only [go_sem, hk, hn, chunks_bytes', List.length_drop, List.length_take, Int.reduceTMod, Int.toNat_one, hcq, hs1])); (all_goals repeat' (first | apply And.intro | intro _)))
    | ((all_goals (refine call_hand false [(500000, 7)] (fun k => k) (fun _ _ => rfl) ?_ (by decide) ?_ (quarter_4 (qA x0 x4 x8 x12) (qA x1 x5 x9 x13) (qA x2 x6 x10 x14) (qA x3 x7 x11 x15) (qB x0 x4 x8 x12) (qB x1 x5 x9 x13) (qB x2 x6 x10 x14) (qB x3 x7 x11 x15) (qC x0 x4 x8 x12) (qC x1 x5 x9 x13) (qC x2 x6 x10 x14) (qC x3 x7 x11 x15) (qD x0 x4 x8 x12) (qD x1 x5 x9 x13) (qD x2 x6 x10 x14) (qD x3 x7 x11 x15)) ?_; iterate 2 (focus (first | rfl | (simp only [go_sem, hk, hn, chunks_bytes', List.length_drop, List.length_take, Int.reduceTMod, Int.toNat_one, hcq, hs1] <;> first | done | rfl | simp))))); (all_goals (rintro v m ⟨hR, hm⟩; subst hR; subst hm)); (all_goals (refine And.intro ?_ (And.intro ?_ (And.intro ?_ ?_)); iterate 3 (focus (first | rfl | (simp only [go_sem, hk, hn, chunks_bytes', List.length_drop, List.length_take, Int.reduceTMod, Int.toNat_one, hcq, hs1]; done) | (simp [go_sem, look, hk, hn, chunks_bytes', List.length_drop, List.length_take, Int.reduceTMod, Int.toNat_one, hcq, hs1]; done))))); (all_goals (try simp only [go_sem, hk, hn, chunks_bytes', List.length_drop, List.length_take, Int.reduceTMod, Int.toNat_one, hcq, hs1])); (all_goals (try simp only [go_sem, hk, hn, chunks_bytes', List.length_drop, List.length_take, Int.reduceTMod, Int.toNat_one, hcq, hs1])); (all_goals repeat' (first | apply And.intro | intro _)))
    | ((all_goals (refine call_hand false [(500000, 7)] (fun k => k) (fun _ _ => rfl) ?_ (by decide) ?_ (quarter_5 (qA (qA x0 x4 x8 x12) (qB x1 x5 x9 x13) (qC x2 x6 x10 x14) (qD x3 x7 x11 x15)) (qA x1 x5 x9 x13) (qA x2 x6 x10 x14) (qA x3 x7 x11 x15) (qB x0 x4 x8 x12) (qB (qA x0 x4 x8 x12) (qB x1 x5 x9 x13) (qC x2 x6 x10 x14) (qD x3 x7 x11 x15)) (qB x2 x6 x10 x14) (qB x3 x7 x11 x15) (qC x0 x4 x8 x12) (qC x1 x5 x9 x13) (qC (qA x0 x4 x8 x12) (qB x1 x5 x9 x13) (qC x2 x6 x10 x14) (qD x3 x7 x11 x15)) (qC x3 x7 x11 x15) (qD x0 x4 x8 x12) (qD x1 x5 x9 x13) (qD x2 x6 x10 x14) (qD (qA x0 x4 x8 x12) (qB x1 x5 x9 x13) (qC x2 x6 x10 x14) (qD x3 x7 x11 x15))) ?_; iterate 2 (focus (first | rfl | (simp only [go_sem, hk, hn, chunks_bytes', List.length_drop, List.length_take, Int.reduceTMod, Int.toNat_one, hcq, hs1] <;> first | done | rfl | simp))))); (all_goals (rintro v m ⟨hR, hm⟩; subst hR; subst hm)); (all_goals (refine And.intro ?_ (And.intro ?_ (And.intro ?_ ?_)); iterate 3 (focus (first | rfl | (simp only [go_sem, hk, hn, chunks_bytes', List.length_drop, List.length_take, Int.reduceTMod, Int.toNat_one, hcq, hs1]; done) | (simp [go_sem, look, hk, hn, chunks_bytes', List.length_drop, List.length_take, Int.reduceTMod, Int.toNat_one, hcq, hs1]; done))))); (all_goals (try simp only [go_sem, hk, hn, chunks_bytes', List.length_drop, List.length_take, Int.reduceTMod, Int.toNat_one, hcq, hs1])); (all_goals (try simp only [go_sem, hk, hn, chunks_bytes', List.length_drop, List.length_take, Int.reduceTMod, Int.toNat_one, hcq, hs1])); (all_goals repeat' (first | apply And.intro | intro _)))
    | ((all_goals (refine call_hand false [(500000, 7)] (fun k => k) (fun _ _ => rfl) ?_ (by decide) ?_ (quarter_6 (qA (qA x0 x4 x8 x12) (qB x1 x5 x9 x13) (qC x2 x6 x10 x14) (qD x3 x7 x11 x15)) (qA (qA x1 x5 x9 x13) (qB x2 x6 x10 x14) (qC x3 x7 x11 x15) (qD x0 x4 x8 x12)) (qA x2 x6 x10 x14) (qA x3 x7 x11 x15) (qB x0 x4 x8 x12) (qB (qA x0 x4 x8 x12) (qB x1 x5 x9 x13) (qC x2 x6 x10 x14) (qD x3 x7 x11 x15)) (qB (qA x1 x5 x9 x13) (qB x2 x6 x10 x14) (qC x3 x7 x11 x15) (qD x0 x4 x8 x12)) (qB x3 x7 x11 x15) (qC x0 x4 x8 x12) (qC x1 x5 x9 x13) (qC (qA x0 x4 x8 x12) (qB x1 x5 x9 x13) (qC x2 x6 x10 x14) (qD x3 x7 x11 x15)) (qC (qA x1 x5 x9 x13) (qB x2 x6 x10 x14) (qC x3 x7 x11 x15) (qD x0 x4 x8 x12)) (qD (qA x1 x5 x9 x13) (qB x2 x6 x10 x14) (qC x3 x7 x11 x15) (qD x0 x4 x8 x12)) (qD x1 x5 x9 x13) (qD x2 x6 x10 x14) (qD (qA x0 x4 x8 x12) (qB x1 x5 x9 x13) (qC x2 x6 x10 x14) (qD x3 x7 x11 x15))) ?_; iterate 2 (focus (first | rfl | (simp only [go_sem, hk, hn, chunks_bytes', List.length_drop, List.length_take, Int.reduceTMod, Int.toNat_one, hcq, hs1] <;> first | done | rfl | simp))))); (all_goals (rintro v m ⟨hR, hm⟩; subst hR; subst hm)); (all_goals (refine And.intro ?_ (And.intro ?_ (And.intro ?_ ?_)); iterate 3 (focus (first | rfl | (simp only [go_sem, hk, hn, chunks_bytes', List.length_drop, List.length_take, Int.reduceTMod, Int.toNat_one, hcq, hs1]; done) | (simp [go_sem, look, hk, hn, chunks_bytes', List.length_drop, List.length_take, Int.reduceTMod, Int.toNat_one, hcq, hs1]; done))))); (all_goals (try simp only [go_sem, hk, hn, chunks_bytes', List.length_drop, List.length_take, Int.reduceTMod, Int.toNat_one, hcq, hs1])); (all_goals (try simp only [go_sem, hk, hn, chunks_bytes', List.length_drop, List.length_take, Int.reduceTMod, Int.toNat_one, hcq, hs1])); (all_goals repeat' (first | apply And.intro | intro _)))
    | ((all_goals (refine call_hand false [(500000, 7)] (fun k => k) (fun _ _ => rfl) ?_ (by decide) ?_ (quarter_7 (qA (qA x0 x4 x8 x12) (qB x1 x5 x9 x13) (qC x2 x6 x10 x14) (qD x3 x7 x11 x15)) (qA (qA x1 x5 x9 x13) (qB x2 x6 x10 x14) (qC x3 x7 x11 x15) (qD x0 x4 x8 x12)) (qA (qA x2 x6 x10 x14) (qB x3 x7 x11 x15) (qC x0 x4 x8 x12) (qD x1 x5 x9 x13)) (qA x3 x7 x11 x15) (qB x0 x4 x8 x12) (qB (qA x0 x4 x8 x12) (qB x1 x5 x9 x13) (qC x2 x6 x10 x14) (qD x3 x7 x11 x15)) (qB (qA x1 x5 x9 x13) (qB x2 x6 x10 x14) (qC x3 x7 x11 x15) (qD x0 x4 x8 x12)) (qB (qA x2 x6 x10 x14) (qB x3 x7 x11 x15) (qC x0 x4 x8 x12) (qD x1 x5 x9 x13)) (qC (qA x2 x6 x10 x14) (qB x3 x7 x11 x15) (qC x0 x4 x8 x12) (qD x1 x5 x9 x13)) (qC x1 x5 x9 x13) (qC (qA x0 x4 x8 x12) (qB x1 x5 x9 x13) (qC x2 x6 x10 x14) (qD x3 x7 x11 x15)) (qC (qA x1 x5 x9 x13) (qB x2 x6 x10 x14) (qC x3 x7 x11 x15) (qD x0 x4 x8 x12)) (qD (qA x1 x5 x9 x13) (qB x2 x6 x10 x14) (qC x3 x7 x11 x15) (qD x0 x4 x8 x12)) (qD (qA x2 x6 x10 x14) (qB x3 x7 x11 x15) (qC x0 x4 x8 x12) (qD x1 x5 x9 x13)) (qD x2 x6 x10 x14) (qD (qA x0 x4 x8 x12) (qB x1 x5 x9 x13) (qC x2 x6 x10 x14) (qD x3 x7 x11 x15))) ?_; iterate 2 (focus (first | rfl | (simp only [go_sem, hk, hn, chunks_bytes', List.length_drop, List.length_take, Int.reduceTMod, Int.toNat_one, hcq, hs1] <;> first | done | rfl | simp))))); (all_goals (rintro v m ⟨hR, hm⟩; subst hR; subst hm)); (all_goals (refine And.intro ?_ (And.intro ?_ (And.intro ?_ ?_)); iterate 3 (focus (first | rfl | (simp only [go_sem, hk, hn, chunks_bytes', List.length_drop, List.length_take, Int.reduceTMod, Int.toNat_one, hcq, hs1]; done) | (simp [go_sem, look, hk, hn, chunks_bytes', List.length_drop, List.length_take, Int.reduceTMod, Int.toNat_one, hcq, hs1]; done))))); (all_goals (try simp only [go_sem, hk, hn, chunks_bytes', List.length_drop, List.length_take, Int.reduceTMod, Int.toNat_one, hcq, hs1])); (all_goals (try simp only [go_sem, hk, hn, chunks_bytes', List.length_drop, List.length_take, Int.reduceTMod, Int.toNat_one, hcq, hs1])); (all_goals repeat' (first | apply And.intro | intro _)))
    | refine seq_k fun zN zM zhN zhM => ?_
    | (refine condT_k ?_ ?_; focus (first | rfl | (simp [go_sem, hk, hn, chunks_bytes', List.length_drop, List.length_take, Int.reduceTMod, Int.toNat_one, hcq, hs1]; done)))
    | (refine condF_k ?_ ?_; focus (first | rfl | (simp [go_sem, hk, hn, chunks_bytes', List.length_drop, List.length_take, Int.reduceTMod, Int.toNat_one, hcq, hs1]; done)))
   refine zhN ⟨k + 1, hlt⟩ _ ?_ ?_ ?_
   · (exact Nat.sub_lt_sub_left hlt (Nat.lt_succ_self k))
   · (simp only [go_sem, leX, List.cons_append, List.nil_append]; try simp)
   · (simp only [roundN, hq, go_sem, leX, List.cons_append, List.nil_append]; first | done | rfl | (simp [roundN, hq, W16.ls, W16.col, W16.diag, leX, look]; done))
 · obtain rfl : k = 10 := by omega
   have hcq : ¬ ((10 : Nat) : Int) < 10 := by omega
   obtain ⟨v, hv⟩ : ∃ v, roundN 10 Wi = v := ⟨_, rfl⟩
   simp only [hv]
   iterate 15 first
    | (refine sr_k fun zK zhK => ?_; simp only [go_sem, hk, hn, chunks_bytes', List.length_drop, List.length_take, Int.reduceTMod, Int.toNat_one, hcq]; (repeat' (first | apply And.intro | intro _)))
    | refine zhK _ ?_
    | (refine zhM _ _ ?_; clear zhN zhM)
    | refine exit_k ?_
    | (refine zbx _ ?_; clear zbn zbx zbr zbi)
    | (refine zhN _ ?_; clear zhN zhM)
    | refine block_k fun zB zbn zbx zbr zbi => ?_
    | refine seq_k fun zN zM zhN zhM => ?_
    | (refine condF_k ?_ ?_; focus (first | rfl | (simp [go_sem, hk, hn, chunks_bytes', List.length_drop, List.length_take, Int.reduceTMod, Int.toNat_one, hcq]; done)))
   refine ht_dropE [0, 1, 2, 3, 5, 8, 9, 11, 12, 17, 18, 19, 20, 21, 22, 23, 24, 25, 26, 27, 28, 29, 30, 31, 32, 33, 34, 35, 36, 37, 38, 39, 40, 41, 42, 43, 44, 45, 46, 47, 48, 49, 50, 51, 52, 53, 54, 55, 56, 57, 58, 59, 60, 61, 62, 63, 64, 65, 66, 67, 68, 69, 70, 71, 72, 73, 74] ?_
   simp only [dropE_mk, fgt_nil, fgt_cons, List.contains_cons, List.contains_nil, Nat.reduceBEq, beq_self_eq_true, Bool.or_false, Bool.or_true, Bool.true_or, Bool.false_or, Bool.false_eq_true, reduceIte]
   refine loop_k (fun y => [(75, .w (.one (.pl (.i ((y.1.1 : Nat) : Int)))))]) (fun y => [(7, ⟨false, u32C v.l⟩), (10, ⟨false, u32C Wi.l⟩), (13, ⟨false, bytesC y.1.2⟩)]) (fun y => 16 - y.1.1) (⟨(0, List.replicate 64 0), Nat.zero_le _, by simp, by simp⟩ : {y : Nat × List UInt8 // y.1 ≤ 16 ∧ y.2.length = 64 ∧ y.2.take (4 * y.1) ++ zipB (v.l.drop y.1) (Wi.l.drop y.1) = zipB v.l Wi.l}) ?_ ?_ ?_
   · (simp only [go_sem, leX, List.cons_append, List.nil_append]; try simp)
   · (simp only [go_sem, leX, List.cons_append, List.nil_append]; first | done | rfl | (subst hW; simp [W16.ls, W16.l, u32C, initW, leX, look]; done))
   intro yy zN zM zhN zhM
   simp only [List.cons_append, List.nil_append]
   obtain ⟨⟨i, q⟩, hi, hq, hz⟩ := yy
   simp only at hi hq hz
   have hvl : v.l.length = 16 := rfl
   have hwl : Wi.l.length = 16 := rfl
   rcases Nat.lt_or_ge i 16 with hlt | hge
   · obtain ⟨a, ha⟩ : ∃ a, v.l.getD i 0 = a := ⟨_, rfl⟩
     obtain ⟨b, hb⟩ : ∃ b, Wi.l.getD i 0 = b := ⟨_, rfl⟩
     have h1 := u32_one (l := v.l) (i := i) (by omega)
     have h2 := u32_one (l := Wi.l) (i := i) (by omega)
     rw [ha] at h1
     rw [hb] at h2
     have hda := drop_cons32 (l := v.l) (j := i) (by omega)
     have hdb := drop_cons32 (l := Wi.l) (j := i) (by omega)
     rw [ha] at hda
     rw [hb] at hdb
     rw [hda, hdb, zipB, lowB4] at hz
     have hl1 := u32_len v.l
     have hl2 := u32_len Wi.l
     rw [hvl] at hl1
     rw [hwl] at hl2
     have hcq : ((i : Nat) : Int) < 16 := by omega
     have hc0 : (0 : Int) ≤ ((i : Nat) : Int) := by omega
     have hk2 : i + 1 ≤ 16 := by omega
     obtain ⟨b0, hb0⟩ : ∃ x, (shr32 (a + b) 0).toUInt8 = x := ⟨_, rfl⟩
     obtain ⟨b1, hb1⟩ : ∃ x, (shr32 (a + b) 8).toUInt8 = x := ⟨_, rfl⟩
     obtain ⟨b2, hb2⟩ : ∃ x, (shr32 (a + b) 16).toUInt8 = x := ⟨_, rfl⟩
     obtain ⟨b3, hb3⟩ : ∃ x, (shr32 (a + b) 24).toUInt8 = x := ⟨_, rfl⟩
     rw [hb0, hb1, hb2, hb3] at hz
     obtain ⟨r1, hr1⟩ : ∃ r, q.set (4 * i) b0 = r := ⟨_, rfl⟩
     obtain ⟨r2, hr2⟩ : ∃ r, r1.set (4 * i + 1) b1 = r := ⟨_, rfl⟩
     obtain ⟨r3, hr3⟩ : ∃ r, r2.set (4 * i + 2) b2 = r := ⟨_, rfl⟩
     obtain ⟨r4, hr4⟩ : ∃ r, r3.set (4 * i + 3) b3 = r := ⟨_, rfl⟩
     have g1 : r1.length = 64 := by rw [← hr1]; simp [hq]
     have g2 : r2.length = 64 := by rw [← hr2]; simp [g1]
     have g3 : r3.length = 64 := by rw [← hr3]; simp [g2]
     have g4 : r4.length = 64 := by rw [← hr4]; simp [g3]
     have p0 := put_set (q := q) (j := 4 * i) b0 (by omega)
     have p1 := put_set (q := r1) (j := 4 * i + 1) b1 (by omega)
     have p2 := put_set (q := r2) (j := 4 * i + 2) b2 (by omega)
     have p3 := put_set (q := r3) (j := 4 * i + 3) b3 (by omega)
     rw [hr1] at p0
     rw [hr2] at p1
     rw [hr3] at p2
     rw [hr4] at p3
     have n1 : r4.take (4 * (i + 1)) ++ zipB (v.l.drop (i + 1)) (Wi.l.drop (i + 1)) = zipB v.l Wi.l := by
      have := set4 (q := q) (j := 4 * i) (by omega) b0 b1 b2 b3
      rw [hr1, hr2, hr3, hr4] at this
      rw [← hz, Nat.mul_add, this, List.append_assoc]
     have d0 : (0 : Int) ≤ ((4 * i : Nat) : Int) ∧ ((4 * i : Nat) : Int) < 64 ∧ (0 : Int) ≤ ((4 * i + 1 : Nat) : Int) ∧ ((4 * i + 1 : Nat) : Int) < 64 ∧ (0 : Int) ≤ ((4 * i + 2 : Nat) : Int) ∧ ((4 * i + 2 : Nat) : Int) < 64 ∧ (0 : Int) ≤ ((4 * i + 3 : Nat) : Int) ∧ ((4 * i + 3 : Nat) : Int) < 64 := by omega
     have d1 : 4 * i + 1 ≤ 64 ∧ 4 * i + 1 + 1 ≤ 64 ∧ 4 * i + 2 + 1 ≤ 64 ∧ 4 * i + 3 + 1 ≤ 64 := by omega
     obtain ⟨hs1, hw8, hw4, hw5, hw6, hw7⟩ : Go.RowKit.wrap64 (((i : Nat) : Int) + 1) = ((i + 1 : Nat) : Int) ∧ Go.RowKit.wrap64 (((4 * i : Nat) : Int) + 0) = ((4 * i : Nat) : Int) ∧ Go.RowKit.wrap64 (4 * ((i : Nat) : Int)) = ((4 * i : Nat) : Int) ∧ Go.RowKit.wrap64 (((4 * i : Nat) : Int) + 1) = ((4 * i + 1 : Nat) : Int) ∧ Go.RowKit.wrap64 (((4 * i : Nat) : Int) + 2) = ((4 * i + 2 : Nat) : Int) ∧ Go.RowKit.wrap64 (((4 * i : Nat) : Int) + 3) = ((4 * i + 3 : Nat) : Int) := ⟨wnat (by omega) (by omega), wnat (by omega) (by omega), wnat (by omega) (by omega), wnat (by omega) (by omega), wnat (by omega) (by omega), wnat (by omega) (by omega)⟩
     have F198 := And.intro h1 <| And.intro h2 <| And.intro hl1 <| And.intro hl2 <| And.intro hcq <| And.intro hc0 <| And.intro hk2 <| And.intro hb0 <| And.intro hb1 <| And.intro hb2 <| And.intro hb3 <| And.intro hq <| And.intro g1 <| And.intro g2 <| And.intro g3 <| And.intro g4 <| And.intro p0 <| And.intro p1 <| And.intro p2 <| And.intro p3 <| And.intro d0 <| And.intro d1 <| And.intro hs1 <| And.intro hw4 <| And.intro hw5 <| And.intro hw6 <| And.intro hw7 <| hw8
     iterate 101 first
      | (refine rnd_forget (x := .seq (.region 32 _ _) _) [16, 86, 87, 88, 89, 90, 91, 92, 93, 94, 95, 96, 97, 98] ?_; simp only [go_sem, St.forget, fgt]; refine rnd_k fun zN zM zhN zhM => ?_)
      | refine zhK _ ?_
      | (refine zhN _ ?_; clear zhN zhM)
      | (refine sr_k fun zK zhK => ?_; simp only [go_sem, hk, hn, chunks_bytes', List.length_drop, List.length_take, Int.reduceTMod, Int.toNat_one, hcq, F198]; (repeat' (first | apply And.intro | intro _)))
      | (refine region_k fun zK zhK => ?_; simp only [go_sem, hk, hn, chunks_bytes', List.length_drop, List.length_take, Int.reduceTMod, Int.toNat_one, hcq, F198]; (repeat' (first | apply And.intro | intro _)))
      | refine block_k fun zB zbn zbx zbr zbi => ?_
      | refine skip_k ?_
      | (refine zbn _ ?_; clear zbn zbx zbr zbi)
      | (refine zhM _ _ ?_; clear zhN zhM)
      | (refine sd_k (id := 30) [78, 79, 80, 81, 82, 83, 84, 15] [0, 1, 3, 0, 8, 24, 63, 127] [] mixed (by kernel_rfl) (by simp only [go_sem]) fun zK zhK => ?_; simp only [go_sem, hk, hn, chunks_bytes', List.length_drop, List.length_take, Int.reduceTMod, Int.toNat_one, hcq, F198]; (repeat' (first | apply And.intro | intro _)))
      | refine zhK _ _ trivial ?_
      | refine rounds_k (x := .seq (.region 32 _ _) _) 5 ?_
      | refine rnd_k fun zN zM zhN zhM => ?_
      | refine exit_k ?_
      | (refine zbx _ ?_; clear zbn zbx zbr zbi)
      | refine seq_k fun zN zM zhN zhM => ?_
      | (refine condT_k ?_ ?_; focus (first | rfl | (simp [go_sem, hk, hn, chunks_bytes', List.length_drop, List.length_take, Int.reduceTMod, Int.toNat_one, hcq, F198]; done)))
      | (refine condF_k ?_ ?_; focus (first | rfl | (simp [go_sem, hk, hn, chunks_bytes', List.length_drop, List.length_take, Int.reduceTMod, Int.toNat_one, hcq, F198]; done)))
     refine zhN ⟨(i + 1, r4), hlt, g4, n1⟩ _ ?_ ?_ ?_
     · (exact Nat.sub_lt_sub_left hlt (Nat.lt_succ_self i))
     · (simp only [go_sem, leX, List.cons_append, List.nil_append]; try simp)
     · (simp only [go_sem, leX, List.cons_append, List.nil_append]; try simp)
   · obtain rfl : i = 16 := by omega
     have hcq : ¬ ((16 : Nat) : Int) < 16 := by omega
     have hfin : q = blockV Wi := by
      rw [blockV, hv, ← hz, List.drop_of_length_le (by omega), List.take_of_length_le (by omega)]; simp [zipB]
     iterate 13 first
      | (refine sr_k fun zK zhK => ?_; simp only [go_sem, hk, hn, chunks_bytes', List.length_drop, List.length_take, Int.reduceTMod, Int.toNat_one, hcq, hq]; (repeat' (first | apply And.intro | intro _)))
      | refine zhK _ ?_
      | (refine zhM _ _ ?_; clear zhN zhM)
      | refine exit_k ?_
      | (refine zbx _ ?_; clear zbn zbx zbr zbi)
      | (refine zhN _ ?_; clear zhN zhM)
      | refine ret_k ?_
      | (refine zhZ _ _ ?_; simp only [go_sem, hk, hn, chunks_bytes', List.length_drop, List.length_take, Int.reduceTMod, Int.toNat_one, hcq, hq]; (all_goals (first | (rw [hfin]; done) | (rw [hfin]; rfl))))
      | refine seq_k fun zN zM zhN zhM => ?_
      | (refine condF_k ?_ ?_; focus (first | rfl | (simp [go_sem, hk, hn, chunks_bytes', List.length_drop, List.length_take, Int.reduceTMod, Int.toNat_one, hcq, hq]; done)))
end Go.Sy

