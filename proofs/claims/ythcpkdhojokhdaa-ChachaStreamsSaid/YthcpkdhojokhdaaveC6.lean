/- Walks: a block of the stream, as the document tells it; the law on blocks. -/
import Derived.Test.YthcpkdhojokhdaaveC5
set_option linter.unusedVariables false
set_option linter.unusedSimpArgs false
namespace Go.Sy
open Go.Proofs
attribute [local irreducible] atCall HT runOps runD onC onE onO onG goV goA goS onSt onGuard
def refW (al : List UInt8) : W16 := ⟨(lev ((al.drop 0).take 4)).toUInt32, (lev ((al.drop 4).take 4)).toUInt32, (lev ((al.drop 8).take 4)).toUInt32, (lev ((al.drop 12).take 4)).toUInt32, (lev ((al.drop 16).take 4)).toUInt32, (lev ((al.drop 20).take 4)).toUInt32, (lev ((al.drop 24).take 4)).toUInt32, (lev ((al.drop 28).take 4)).toUInt32, (lev ((al.drop 32).take 4)).toUInt32, (lev ((al.drop 36).take 4)).toUInt32, (lev ((al.drop 40).take 4)).toUInt32, (lev ((al.drop 44).take 4)).toUInt32, (lev ((al.drop 48).take 4)).toUInt32, (lev ((al.drop 52).take 4)).toUInt32, (lev ((al.drop 56).take 4)).toUInt32, (lev ((al.drop 60).take 4)).toUInt32⟩
theorem wordL_lev {l : List UInt8} (h : 4 ≤ l.length) : (lev (l.take 4)).toUInt32 = wordL l := by
 match l, h with
 | a :: b :: c :: d :: r, _ =>
  have ha := a.toNat_lt
  have hb := b.toNat_lt
  have hc := c.toNat_lt
  have hd := d.toNat_lt
  have s : ∀ (x : UInt8) (k : Nat), k ≤ 24 → (shl32 x.toUInt32 k).toNat = x.toNat * 2 ^ k := fun x k hk => by
   have hx := x.toNat_lt
   have h2 : 2 ^ k ≤ 2 ^ 24 := Nat.pow_le_pow_right (by decide) hk
   have h3 : x.toNat * 2 ^ k ≤ 255 * 2 ^ 24 := Nat.mul_le_mul (by omega) h2
   simp only [shl32, UInt32.toNat_ofNat', UInt8.toNat_toUInt32]
   exact Nat.mod_eq_of_lt (by omega)
  have o1 : (a.toUInt32 ||| shl32 b.toUInt32 8).toNat = a.toNat + b.toNat * 256 := by
   rw [UInt32.toNat_or, s b 8 (by decide), UInt8.toNat_toUInt32, Nat.or_comm, Nat.mul_comm, ← Nat.two_pow_add_eq_or_of_lt (i := 8) ha]; omega
  have o2 : (a.toUInt32 ||| shl32 b.toUInt32 8 ||| shl32 c.toUInt32 16).toNat = a.toNat + b.toNat * 256 + c.toNat * 65536 := by
   rw [UInt32.toNat_or, s c 16 (by decide), o1, Nat.or_comm, Nat.mul_comm, ← Nat.two_pow_add_eq_or_of_lt (i := 16) (by omega)]; omega
  have o3 : (a.toUInt32 ||| shl32 b.toUInt32 8 ||| shl32 c.toUInt32 16 ||| shl32 d.toUInt32 24).toNat = a.toNat + b.toNat * 256 + c.toNat * 65536 + d.toNat * 16777216 := by
   rw [UInt32.toNat_or, s d 24 (by decide), o2, Nat.or_comm, Nat.mul_comm, ← Nat.two_pow_add_eq_or_of_lt (i := 24) (by omega)]; omega
  apply UInt32.toNat_inj.mp
  show _ = (a.toUInt32 ||| shl32 b.toUInt32 8 ||| shl32 c.toUInt32 16 ||| shl32 d.toUInt32 24).toNat
  rw [o3, UInt64.toNat_toUInt32]
  show (lev [a, b, c, d]).toNat % _ = _
  rw [lev_nat (by simp)]
  simp only [leN]; omega
theorem low4_word (c : UInt32) : (lev (lowB c.toUInt64 4)).toUInt32 = c := by
 apply UInt32.toNat_inj.mp
 have h := c.toNat_lt
 rw [UInt64.toNat_toUInt32, lev_nat (by rw [lowB_length]; decide), leN_lowB, UInt32.toNat_toUInt64]
 have e : (256 : Nat) ^ 4 = 4294967296 := rfl
 rw [e]; omega
theorem refW_init (key : List UInt8) (hk : key.length = 32) (c : UInt32) (nonce : List UInt8) (hn : nonce.length = 12) : refW (101 :: 120 :: 112 :: 97 :: 110 :: 100 :: 32 :: 51 :: 50 :: 45 :: 98 :: 121 :: 116 :: 101 :: 32 :: 107 :: (key ++ lowB c.toUInt64 4 ++ nonce)) = initW key c nonce := by
 have lc : (lowB c.toUInt64 4).length = 4 := lowB_length _ _
 have hd : ∀ j, j ≤ 28 → (lev (((key ++ lowB c.toUInt64 4 ++ nonce).drop j).take 4)).toUInt32 = wordL (key.drop j) := fun j hj => by
  rw [List.append_assoc, List.drop_append_of_le_length (by omega), List.take_append_of_le_length (by rw [List.length_drop]; omega), wordL_lev (by rw [List.length_drop]; omega)]
 have h32 : (key ++ lowB c.toUInt64 4 ++ nonce).drop 32 = lowB c.toUInt64 4 ++ nonce := by rw [List.append_assoc, List.drop_left' hk]
 have hcn : (lev (((key ++ lowB c.toUInt64 4 ++ nonce).drop 32).take 4)).toUInt32 = c := by rw [h32, List.take_left' lc, low4_word]
 have hno : ∀ j, j ≤ 8 → (lev (((key ++ lowB c.toUInt64 4 ++ nonce).drop (36 + j)).take 4)).toUInt32 = wordL (nonce.drop j) := fun j hj => by
  have : (key ++ lowB c.toUInt64 4 ++ nonce).drop (36 + j) = nonce.drop j := by
   rw [← List.drop_drop, List.drop_left' (by rw [List.length_append, hk, lc])]
  rw [this, wordL_lev (by rw [List.length_drop]; omega)]
 generalize key ++ lowB c.toUInt64 4 ++ nonce = r at *
 have e4 : ∀ k, List.drop (16 + k) (101 :: 120 :: 112 :: 97 :: 110 :: 100 :: 32 :: 51 :: 50 :: 45 :: 98 :: 121 :: 116 :: 101 :: 32 :: 107 :: r) = List.drop k r := fun k => by rw [← List.drop_drop]; rfl
 simp only [refW, initW, W16.mk.injEq]
 refine ⟨rfl, rfl, rfl, rfl, ?_, ?_, ?_, ?_, ?_, ?_, ?_, ?_, ?_, ?_, ?_, ?_⟩
 · rw [show 16 = 16 + 0 from rfl, e4]; exact hd 0 (by decide)
 · rw [show 20 = 16 + 4 from rfl, e4]; exact hd 4 (by decide)
 · rw [show 24 = 16 + 8 from rfl, e4]; exact hd 8 (by decide)
 · rw [show 28 = 16 + 12 from rfl, e4]; exact hd 12 (by decide)
 · rw [show 32 = 16 + 16 from rfl, e4]; exact hd 16 (by decide)
 · rw [show 36 = 16 + 20 from rfl, e4]; exact hd 20 (by decide)
 · rw [show 40 = 16 + 24 from rfl, e4]; exact hd 24 (by decide)
 · rw [show 44 = 16 + 28 from rfl, e4]; exact hd 28 (by decide)
 · rw [show 48 = 16 + 32 from rfl, e4]; exact hcn
 · rw [show 52 = 16 + 36 from rfl, e4]; exact hno 0 (by decide)
 · rw [show 56 = 16 + 40 from rfl, e4]; exact hno 4 (by decide)
 · rw [show 60 = 16 + 44 from rfl, e4]; exact hno 8 (by decide)
set_option maxHeartbeats 3200000 in
set_option maxRecDepth 100000 in
theorem block_of (key : List UInt8) (hk : key.length = 32) (counter : UInt32) (nonce : List UInt8) (hn : nonce.length = 12) :
 Ct Try.prog 25 [.w (.agg (bytesC key)), .w (.one (.pl (.u32 counter))), .w (.agg (bytesC nonce))] (fun v m => v = .w (.agg (bytesC (blockV (initW key counter nonce))))) := by
 obtain ⟨al, hal⟩ : ∃ al, 101 :: 120 :: 112 :: 97 :: 110 :: 100 :: 32 :: 51 :: 50 :: 45 :: 98 :: 121 :: 116 :: 101 :: 32 :: 107 :: (key ++ lowB counter.toUInt64 4 ++ nonce) = al := ⟨_, rfl⟩
 obtain ⟨Wi, hW⟩ : ∃ Wi, initW key counter nonce = Wi := ⟨_, rfl⟩
 rw [hW]
 have hrW := refW_init key hk counter nonce hn
 rw [hal, hW] at hrW
 have hll : al.length = 64 := by rw [← hal]; simp [lowB_length, hk, hn]
 have F0 := And.intro hk <| And.intro hn <| And.intro hal <| hll
 refine Ct.k Try.func25 rfl Try.ntmps25 (congrArg Array.toList Try.results25) (by simp) fun w0 ro => ?_
 refine sr_k fun K1 hK1 => ?_
 simp only [go_sem, lowB_length, Int.reduceTMod, Int.reduceTDiv, Int.toNat_one, F0]
 all_goals repeat' (first | apply And.intro | intro _)
 refine hK1 _ ?_
 refine sd_k [14, 15, 16, 17, 18, 19, 20, 21, 22, 23, 7] [0, 1, 3, 0, 8, 24, 63, 0, 128, 511, 1023] [] mixed (by kernel_rfl) (by simp only [go_sem]) fun K2 hK2 => ?_
 simp only [go_sem, lowB_length, Int.reduceTMod, Int.reduceTDiv, Int.toNat_one, F0]
 all_goals repeat' (first | apply And.intro | intro _)
 all_goals refine call_draw (fun k => k) _ [] (fun _ _ => rfl) (by first | rfl | (simp only [go_sem, lowB_length, Int.reduceTMod, Int.reduceTDiv, Int.toNat_one, F0]; rfl) | simp only [go_sem, lowB_length, Int.reduceTMod, Int.reduceTDiv, Int.toNat_one, F0]) ((low_ _ 4 (by decide)).plain fun _ _ h => h) ?_ ?_
 all_goals try (refine And.intro ?_ (And.intro ?_ (And.intro ?_ ?_)) <;> first | rfl | simp only [go_sem])
 all_goals simp only [go_sem, lowB_length, Int.reduceTMod, Int.reduceTDiv, Int.toNat_one, F0]
 all_goals repeat' (first | apply And.intro | intro _)
 refine hK2 _ _ ?_ ?_
 · first | trivial | (simp only [go_sem]; done) | (simp only [go_sem]; simp; done) | (simp only [go_sem]; simp; simp only [go_sem])
 refine sr_k fun K3 hK3 => ?_
 simp only [go_sem, lowB_length, Int.reduceTMod, Int.reduceTDiv, Int.toNat_one, F0]
 all_goals repeat' (first | apply And.intro | intro _)
 refine hK3 _ ?_
 refine seq_k fun N4 M4 hN4 hM4 => ?_
 refine sr_k fun K5 hK5 => ?_
 simp only [go_sem, lowB_length, Int.reduceTMod, Int.reduceTDiv, Int.toNat_one, F0]
 all_goals repeat' (first | apply And.intro | intro _)
 refine hK5 _ ?_
 refine block_k fun B6 bn6 bx6 br6 bi6 => ?_
 refine rounds_k 17 ?_
 refine rnd_k fun N8 M8 hN8 hM8 => ?_
 refine sr_k fun K9 hK9 => ?_
 simp only [go_sem, lowB_length, Int.reduceTMod, Int.reduceTDiv, Int.toNat_one, F0]
 all_goals repeat' (first | apply And.intro | intro _)
 refine hK9 _ ?_
 refine seq_k fun N10 M10 hN10 hM10 => ?_
 refine condT_k (by first | rfl | (simp [go_sem, lowB_length, Int.reduceTMod, Int.reduceTDiv, Int.toNat_one, F0]; done)) ?_
 refine skip_k ?_
 refine hN10 _ ?_
 refine seq_k fun N11 M11 hN11 hM11 => ?_
 refine block_k fun B12 bn12 bx12 br12 bi12 => ?_
 refine sr_k fun K13 hK13 => ?_
 simp only [go_sem, lowB_length, Int.reduceTMod, Int.reduceTDiv, Int.toNat_one, F0]
 all_goals repeat' (first | apply And.intro | intro _)
 refine hK13 _ ?_
 refine draw_k [27, 28, 29, 30, 31, 32, 33, 34, 35, 36, 37, 38, 39, 40, 41] [0, 1, 0, 4, 0, 0, 32, 0, 128, 384, 1008, 2032, 4080, 3, 16383, 32767] [] mixed (by kernel_rfl) (by simp only [go_sem]) fun K14 hK14 => ?_
 simp only [go_sem, lowB_length, Int.reduceTMod, Int.reduceTDiv, Int.toNat_one, F0]
 all_goals repeat' (first | apply And.intro | intro _)
 all_goals refine call_draw (fun k => k) _ [] (fun _ _ => rfl) (by first | rfl | (simp only [go_sem, lowB_length, Int.reduceTMod, Int.reduceTDiv, Int.toNat_one, F0]; rfl) | simp only [go_sem, lowB_length, Int.reduceTMod, Int.reduceTDiv, Int.toNat_one, F0]) ((number_ _ (by first | (simp [List.length_take, List.length_drop]; done) | (simp [List.length_take, List.length_drop]; omega))).plain fun _ _ h => h) ?_ ?_
 all_goals try (refine And.intro ?_ (And.intro ?_ (And.intro ?_ ?_)) <;> first | rfl | simp only [go_sem])
 all_goals simp only [go_sem, lowB_length, Int.reduceTMod, Int.reduceTDiv, Int.toNat_one, F0]
 all_goals repeat' (first | apply And.intro | intro _)
 refine hK14 _ _ ?_ ?_
 · first | trivial | (simp only [go_sem]; done) | (simp only [go_sem]; simp; done) | (simp only [go_sem]; simp; simp only [go_sem])
 refine bn12 _ ?_
 refine hN11 _ ?_
 refine region_k fun K15 hK15 => ?_
 simp only [go_sem, lowB_length, Int.reduceTMod, Int.reduceTDiv, Int.toNat_one, F0]
 all_goals repeat' (first | apply And.intro | intro _)
 refine hK15 _ ?_
 refine hN8 _ ?_
 refine rnd_forget [9, 25, 26, 27, 28, 29, 30, 31, 32, 33, 34, 35, 36, 37, 38, 39, 40, 41, 42] ?_
 simp only [go_sem, St.forget, fgt]
 refine rnd_k fun N16 M16 hN16 hM16 => ?_
 refine sr_k fun K17 hK17 => ?_
 simp only [go_sem, lowB_length, Int.reduceTMod, Int.reduceTDiv, Int.toNat_one, F0]
 all_goals repeat' (first | apply And.intro | intro _)
 refine hK17 _ ?_
 refine seq_k fun N18 M18 hN18 hM18 => ?_
 refine condT_k (by first | rfl | (simp [go_sem, lowB_length, Int.reduceTMod, Int.reduceTDiv, Int.toNat_one, F0]; done)) ?_
 refine skip_k ?_
 refine hN18 _ ?_
 refine seq_k fun N19 M19 hN19 hM19 => ?_
 refine block_k fun B20 bn20 bx20 br20 bi20 => ?_
 refine sr_k fun K21 hK21 => ?_
 simp only [go_sem, lowB_length, Int.reduceTMod, Int.reduceTDiv, Int.toNat_one, F0]
 all_goals repeat' (first | apply And.intro | intro _)
 refine hK21 _ ?_
 refine draw_k [27, 28, 29, 30, 31, 32, 33, 34, 35, 36, 37, 38, 39, 40, 41] [0, 1, 0, 4, 0, 0, 32, 0, 128, 384, 1008, 2032, 4080, 3, 16383, 32767] [] mixed (by kernel_rfl) (by simp only [go_sem]) fun K22 hK22 => ?_
 simp only [go_sem, lowB_length, Int.reduceTMod, Int.reduceTDiv, Int.toNat_one, F0]
 all_goals repeat' (first | apply And.intro | intro _)
 all_goals refine call_draw (fun k => k) _ [] (fun _ _ => rfl) (by first | rfl | (simp only [go_sem, lowB_length, Int.reduceTMod, Int.reduceTDiv, Int.toNat_one, F0]; rfl) | simp only [go_sem, lowB_length, Int.reduceTMod, Int.reduceTDiv, Int.toNat_one, F0]) ((number_ _ (by first | (simp [List.length_take, List.length_drop]; done) | (simp [List.length_take, List.length_drop]; omega))).plain fun _ _ h => h) ?_ ?_
 all_goals try (refine And.intro ?_ (And.intro ?_ (And.intro ?_ ?_)) <;> first | rfl | simp only [go_sem])
 all_goals simp only [go_sem, lowB_length, Int.reduceTMod, Int.reduceTDiv, Int.toNat_one, F0]
 all_goals repeat' (first | apply And.intro | intro _)
 refine hK22 _ _ ?_ ?_
 · first | trivial | (simp only [go_sem]; done) | (simp only [go_sem]; simp; done) | (simp only [go_sem]; simp; simp only [go_sem])
 refine bn20 _ ?_
 refine hN19 _ ?_
 refine region_k fun K23 hK23 => ?_
 simp only [go_sem, lowB_length, Int.reduceTMod, Int.reduceTDiv, Int.toNat_one, F0]
 all_goals repeat' (first | apply And.intro | intro _)
 refine hK23 _ ?_
 refine hN16 _ ?_
 refine rnd_forget [9, 25, 26, 27, 28, 29, 30, 31, 32, 33, 34, 35, 36, 37, 38, 39, 40, 41, 42] ?_
 simp only [go_sem, St.forget, fgt]
 refine rnd_k fun N24 M24 hN24 hM24 => ?_
 refine sr_k fun K25 hK25 => ?_
 simp only [go_sem, lowB_length, Int.reduceTMod, Int.reduceTDiv, Int.toNat_one, F0]
 all_goals repeat' (first | apply And.intro | intro _)
 refine hK25 _ ?_
 refine seq_k fun N26 M26 hN26 hM26 => ?_
 refine condT_k (by first | rfl | (simp [go_sem, lowB_length, Int.reduceTMod, Int.reduceTDiv, Int.toNat_one, F0]; done)) ?_
 refine skip_k ?_
 refine hN26 _ ?_
 refine seq_k fun N27 M27 hN27 hM27 => ?_
 refine block_k fun B28 bn28 bx28 br28 bi28 => ?_
 refine sr_k fun K29 hK29 => ?_
 simp only [go_sem, lowB_length, Int.reduceTMod, Int.reduceTDiv, Int.toNat_one, F0]
 all_goals repeat' (first | apply And.intro | intro _)
 refine hK29 _ ?_
 refine draw_k [27, 28, 29, 30, 31, 32, 33, 34, 35, 36, 37, 38, 39, 40, 41] [0, 1, 0, 4, 0, 0, 32, 0, 128, 384, 1008, 2032, 4080, 3, 16383, 32767] [] mixed (by kernel_rfl) (by simp only [go_sem]) fun K30 hK30 => ?_
 simp only [go_sem, lowB_length, Int.reduceTMod, Int.reduceTDiv, Int.toNat_one, F0]
 all_goals repeat' (first | apply And.intro | intro _)
 all_goals refine call_draw (fun k => k) _ [] (fun _ _ => rfl) (by first | rfl | (simp only [go_sem, lowB_length, Int.reduceTMod, Int.reduceTDiv, Int.toNat_one, F0]; rfl) | simp only [go_sem, lowB_length, Int.reduceTMod, Int.reduceTDiv, Int.toNat_one, F0]) ((number_ _ (by first | (simp [List.length_take, List.length_drop]; done) | (simp [List.length_take, List.length_drop]; omega))).plain fun _ _ h => h) ?_ ?_
 all_goals try (refine And.intro ?_ (And.intro ?_ (And.intro ?_ ?_)) <;> first | rfl | simp only [go_sem])
 all_goals simp only [go_sem, lowB_length, Int.reduceTMod, Int.reduceTDiv, Int.toNat_one, F0]
 all_goals repeat' (first | apply And.intro | intro _)
 refine hK30 _ _ ?_ ?_
 · first | trivial | (simp only [go_sem]; done) | (simp only [go_sem]; simp; done) | (simp only [go_sem]; simp; simp only [go_sem])
 refine bn28 _ ?_
 refine hN27 _ ?_
 refine region_k fun K31 hK31 => ?_
 simp only [go_sem, lowB_length, Int.reduceTMod, Int.reduceTDiv, Int.toNat_one, F0]
 all_goals repeat' (first | apply And.intro | intro _)
 refine hK31 _ ?_
 refine hN24 _ ?_
 refine rnd_forget [9, 25, 26, 27, 28, 29, 30, 31, 32, 33, 34, 35, 36, 37, 38, 39, 40, 41, 42] ?_
 simp only [go_sem, St.forget, fgt]
 refine rnd_k fun N32 M32 hN32 hM32 => ?_
 refine sr_k fun K33 hK33 => ?_
 simp only [go_sem, lowB_length, Int.reduceTMod, Int.reduceTDiv, Int.toNat_one, F0]
 all_goals repeat' (first | apply And.intro | intro _)
 refine hK33 _ ?_
 refine seq_k fun N34 M34 hN34 hM34 => ?_
 refine condT_k (by first | rfl | (simp [go_sem, lowB_length, Int.reduceTMod, Int.reduceTDiv, Int.toNat_one, F0]; done)) ?_
 refine skip_k ?_
 refine hN34 _ ?_
 refine seq_k fun N35 M35 hN35 hM35 => ?_
 refine block_k fun B36 bn36 bx36 br36 bi36 => ?_
 refine sr_k fun K37 hK37 => ?_
 simp only [go_sem, lowB_length, Int.reduceTMod, Int.reduceTDiv, Int.toNat_one, F0]
 all_goals repeat' (first | apply And.intro | intro _)
 refine hK37 _ ?_
 refine draw_k [27, 28, 29, 30, 31, 32, 33, 34, 35, 36, 37, 38, 39, 40, 41] [0, 1, 0, 4, 0, 0, 32, 0, 128, 384, 1008, 2032, 4080, 3, 16383, 32767] [] mixed (by kernel_rfl) (by simp only [go_sem]) fun K38 hK38 => ?_
 simp only [go_sem, lowB_length, Int.reduceTMod, Int.reduceTDiv, Int.toNat_one, F0]
 all_goals repeat' (first | apply And.intro | intro _)
 all_goals refine call_draw (fun k => k) _ [] (fun _ _ => rfl) (by first | rfl | (simp only [go_sem, lowB_length, Int.reduceTMod, Int.reduceTDiv, Int.toNat_one, F0]; rfl) | simp only [go_sem, lowB_length, Int.reduceTMod, Int.reduceTDiv, Int.toNat_one, F0]) ((number_ _ (by first | (simp [List.length_take, List.length_drop]; done) | (simp [List.length_take, List.length_drop]; omega))).plain fun _ _ h => h) ?_ ?_
 all_goals try (refine And.intro ?_ (And.intro ?_ (And.intro ?_ ?_)) <;> first | rfl | simp only [go_sem])
 all_goals simp only [go_sem, lowB_length, Int.reduceTMod, Int.reduceTDiv, Int.toNat_one, F0]
 all_goals repeat' (first | apply And.intro | intro _)
 refine hK38 _ _ ?_ ?_
 · first | trivial | (simp only [go_sem]; done) | (simp only [go_sem]; simp; done) | (simp only [go_sem]; simp; simp only [go_sem])
 refine bn36 _ ?_
 refine hN35 _ ?_
 refine region_k fun K39 hK39 => ?_
 simp only [go_sem, lowB_length, Int.reduceTMod, Int.reduceTDiv, Int.toNat_one, F0]
 all_goals repeat' (first | apply And.intro | intro _)
 refine hK39 _ ?_
 refine hN32 _ ?_
 refine rnd_forget [9, 25, 26, 27, 28, 29, 30, 31, 32, 33, 34, 35, 36, 37, 38, 39, 40, 41, 42] ?_
 simp only [go_sem, St.forget, fgt]
 refine rnd_k fun N40 M40 hN40 hM40 => ?_
 refine sr_k fun K41 hK41 => ?_
 simp only [go_sem, lowB_length, Int.reduceTMod, Int.reduceTDiv, Int.toNat_one, F0]
 all_goals repeat' (first | apply And.intro | intro _)
 refine hK41 _ ?_
 refine seq_k fun N42 M42 hN42 hM42 => ?_
 refine condT_k (by first | rfl | (simp [go_sem, lowB_length, Int.reduceTMod, Int.reduceTDiv, Int.toNat_one, F0]; done)) ?_
 refine skip_k ?_
 refine hN42 _ ?_
 refine seq_k fun N43 M43 hN43 hM43 => ?_
 refine block_k fun B44 bn44 bx44 br44 bi44 => ?_
 refine sr_k fun K45 hK45 => ?_
 simp only [go_sem, lowB_length, Int.reduceTMod, Int.reduceTDiv, Int.toNat_one, F0]
 all_goals repeat' (first | apply And.intro | intro _)
 refine hK45 _ ?_
 refine draw_k [27, 28, 29, 30, 31, 32, 33, 34, 35, 36, 37, 38, 39, 40, 41] [0, 1, 0, 4, 0, 0, 32, 0, 128, 384, 1008, 2032, 4080, 3, 16383, 32767] [] mixed (by kernel_rfl) (by simp only [go_sem]) fun K46 hK46 => ?_
 simp only [go_sem, lowB_length, Int.reduceTMod, Int.reduceTDiv, Int.toNat_one, F0]
 all_goals repeat' (first | apply And.intro | intro _)
 all_goals refine call_draw (fun k => k) _ [] (fun _ _ => rfl) (by first | rfl | (simp only [go_sem, lowB_length, Int.reduceTMod, Int.reduceTDiv, Int.toNat_one, F0]; rfl) | simp only [go_sem, lowB_length, Int.reduceTMod, Int.reduceTDiv, Int.toNat_one, F0]) ((number_ _ (by first | (simp [List.length_take, List.length_drop]; done) | (simp [List.length_take, List.length_drop]; omega))).plain fun _ _ h => h) ?_ ?_
 all_goals try (refine And.intro ?_ (And.intro ?_ (And.intro ?_ ?_)) <;> first | rfl | simp only [go_sem])
 all_goals simp only [go_sem, lowB_length, Int.reduceTMod, Int.reduceTDiv, Int.toNat_one, F0]
 all_goals repeat' (first | apply And.intro | intro _)
 refine hK46 _ _ ?_ ?_
 · first | trivial | (simp only [go_sem]; done) | (simp only [go_sem]; simp; done) | (simp only [go_sem]; simp; simp only [go_sem])
 refine bn44 _ ?_
 refine hN43 _ ?_
 refine region_k fun K47 hK47 => ?_
 simp only [go_sem, lowB_length, Int.reduceTMod, Int.reduceTDiv, Int.toNat_one, F0]
 all_goals repeat' (first | apply And.intro | intro _)
 refine hK47 _ ?_
 refine hN40 _ ?_
 refine rnd_forget [9, 25, 26, 27, 28, 29, 30, 31, 32, 33, 34, 35, 36, 37, 38, 39, 40, 41, 42] ?_
 simp only [go_sem, St.forget, fgt]
 refine rnd_k fun N48 M48 hN48 hM48 => ?_
 refine sr_k fun K49 hK49 => ?_
 simp only [go_sem, lowB_length, Int.reduceTMod, Int.reduceTDiv, Int.toNat_one, F0]
 all_goals repeat' (first | apply And.intro | intro _)
 refine hK49 _ ?_
 refine seq_k fun N50 M50 hN50 hM50 => ?_
 refine condT_k (by first | rfl | (simp [go_sem, lowB_length, Int.reduceTMod, Int.reduceTDiv, Int.toNat_one, F0]; done)) ?_
 refine skip_k ?_
 refine hN50 _ ?_
 refine seq_k fun N51 M51 hN51 hM51 => ?_
 refine block_k fun B52 bn52 bx52 br52 bi52 => ?_
 refine sr_k fun K53 hK53 => ?_
 simp only [go_sem, lowB_length, Int.reduceTMod, Int.reduceTDiv, Int.toNat_one, F0]
 all_goals repeat' (first | apply And.intro | intro _)
 refine hK53 _ ?_
 refine draw_k [27, 28, 29, 30, 31, 32, 33, 34, 35, 36, 37, 38, 39, 40, 41] [0, 1, 0, 4, 0, 0, 32, 0, 128, 384, 1008, 2032, 4080, 3, 16383, 32767] [] mixed (by kernel_rfl) (by simp only [go_sem]) fun K54 hK54 => ?_
 simp only [go_sem, lowB_length, Int.reduceTMod, Int.reduceTDiv, Int.toNat_one, F0]
 all_goals repeat' (first | apply And.intro | intro _)
 all_goals refine call_draw (fun k => k) _ [] (fun _ _ => rfl) (by first | rfl | (simp only [go_sem, lowB_length, Int.reduceTMod, Int.reduceTDiv, Int.toNat_one, F0]; rfl) | simp only [go_sem, lowB_length, Int.reduceTMod, Int.reduceTDiv, Int.toNat_one, F0]) ((number_ _ (by first | (simp [List.length_take, List.length_drop]; done) | (simp [List.length_take, List.length_drop]; omega))).plain fun _ _ h => h) ?_ ?_
 all_goals try (refine And.intro ?_ (And.intro ?_ (And.intro ?_ ?_)) <;> first | rfl | simp only [go_sem])
 all_goals simp only [go_sem, lowB_length, Int.reduceTMod, Int.reduceTDiv, Int.toNat_one, F0]
 all_goals repeat' (first | apply And.intro | intro _)
 refine hK54 _ _ ?_ ?_
 · first | trivial | (simp only [go_sem]; done) | (simp only [go_sem]; simp; done) | (simp only [go_sem]; simp; simp only [go_sem])
 refine bn52 _ ?_
 refine hN51 _ ?_
 refine region_k fun K55 hK55 => ?_
 simp only [go_sem, lowB_length, Int.reduceTMod, Int.reduceTDiv, Int.toNat_one, F0]
 all_goals repeat' (first | apply And.intro | intro _)
 refine hK55 _ ?_
 refine hN48 _ ?_
 refine rnd_forget [9, 25, 26, 27, 28, 29, 30, 31, 32, 33, 34, 35, 36, 37, 38, 39, 40, 41, 42] ?_
 simp only [go_sem, St.forget, fgt]
 refine rnd_k fun N56 M56 hN56 hM56 => ?_
 refine sr_k fun K57 hK57 => ?_
 simp only [go_sem, lowB_length, Int.reduceTMod, Int.reduceTDiv, Int.toNat_one, F0]
 all_goals repeat' (first | apply And.intro | intro _)
 refine hK57 _ ?_
 refine seq_k fun N58 M58 hN58 hM58 => ?_
 refine condT_k (by first | rfl | (simp [go_sem, lowB_length, Int.reduceTMod, Int.reduceTDiv, Int.toNat_one, F0]; done)) ?_
 refine skip_k ?_
 refine hN58 _ ?_
 refine seq_k fun N59 M59 hN59 hM59 => ?_
 refine block_k fun B60 bn60 bx60 br60 bi60 => ?_
 refine sr_k fun K61 hK61 => ?_
 simp only [go_sem, lowB_length, Int.reduceTMod, Int.reduceTDiv, Int.toNat_one, F0]
 all_goals repeat' (first | apply And.intro | intro _)
 refine hK61 _ ?_
 refine draw_k [27, 28, 29, 30, 31, 32, 33, 34, 35, 36, 37, 38, 39, 40, 41] [0, 1, 0, 4, 0, 0, 32, 0, 128, 384, 1008, 2032, 4080, 3, 16383, 32767] [] mixed (by kernel_rfl) (by simp only [go_sem]) fun K62 hK62 => ?_
 simp only [go_sem, lowB_length, Int.reduceTMod, Int.reduceTDiv, Int.toNat_one, F0]
 all_goals repeat' (first | apply And.intro | intro _)
 all_goals refine call_draw (fun k => k) _ [] (fun _ _ => rfl) (by first | rfl | (simp only [go_sem, lowB_length, Int.reduceTMod, Int.reduceTDiv, Int.toNat_one, F0]; rfl) | simp only [go_sem, lowB_length, Int.reduceTMod, Int.reduceTDiv, Int.toNat_one, F0]) ((number_ _ (by first | (simp [List.length_take, List.length_drop]; done) | (simp [List.length_take, List.length_drop]; omega))).plain fun _ _ h => h) ?_ ?_
 all_goals try (refine And.intro ?_ (And.intro ?_ (And.intro ?_ ?_)) <;> first | rfl | simp only [go_sem])
 all_goals simp only [go_sem, lowB_length, Int.reduceTMod, Int.reduceTDiv, Int.toNat_one, F0]
 all_goals repeat' (first | apply And.intro | intro _)
 refine hK62 _ _ ?_ ?_
 · first | trivial | (simp only [go_sem]; done) | (simp only [go_sem]; simp; done) | (simp only [go_sem]; simp; simp only [go_sem])
 refine bn60 _ ?_
 refine hN59 _ ?_
 refine region_k fun K63 hK63 => ?_
 simp only [go_sem, lowB_length, Int.reduceTMod, Int.reduceTDiv, Int.toNat_one, F0]
 all_goals repeat' (first | apply And.intro | intro _)
 refine hK63 _ ?_
 refine hN56 _ ?_
 refine rnd_forget [9, 25, 26, 27, 28, 29, 30, 31, 32, 33, 34, 35, 36, 37, 38, 39, 40, 41, 42] ?_
 simp only [go_sem, St.forget, fgt]
 refine rnd_k fun N64 M64 hN64 hM64 => ?_
 refine sr_k fun K65 hK65 => ?_
 simp only [go_sem, lowB_length, Int.reduceTMod, Int.reduceTDiv, Int.toNat_one, F0]
 all_goals repeat' (first | apply And.intro | intro _)
 refine hK65 _ ?_
 refine seq_k fun N66 M66 hN66 hM66 => ?_
 refine condT_k (by first | rfl | (simp [go_sem, lowB_length, Int.reduceTMod, Int.reduceTDiv, Int.toNat_one, F0]; done)) ?_
 refine skip_k ?_
 refine hN66 _ ?_
 refine seq_k fun N67 M67 hN67 hM67 => ?_
 refine block_k fun B68 bn68 bx68 br68 bi68 => ?_
 refine sr_k fun K69 hK69 => ?_
 simp only [go_sem, lowB_length, Int.reduceTMod, Int.reduceTDiv, Int.toNat_one, F0]
 all_goals repeat' (first | apply And.intro | intro _)
 refine hK69 _ ?_
 refine draw_k [27, 28, 29, 30, 31, 32, 33, 34, 35, 36, 37, 38, 39, 40, 41] [0, 1, 0, 4, 0, 0, 32, 0, 128, 384, 1008, 2032, 4080, 3, 16383, 32767] [] mixed (by kernel_rfl) (by simp only [go_sem]) fun K70 hK70 => ?_
 simp only [go_sem, lowB_length, Int.reduceTMod, Int.reduceTDiv, Int.toNat_one, F0]
 all_goals repeat' (first | apply And.intro | intro _)
 all_goals refine call_draw (fun k => k) _ [] (fun _ _ => rfl) (by first | rfl | (simp only [go_sem, lowB_length, Int.reduceTMod, Int.reduceTDiv, Int.toNat_one, F0]; rfl) | simp only [go_sem, lowB_length, Int.reduceTMod, Int.reduceTDiv, Int.toNat_one, F0]) ((number_ _ (by first | (simp [List.length_take, List.length_drop]; done) | (simp [List.length_take, List.length_drop]; omega))).plain fun _ _ h => h) ?_ ?_
 all_goals try (refine And.intro ?_ (And.intro ?_ (And.intro ?_ ?_)) <;> first | rfl | simp only [go_sem])
 all_goals simp only [go_sem, lowB_length, Int.reduceTMod, Int.reduceTDiv, Int.toNat_one, F0]
 all_goals repeat' (first | apply And.intro | intro _)
 refine hK70 _ _ ?_ ?_
 · first | trivial | (simp only [go_sem]; done) | (simp only [go_sem]; simp; done) | (simp only [go_sem]; simp; simp only [go_sem])
 refine bn68 _ ?_
 refine hN67 _ ?_
 refine region_k fun K71 hK71 => ?_
 simp only [go_sem, lowB_length, Int.reduceTMod, Int.reduceTDiv, Int.toNat_one, F0]
 all_goals repeat' (first | apply And.intro | intro _)
 refine hK71 _ ?_
 refine hN64 _ ?_
 refine rnd_forget [9, 25, 26, 27, 28, 29, 30, 31, 32, 33, 34, 35, 36, 37, 38, 39, 40, 41, 42] ?_
 simp only [go_sem, St.forget, fgt]
 refine rnd_k fun N72 M72 hN72 hM72 => ?_
 refine sr_k fun K73 hK73 => ?_
 simp only [go_sem, lowB_length, Int.reduceTMod, Int.reduceTDiv, Int.toNat_one, F0]
 all_goals repeat' (first | apply And.intro | intro _)
 refine hK73 _ ?_
 refine seq_k fun N74 M74 hN74 hM74 => ?_
 refine condT_k (by first | rfl | (simp [go_sem, lowB_length, Int.reduceTMod, Int.reduceTDiv, Int.toNat_one, F0]; done)) ?_
 refine skip_k ?_
 refine hN74 _ ?_
 refine seq_k fun N75 M75 hN75 hM75 => ?_
 refine block_k fun B76 bn76 bx76 br76 bi76 => ?_
 refine sr_k fun K77 hK77 => ?_
 simp only [go_sem, lowB_length, Int.reduceTMod, Int.reduceTDiv, Int.toNat_one, F0]
 all_goals repeat' (first | apply And.intro | intro _)
 refine hK77 _ ?_
 refine draw_k [27, 28, 29, 30, 31, 32, 33, 34, 35, 36, 37, 38, 39, 40, 41] [0, 1, 0, 4, 0, 0, 32, 0, 128, 384, 1008, 2032, 4080, 3, 16383, 32767] [] mixed (by kernel_rfl) (by simp only [go_sem]) fun K78 hK78 => ?_
 simp only [go_sem, lowB_length, Int.reduceTMod, Int.reduceTDiv, Int.toNat_one, F0]
 all_goals repeat' (first | apply And.intro | intro _)
 all_goals refine call_draw (fun k => k) _ [] (fun _ _ => rfl) (by first | rfl | (simp only [go_sem, lowB_length, Int.reduceTMod, Int.reduceTDiv, Int.toNat_one, F0]; rfl) | simp only [go_sem, lowB_length, Int.reduceTMod, Int.reduceTDiv, Int.toNat_one, F0]) ((number_ _ (by first | (simp [List.length_take, List.length_drop]; done) | (simp [List.length_take, List.length_drop]; omega))).plain fun _ _ h => h) ?_ ?_
 all_goals try (refine And.intro ?_ (And.intro ?_ (And.intro ?_ ?_)) <;> first | rfl | simp only [go_sem])
 all_goals simp only [go_sem, lowB_length, Int.reduceTMod, Int.reduceTDiv, Int.toNat_one, F0]
 all_goals repeat' (first | apply And.intro | intro _)
 refine hK78 _ _ ?_ ?_
 · first | trivial | (simp only [go_sem]; done) | (simp only [go_sem]; simp; done) | (simp only [go_sem]; simp; simp only [go_sem])
 refine bn76 _ ?_
 refine hN75 _ ?_
 refine region_k fun K79 hK79 => ?_
 simp only [go_sem, lowB_length, Int.reduceTMod, Int.reduceTDiv, Int.toNat_one, F0]
 all_goals repeat' (first | apply And.intro | intro _)
 refine hK79 _ ?_
 refine hN72 _ ?_
 refine rnd_forget [9, 25, 26, 27, 28, 29, 30, 31, 32, 33, 34, 35, 36, 37, 38, 39, 40, 41, 42] ?_
 simp only [go_sem, St.forget, fgt]
 refine rnd_k fun N80 M80 hN80 hM80 => ?_
 refine sr_k fun K81 hK81 => ?_
 simp only [go_sem, lowB_length, Int.reduceTMod, Int.reduceTDiv, Int.toNat_one, F0]
 all_goals repeat' (first | apply And.intro | intro _)
 refine hK81 _ ?_
 refine seq_k fun N82 M82 hN82 hM82 => ?_
 refine condT_k (by first | rfl | (simp [go_sem, lowB_length, Int.reduceTMod, Int.reduceTDiv, Int.toNat_one, F0]; done)) ?_
 refine skip_k ?_
 refine hN82 _ ?_
 refine seq_k fun N83 M83 hN83 hM83 => ?_
 refine block_k fun B84 bn84 bx84 br84 bi84 => ?_
 refine sr_k fun K85 hK85 => ?_
 simp only [go_sem, lowB_length, Int.reduceTMod, Int.reduceTDiv, Int.toNat_one, F0]
 all_goals repeat' (first | apply And.intro | intro _)
 refine hK85 _ ?_
 refine draw_k [27, 28, 29, 30, 31, 32, 33, 34, 35, 36, 37, 38, 39, 40, 41] [0, 1, 0, 4, 0, 0, 32, 0, 128, 384, 1008, 2032, 4080, 3, 16383, 32767] [] mixed (by kernel_rfl) (by simp only [go_sem]) fun K86 hK86 => ?_
 simp only [go_sem, lowB_length, Int.reduceTMod, Int.reduceTDiv, Int.toNat_one, F0]
 all_goals repeat' (first | apply And.intro | intro _)
 all_goals refine call_draw (fun k => k) _ [] (fun _ _ => rfl) (by first | rfl | (simp only [go_sem, lowB_length, Int.reduceTMod, Int.reduceTDiv, Int.toNat_one, F0]; rfl) | simp only [go_sem, lowB_length, Int.reduceTMod, Int.reduceTDiv, Int.toNat_one, F0]) ((number_ _ (by first | (simp [List.length_take, List.length_drop]; done) | (simp [List.length_take, List.length_drop]; omega))).plain fun _ _ h => h) ?_ ?_
 all_goals try (refine And.intro ?_ (And.intro ?_ (And.intro ?_ ?_)) <;> first | rfl | simp only [go_sem])
 all_goals simp only [go_sem, lowB_length, Int.reduceTMod, Int.reduceTDiv, Int.toNat_one, F0]
 all_goals repeat' (first | apply And.intro | intro _)
 refine hK86 _ _ ?_ ?_
 · first | trivial | (simp only [go_sem]; done) | (simp only [go_sem]; simp; done) | (simp only [go_sem]; simp; simp only [go_sem])
 refine bn84 _ ?_
 refine hN83 _ ?_
 refine region_k fun K87 hK87 => ?_
 simp only [go_sem, lowB_length, Int.reduceTMod, Int.reduceTDiv, Int.toNat_one, F0]
 all_goals repeat' (first | apply And.intro | intro _)
 refine hK87 _ ?_
 refine hN80 _ ?_
 refine rnd_forget [9, 25, 26, 27, 28, 29, 30, 31, 32, 33, 34, 35, 36, 37, 38, 39, 40, 41, 42] ?_
 simp only [go_sem, St.forget, fgt]
 refine rnd_k fun N88 M88 hN88 hM88 => ?_
 refine sr_k fun K89 hK89 => ?_
 simp only [go_sem, lowB_length, Int.reduceTMod, Int.reduceTDiv, Int.toNat_one, F0]
 all_goals repeat' (first | apply And.intro | intro _)
 refine hK89 _ ?_
 refine seq_k fun N90 M90 hN90 hM90 => ?_
 refine condT_k (by first | rfl | (simp [go_sem, lowB_length, Int.reduceTMod, Int.reduceTDiv, Int.toNat_one, F0]; done)) ?_
 refine skip_k ?_
 refine hN90 _ ?_
 refine seq_k fun N91 M91 hN91 hM91 => ?_
 refine block_k fun B92 bn92 bx92 br92 bi92 => ?_
 refine sr_k fun K93 hK93 => ?_
 simp only [go_sem, lowB_length, Int.reduceTMod, Int.reduceTDiv, Int.toNat_one, F0]
 all_goals repeat' (first | apply And.intro | intro _)
 refine hK93 _ ?_
 refine draw_k [27, 28, 29, 30, 31, 32, 33, 34, 35, 36, 37, 38, 39, 40, 41] [0, 1, 0, 4, 0, 0, 32, 0, 128, 384, 1008, 2032, 4080, 3, 16383, 32767] [] mixed (by kernel_rfl) (by simp only [go_sem]) fun K94 hK94 => ?_
 simp only [go_sem, lowB_length, Int.reduceTMod, Int.reduceTDiv, Int.toNat_one, F0]
 all_goals repeat' (first | apply And.intro | intro _)
 all_goals refine call_draw (fun k => k) _ [] (fun _ _ => rfl) (by first | rfl | (simp only [go_sem, lowB_length, Int.reduceTMod, Int.reduceTDiv, Int.toNat_one, F0]; rfl) | simp only [go_sem, lowB_length, Int.reduceTMod, Int.reduceTDiv, Int.toNat_one, F0]) ((number_ _ (by first | (simp [List.length_take, List.length_drop]; done) | (simp [List.length_take, List.length_drop]; omega))).plain fun _ _ h => h) ?_ ?_
 all_goals try (refine And.intro ?_ (And.intro ?_ (And.intro ?_ ?_)) <;> first | rfl | simp only [go_sem])
 all_goals simp only [go_sem, lowB_length, Int.reduceTMod, Int.reduceTDiv, Int.toNat_one, F0]
 all_goals repeat' (first | apply And.intro | intro _)
 refine hK94 _ _ ?_ ?_
 · first | trivial | (simp only [go_sem]; done) | (simp only [go_sem]; simp; done) | (simp only [go_sem]; simp; simp only [go_sem])
 refine bn92 _ ?_
 refine hN91 _ ?_
 refine region_k fun K95 hK95 => ?_
 simp only [go_sem, lowB_length, Int.reduceTMod, Int.reduceTDiv, Int.toNat_one, F0]
 all_goals repeat' (first | apply And.intro | intro _)
 refine hK95 _ ?_
 refine hN88 _ ?_
 refine rnd_forget [9, 25, 26, 27, 28, 29, 30, 31, 32, 33, 34, 35, 36, 37, 38, 39, 40, 41, 42] ?_
 simp only [go_sem, St.forget, fgt]
 refine rnd_k fun N96 M96 hN96 hM96 => ?_
 refine sr_k fun K97 hK97 => ?_
 simp only [go_sem, lowB_length, Int.reduceTMod, Int.reduceTDiv, Int.toNat_one, F0]
 all_goals repeat' (first | apply And.intro | intro _)
 refine hK97 _ ?_
 refine seq_k fun N98 M98 hN98 hM98 => ?_
 refine condT_k (by first | rfl | (simp [go_sem, lowB_length, Int.reduceTMod, Int.reduceTDiv, Int.toNat_one, F0]; done)) ?_
 refine skip_k ?_
 refine hN98 _ ?_
 refine seq_k fun N99 M99 hN99 hM99 => ?_
 refine block_k fun B100 bn100 bx100 br100 bi100 => ?_
 refine sr_k fun K101 hK101 => ?_
 simp only [go_sem, lowB_length, Int.reduceTMod, Int.reduceTDiv, Int.toNat_one, F0]
 all_goals repeat' (first | apply And.intro | intro _)
 refine hK101 _ ?_
 refine draw_k [27, 28, 29, 30, 31, 32, 33, 34, 35, 36, 37, 38, 39, 40, 41] [0, 1, 0, 4, 0, 0, 32, 0, 128, 384, 1008, 2032, 4080, 3, 16383, 32767] [] mixed (by kernel_rfl) (by simp only [go_sem]) fun K102 hK102 => ?_
 simp only [go_sem, lowB_length, Int.reduceTMod, Int.reduceTDiv, Int.toNat_one, F0]
 all_goals repeat' (first | apply And.intro | intro _)
 all_goals refine call_draw (fun k => k) _ [] (fun _ _ => rfl) (by first | rfl | (simp only [go_sem, lowB_length, Int.reduceTMod, Int.reduceTDiv, Int.toNat_one, F0]; rfl) | simp only [go_sem, lowB_length, Int.reduceTMod, Int.reduceTDiv, Int.toNat_one, F0]) ((number_ _ (by first | (simp [List.length_take, List.length_drop]; done) | (simp [List.length_take, List.length_drop]; omega))).plain fun _ _ h => h) ?_ ?_
 all_goals try (refine And.intro ?_ (And.intro ?_ (And.intro ?_ ?_)) <;> first | rfl | simp only [go_sem])
 all_goals simp only [go_sem, lowB_length, Int.reduceTMod, Int.reduceTDiv, Int.toNat_one, F0]
 all_goals repeat' (first | apply And.intro | intro _)
 refine hK102 _ _ ?_ ?_
 · first | trivial | (simp only [go_sem]; done) | (simp only [go_sem]; simp; done) | (simp only [go_sem]; simp; simp only [go_sem])
 refine bn100 _ ?_
 refine hN99 _ ?_
 refine region_k fun K103 hK103 => ?_
 simp only [go_sem, lowB_length, Int.reduceTMod, Int.reduceTDiv, Int.toNat_one, F0]
 all_goals repeat' (first | apply And.intro | intro _)
 refine hK103 _ ?_
 refine hN96 _ ?_
 refine rnd_forget [9, 25, 26, 27, 28, 29, 30, 31, 32, 33, 34, 35, 36, 37, 38, 39, 40, 41, 42] ?_
 simp only [go_sem, St.forget, fgt]
 refine rnd_k fun N104 M104 hN104 hM104 => ?_
 refine sr_k fun K105 hK105 => ?_
 simp only [go_sem, lowB_length, Int.reduceTMod, Int.reduceTDiv, Int.toNat_one, F0]
 all_goals repeat' (first | apply And.intro | intro _)
 refine hK105 _ ?_
 refine seq_k fun N106 M106 hN106 hM106 => ?_
 refine condT_k (by first | rfl | (simp [go_sem, lowB_length, Int.reduceTMod, Int.reduceTDiv, Int.toNat_one, F0]; done)) ?_
 refine skip_k ?_
 refine hN106 _ ?_
 refine seq_k fun N107 M107 hN107 hM107 => ?_
 refine block_k fun B108 bn108 bx108 br108 bi108 => ?_
 refine sr_k fun K109 hK109 => ?_
 simp only [go_sem, lowB_length, Int.reduceTMod, Int.reduceTDiv, Int.toNat_one, F0]
 all_goals repeat' (first | apply And.intro | intro _)
 refine hK109 _ ?_
 refine draw_k [27, 28, 29, 30, 31, 32, 33, 34, 35, 36, 37, 38, 39, 40, 41] [0, 1, 0, 4, 0, 0, 32, 0, 128, 384, 1008, 2032, 4080, 3, 16383, 32767] [] mixed (by kernel_rfl) (by simp only [go_sem]) fun K110 hK110 => ?_
 simp only [go_sem, lowB_length, Int.reduceTMod, Int.reduceTDiv, Int.toNat_one, F0]
 all_goals repeat' (first | apply And.intro | intro _)
 all_goals refine call_draw (fun k => k) _ [] (fun _ _ => rfl) (by first | rfl | (simp only [go_sem, lowB_length, Int.reduceTMod, Int.reduceTDiv, Int.toNat_one, F0]; rfl) | simp only [go_sem, lowB_length, Int.reduceTMod, Int.reduceTDiv, Int.toNat_one, F0]) ((number_ _ (by first | (simp [List.length_take, List.length_drop]; done) | (simp [List.length_take, List.length_drop]; omega))).plain fun _ _ h => h) ?_ ?_
 all_goals try (refine And.intro ?_ (And.intro ?_ (And.intro ?_ ?_)) <;> first | rfl | simp only [go_sem])
 all_goals simp only [go_sem, lowB_length, Int.reduceTMod, Int.reduceTDiv, Int.toNat_one, F0]
 all_goals repeat' (first | apply And.intro | intro _)
 refine hK110 _ _ ?_ ?_
 · first | trivial | (simp only [go_sem]; done) | (simp only [go_sem]; simp; done) | (simp only [go_sem]; simp; simp only [go_sem])
 refine bn108 _ ?_
 refine hN107 _ ?_
 refine region_k fun K111 hK111 => ?_
 simp only [go_sem, lowB_length, Int.reduceTMod, Int.reduceTDiv, Int.toNat_one, F0]
 all_goals repeat' (first | apply And.intro | intro _)
 refine hK111 _ ?_
 refine hN104 _ ?_
 refine rnd_forget [9, 25, 26, 27, 28, 29, 30, 31, 32, 33, 34, 35, 36, 37, 38, 39, 40, 41, 42] ?_
 simp only [go_sem, St.forget, fgt]
 refine rnd_k fun N112 M112 hN112 hM112 => ?_
 refine sr_k fun K113 hK113 => ?_
 simp only [go_sem, lowB_length, Int.reduceTMod, Int.reduceTDiv, Int.toNat_one, F0]
 all_goals repeat' (first | apply And.intro | intro _)
 refine hK113 _ ?_
 refine seq_k fun N114 M114 hN114 hM114 => ?_
 refine condT_k (by first | rfl | (simp [go_sem, lowB_length, Int.reduceTMod, Int.reduceTDiv, Int.toNat_one, F0]; done)) ?_
 refine skip_k ?_
 refine hN114 _ ?_
 refine seq_k fun N115 M115 hN115 hM115 => ?_
 refine block_k fun B116 bn116 bx116 br116 bi116 => ?_
 refine sr_k fun K117 hK117 => ?_
 simp only [go_sem, lowB_length, Int.reduceTMod, Int.reduceTDiv, Int.toNat_one, F0]
 all_goals repeat' (first | apply And.intro | intro _)
 refine hK117 _ ?_
 refine draw_k [27, 28, 29, 30, 31, 32, 33, 34, 35, 36, 37, 38, 39, 40, 41] [0, 1, 0, 4, 0, 0, 32, 0, 128, 384, 1008, 2032, 4080, 3, 16383, 32767] [] mixed (by kernel_rfl) (by simp only [go_sem]) fun K118 hK118 => ?_
 simp only [go_sem, lowB_length, Int.reduceTMod, Int.reduceTDiv, Int.toNat_one, F0]
 all_goals repeat' (first | apply And.intro | intro _)
 all_goals refine call_draw (fun k => k) _ [] (fun _ _ => rfl) (by first | rfl | (simp only [go_sem, lowB_length, Int.reduceTMod, Int.reduceTDiv, Int.toNat_one, F0]; rfl) | simp only [go_sem, lowB_length, Int.reduceTMod, Int.reduceTDiv, Int.toNat_one, F0]) ((number_ _ (by first | (simp [List.length_take, List.length_drop]; done) | (simp [List.length_take, List.length_drop]; omega))).plain fun _ _ h => h) ?_ ?_
 all_goals try (refine And.intro ?_ (And.intro ?_ (And.intro ?_ ?_)) <;> first | rfl | simp only [go_sem])
 all_goals simp only [go_sem, lowB_length, Int.reduceTMod, Int.reduceTDiv, Int.toNat_one, F0]
 all_goals repeat' (first | apply And.intro | intro _)
 refine hK118 _ _ ?_ ?_
 · first | trivial | (simp only [go_sem]; done) | (simp only [go_sem]; simp; done) | (simp only [go_sem]; simp; simp only [go_sem])
 refine bn116 _ ?_
 refine hN115 _ ?_
 refine region_k fun K119 hK119 => ?_
 simp only [go_sem, lowB_length, Int.reduceTMod, Int.reduceTDiv, Int.toNat_one, F0]
 all_goals repeat' (first | apply And.intro | intro _)
 refine hK119 _ ?_
 refine hN112 _ ?_
 refine rnd_forget [9, 25, 26, 27, 28, 29, 30, 31, 32, 33, 34, 35, 36, 37, 38, 39, 40, 41, 42] ?_
 simp only [go_sem, St.forget, fgt]
 refine rnd_k fun N120 M120 hN120 hM120 => ?_
 refine sr_k fun K121 hK121 => ?_
 simp only [go_sem, lowB_length, Int.reduceTMod, Int.reduceTDiv, Int.toNat_one, F0]
 all_goals repeat' (first | apply And.intro | intro _)
 refine hK121 _ ?_
 refine seq_k fun N122 M122 hN122 hM122 => ?_
 refine condT_k (by first | rfl | (simp [go_sem, lowB_length, Int.reduceTMod, Int.reduceTDiv, Int.toNat_one, F0]; done)) ?_
 refine skip_k ?_
 refine hN122 _ ?_
 refine seq_k fun N123 M123 hN123 hM123 => ?_
 refine block_k fun B124 bn124 bx124 br124 bi124 => ?_
 refine sr_k fun K125 hK125 => ?_
 simp only [go_sem, lowB_length, Int.reduceTMod, Int.reduceTDiv, Int.toNat_one, F0]
 all_goals repeat' (first | apply And.intro | intro _)
 refine hK125 _ ?_
 refine draw_k [27, 28, 29, 30, 31, 32, 33, 34, 35, 36, 37, 38, 39, 40, 41] [0, 1, 0, 4, 0, 0, 32, 0, 128, 384, 1008, 2032, 4080, 3, 16383, 32767] [] mixed (by kernel_rfl) (by simp only [go_sem]) fun K126 hK126 => ?_
 simp only [go_sem, lowB_length, Int.reduceTMod, Int.reduceTDiv, Int.toNat_one, F0]
 all_goals repeat' (first | apply And.intro | intro _)
 all_goals refine call_draw (fun k => k) _ [] (fun _ _ => rfl) (by first | rfl | (simp only [go_sem, lowB_length, Int.reduceTMod, Int.reduceTDiv, Int.toNat_one, F0]; rfl) | simp only [go_sem, lowB_length, Int.reduceTMod, Int.reduceTDiv, Int.toNat_one, F0]) ((number_ _ (by first | (simp [List.length_take, List.length_drop]; done) | (simp [List.length_take, List.length_drop]; omega))).plain fun _ _ h => h) ?_ ?_
 all_goals try (refine And.intro ?_ (And.intro ?_ (And.intro ?_ ?_)) <;> first | rfl | simp only [go_sem])
 all_goals simp only [go_sem, lowB_length, Int.reduceTMod, Int.reduceTDiv, Int.toNat_one, F0]
 all_goals repeat' (first | apply And.intro | intro _)
 refine hK126 _ _ ?_ ?_
 · first | trivial | (simp only [go_sem]; done) | (simp only [go_sem]; simp; done) | (simp only [go_sem]; simp; simp only [go_sem])
 refine bn124 _ ?_
 refine hN123 _ ?_
 refine region_k fun K127 hK127 => ?_
 simp only [go_sem, lowB_length, Int.reduceTMod, Int.reduceTDiv, Int.toNat_one, F0]
 all_goals repeat' (first | apply And.intro | intro _)
 refine hK127 _ ?_
 refine hN120 _ ?_
 refine rnd_forget [9, 25, 26, 27, 28, 29, 30, 31, 32, 33, 34, 35, 36, 37, 38, 39, 40, 41, 42] ?_
 simp only [go_sem, St.forget, fgt]
 refine rnd_k fun N128 M128 hN128 hM128 => ?_
 refine sr_k fun K129 hK129 => ?_
 simp only [go_sem, lowB_length, Int.reduceTMod, Int.reduceTDiv, Int.toNat_one, F0]
 all_goals repeat' (first | apply And.intro | intro _)
 refine hK129 _ ?_
 refine seq_k fun N130 M130 hN130 hM130 => ?_
 refine condT_k (by first | rfl | (simp [go_sem, lowB_length, Int.reduceTMod, Int.reduceTDiv, Int.toNat_one, F0]; done)) ?_
 refine skip_k ?_
 refine hN130 _ ?_
 refine seq_k fun N131 M131 hN131 hM131 => ?_
 refine block_k fun B132 bn132 bx132 br132 bi132 => ?_
 refine sr_k fun K133 hK133 => ?_
 simp only [go_sem, lowB_length, Int.reduceTMod, Int.reduceTDiv, Int.toNat_one, F0]
 all_goals repeat' (first | apply And.intro | intro _)
 refine hK133 _ ?_
 refine draw_k [27, 28, 29, 30, 31, 32, 33, 34, 35, 36, 37, 38, 39, 40, 41] [0, 1, 0, 4, 0, 0, 32, 0, 128, 384, 1008, 2032, 4080, 3, 16383, 32767] [] mixed (by kernel_rfl) (by simp only [go_sem]) fun K134 hK134 => ?_
 simp only [go_sem, lowB_length, Int.reduceTMod, Int.reduceTDiv, Int.toNat_one, F0]
 all_goals repeat' (first | apply And.intro | intro _)
 all_goals refine call_draw (fun k => k) _ [] (fun _ _ => rfl) (by first | rfl | (simp only [go_sem, lowB_length, Int.reduceTMod, Int.reduceTDiv, Int.toNat_one, F0]; rfl) | simp only [go_sem, lowB_length, Int.reduceTMod, Int.reduceTDiv, Int.toNat_one, F0]) ((number_ _ (by first | (simp [List.length_take, List.length_drop]; done) | (simp [List.length_take, List.length_drop]; omega))).plain fun _ _ h => h) ?_ ?_
 all_goals try (refine And.intro ?_ (And.intro ?_ (And.intro ?_ ?_)) <;> first | rfl | simp only [go_sem])
 all_goals simp only [go_sem, lowB_length, Int.reduceTMod, Int.reduceTDiv, Int.toNat_one, F0]
 all_goals repeat' (first | apply And.intro | intro _)
 refine hK134 _ _ ?_ ?_
 · first | trivial | (simp only [go_sem]; done) | (simp only [go_sem]; simp; done) | (simp only [go_sem]; simp; simp only [go_sem])
 refine bn132 _ ?_
 refine hN131 _ ?_
 refine region_k fun K135 hK135 => ?_
 simp only [go_sem, lowB_length, Int.reduceTMod, Int.reduceTDiv, Int.toNat_one, F0]
 all_goals repeat' (first | apply And.intro | intro _)
 refine hK135 _ ?_
 refine hN128 _ ?_
 refine rnd_forget [9, 25, 26, 27, 28, 29, 30, 31, 32, 33, 34, 35, 36, 37, 38, 39, 40, 41, 42] ?_
 simp only [go_sem, St.forget, fgt]
 refine rnd_k fun N136 M136 hN136 hM136 => ?_
 refine sr_k fun K137 hK137 => ?_
 simp only [go_sem, lowB_length, Int.reduceTMod, Int.reduceTDiv, Int.toNat_one, F0]
 all_goals repeat' (first | apply And.intro | intro _)
 refine hK137 _ ?_
 refine seq_k fun N138 M138 hN138 hM138 => ?_
 refine condF_k (by first | rfl | (simp [go_sem, lowB_length, Int.reduceTMod, Int.reduceTDiv, Int.toNat_one, F0]; done)) ?_
 refine exit_k ?_
 refine hM138 _ _ ?_
 refine hM136 _ _ ?_
 refine bx6 _ ?_
 refine hN4 _ ?_
 refine sr_k fun K139 hK139 => ?_
 simp only [go_sem, lowB_length, Int.reduceTMod, Int.reduceTDiv, Int.toNat_one, F0]
 all_goals repeat' (first | apply And.intro | intro _)
 refine hK139 _ ?_
 refine seq_k fun N140 M140 hN140 hM140 => ?_
 refine sr_k fun K141 hK141 => ?_
 simp only [go_sem, lowB_length, Int.reduceTMod, Int.reduceTDiv, Int.toNat_one, F0]
 all_goals repeat' (first | apply And.intro | intro _)
 refine hK141 _ ?_
 refine block_k fun B142 bn142 bx142 br142 bi142 => ?_
 refine ht_dropE [0, 1, 2, 3, 5, 7, 9, 14, 15, 16, 17, 18, 19, 20, 21, 22, 23, 24, 25, 26, 27, 28, 29, 30, 31, 32, 33, 34, 35, 36, 37, 38, 39, 40, 41, 42, 43] ?_
 simp only [dropE_mk, fgt_nil, fgt_cons, List.contains_cons, List.contains_nil, Nat.reduceBEq, beq_self_eq_true, Bool.or_false, Bool.or_true, Bool.true_or, Bool.false_or, Bool.false_eq_true, reduceIte]
 refine loop_k (fun y => [(44, .w (.one (.pl (.i ((y.1 : Nat) : Int)))))]) (fun y => [(10, ⟨false, (roundN y.1 Wi).ls⟩)]) (fun y => 10 - y.1) (⟨0, Nat.zero_le _⟩ : {y : Nat // y ≤ 10}) ?_ ?_ ?_
 · (simp only [go_sem, leX, List.cons_append, List.nil_append]; try simp)
 · (simp only [roundN, go_sem, leX, List.cons_append, List.nil_append]; first | done | rfl | (rw [← hrW]; simp [roundN, refW, W16.ls, leX, look]; done))
 intro ⟨k, hk9⟩ N143 M143 hN143 hM143
 simp only [List.cons_append, List.nil_append]
 rcases Nat.lt_or_ge k 10 with hlt | hge
 · have hcq : ((k : Nat) : Int) < 10 := by omega
   have hs1 : Go.RowKit.wrap64 (((k : Nat) : Int) + 1) = ((k + 1 : Nat) : Int) := wnat (by omega) (by omega)
   obtain ⟨v, hv⟩ : ∃ v, roundN k Wi = v := ⟨_, rfl⟩
   have hdg := sh_diag v.col
   simp only [hv]
   refine sr_k fun K144 hK144 => ?_
   simp only [go_sem, lowB_length, Int.reduceTMod, Int.reduceTDiv, Int.toNat_one, F0, W16.ls, hcq, hs1]
   all_goals repeat' (first | apply And.intro | intro _)
   refine hK144 _ ?_
   refine seq_k fun N145 M145 hN145 hM145 => ?_
   refine condT_k (by first | rfl | (simp [go_sem, lowB_length, Int.reduceTMod, Int.reduceTDiv, Int.toNat_one, F0, W16.ls, hcq, hs1]; done)) ?_
   refine skip_k ?_
   refine hN145 _ ?_
   refine seq_k fun N146 M146 hN146 hM146 => ?_
   refine block_k fun B147 bn147 bx147 br147 bi147 => ?_
   refine region_k fun K148 hK148 => ?_
   simp only [go_sem, lowB_length, Int.reduceTMod, Int.reduceTDiv, Int.toNat_one, F0, W16.ls, hcq, hs1]
   all_goals repeat' (first | apply And.intro | intro _)
   all_goals refine call_view (fun k => k) (fun _ _ => rfl) (by first | rfl | (simp only [go_sem, lowB_length, Int.reduceTMod, Int.reduceTDiv, Int.toNat_one, F0, W16.ls, hcq, hs1]; rfl) | simp only [go_sem, lowB_length, Int.reduceTMod, Int.reduceTDiv, Int.toNat_one, F0, W16.ls, hcq, hs1]) ((round_of v).plain fun _ _ h => h) ?_
   all_goals (rintro v m ⟨hR, hm⟩; subst hR; subst hm)
   all_goals refine And.intro (by first | rfl | simp only [go_sem, lowB_length, Int.reduceTMod, Int.reduceTDiv, Int.toNat_one, F0, W16.ls, hcq, hs1]) (And.intro (by first | rfl | simp only [go_sem, lowB_length, Int.reduceTMod, Int.reduceTDiv, Int.toNat_one, F0, W16.ls, hcq, hs1]) ?_)
   all_goals simp only [go_sem, lowB_length, Int.reduceTMod, Int.reduceTDiv, Int.toNat_one, F0, W16.ls, hcq, hs1]
   all_goals repeat' (first | apply And.intro | intro _)
   all_goals refine call_view (fun k => k) (fun _ _ => rfl) (by first | rfl | (simp only [go_sem, lowB_length, Int.reduceTMod, Int.reduceTDiv, Int.toNat_one, F0, W16.ls, hcq, hs1]; rfl) | simp only [go_sem, lowB_length, Int.reduceTMod, Int.reduceTDiv, Int.toNat_one, F0, W16.ls, hcq, hs1]) ((shifted_of v.col).plain fun _ _ h => h) ?_
   all_goals (rintro v m ⟨hR, hm⟩; subst hR; subst hm)
   all_goals refine And.intro (by first | rfl | simp only [go_sem, lowB_length, Int.reduceTMod, Int.reduceTDiv, Int.toNat_one, F0, W16.ls, hcq, hs1]) (And.intro (by first | rfl | simp only [go_sem, lowB_length, Int.reduceTMod, Int.reduceTDiv, Int.toNat_one, F0, W16.ls, hcq, hs1]) ?_)
   all_goals simp only [go_sem, lowB_length, Int.reduceTMod, Int.reduceTDiv, Int.toNat_one, F0, W16.ls, hcq, hs1]
   all_goals repeat' (first | apply And.intro | intro _)
   all_goals refine call_view (fun k => k) (fun _ _ => rfl) (by first | rfl | (simp only [go_sem, lowB_length, Int.reduceTMod, Int.reduceTDiv, Int.toNat_one, F0, W16.ls, hcq, hs1]; rfl) | simp only [go_sem, lowB_length, Int.reduceTMod, Int.reduceTDiv, Int.toNat_one, F0, W16.ls, hcq, hs1]) ((round_of v.col.sh).plain fun _ _ h => h) ?_
   all_goals (rintro v m ⟨hR, hm⟩; subst hR; subst hm)
   all_goals refine And.intro (by first | rfl | simp only [go_sem, lowB_length, Int.reduceTMod, Int.reduceTDiv, Int.toNat_one, F0, W16.ls, hcq, hs1]) (And.intro (by first | rfl | simp only [go_sem, lowB_length, Int.reduceTMod, Int.reduceTDiv, Int.toNat_one, F0, W16.ls, hcq, hs1]) ?_)
   all_goals simp only [go_sem, lowB_length, Int.reduceTMod, Int.reduceTDiv, Int.toNat_one, F0, W16.ls, hcq, hs1]
   all_goals repeat' (first | apply And.intro | intro _)
   all_goals refine call_view (fun k => k) (fun _ _ => rfl) (by first | rfl | (simp only [go_sem, lowB_length, Int.reduceTMod, Int.reduceTDiv, Int.toNat_one, F0, W16.ls, hcq, hs1]; rfl) | simp only [go_sem, lowB_length, Int.reduceTMod, Int.reduceTDiv, Int.toNat_one, F0, W16.ls, hcq, hs1]) ((unshifted_of v.col.sh.col).plain fun _ _ h => h) ?_
   all_goals (rintro v m ⟨hR, hm⟩; subst hR; subst hm)
   all_goals refine And.intro (by first | rfl | simp only [go_sem, lowB_length, Int.reduceTMod, Int.reduceTDiv, Int.toNat_one, F0, W16.ls, hcq, hs1]) (And.intro (by first | rfl | simp only [go_sem, lowB_length, Int.reduceTMod, Int.reduceTDiv, Int.toNat_one, F0, W16.ls, hcq, hs1]) ?_)
   all_goals simp only [go_sem, lowB_length, Int.reduceTMod, Int.reduceTDiv, Int.toNat_one, F0, W16.ls, hcq, hs1]
   all_goals repeat' (first | apply And.intro | intro _)
   refine hK148 _ ?_
   refine bn147 _ ?_
   refine hN146 _ ?_
   refine region_k fun K149 hK149 => ?_
   simp only [go_sem, lowB_length, Int.reduceTMod, Int.reduceTDiv, Int.toNat_one, F0, W16.ls, hcq, hs1]
   all_goals repeat' (first | apply And.intro | intro _)
   refine hK149 _ ?_
   refine hN143 ⟨k + 1, hlt⟩ _ ?_ ?_ ?_
   · (exact Nat.sub_lt_sub_left hlt (Nat.lt_succ_self k))
   · (simp only [go_sem, leX, List.cons_append, List.nil_append]; try simp)
   · (simp only [roundN, hv, go_sem, leX, List.cons_append, List.nil_append]; first | done | rfl | (simp [roundN, hv, leX, look]; done))
 · obtain rfl : k = 10 := by omega
   have hcq : ¬ ((10 : Nat) : Int) < 10 := by omega
   obtain ⟨v, hv⟩ : ∃ v, roundN 10 Wi = v := ⟨_, rfl⟩
   simp only [hv]
   refine sr_k fun K150 hK150 => ?_
   simp only [go_sem, lowB_length, Int.reduceTMod, Int.reduceTDiv, Int.toNat_one, F0, hcq]
   all_goals repeat' (first | apply And.intro | intro _)
   refine hK150 _ ?_
   refine seq_k fun N151 M151 hN151 hM151 => ?_
   refine condF_k (by first | rfl | (simp [go_sem, lowB_length, Int.reduceTMod, Int.reduceTDiv, Int.toNat_one, F0, hcq]; done)) ?_
   refine exit_k ?_
   refine hM151 _ _ ?_
   refine hM143 _ _ ?_
   refine bx142 _ ?_
   refine hN140 _ ?_
   refine sr_k fun K152 hK152 => ?_
   simp only [go_sem, lowB_length, Int.reduceTMod, Int.reduceTDiv, Int.toNat_one, F0, hcq]
   all_goals repeat' (first | apply And.intro | intro _)
   refine hK152 _ ?_
   refine seq_k fun N153 M153 hN153 hM153 => ?_
   refine sr_k fun K154 hK154 => ?_
   simp only [go_sem, lowB_length, Int.reduceTMod, Int.reduceTDiv, Int.toNat_one, F0, hcq]
   all_goals repeat' (first | apply And.intro | intro _)
   refine hK154 _ ?_
   refine block_k fun B155 bn155 bx155 br155 bi155 => ?_
   refine ht_dropE [0, 1, 2, 3, 5, 7, 9, 14, 15, 16, 17, 18, 19, 20, 21, 22, 23, 24, 25, 26, 27, 28, 29, 30, 31, 32, 33, 34, 35, 36, 37, 38, 39, 40, 41, 42, 43, 44, 45, 46, 47, 48, 49, 50, 51] ?_
   simp only [dropE_mk, fgt_nil, fgt_cons, List.contains_cons, List.contains_nil, Nat.reduceBEq, beq_self_eq_true, Bool.or_false, Bool.or_true, Bool.true_or, Bool.false_or, Bool.false_eq_true, reduceIte]
   refine loop_k (fun y => [(52, .w (.one (.pl (.i ((y.1.1 : Nat) : Int))))), (11, .w (.one (.pl (.str y.1.2))))]) (fun y => [(10, ⟨false, u32C v.l⟩), (8, ⟨false, u32C Wi.l⟩)]) (fun y => 16 - y.1.1) (⟨(0, []), Nat.zero_le _, rfl, by simp⟩ : {y : Nat × List UInt8 // y.1 ≤ 16 ∧ y.2.length = 4 * y.1 ∧ y.2 ++ zipB (v.l.drop y.1) (Wi.l.drop y.1) = zipB v.l Wi.l}) ?_ ?_ ?_
   · (simp only [go_sem, leX, List.cons_append, List.nil_append]; try simp)
   · (simp only [go_sem, leX, List.cons_append, List.nil_append]; first | done | rfl | (rw [← hrW]; simp [W16.ls, W16.l, u32C, refW, leX, look]; done))
   intro yy N156 M156 hN156 hM156
   simp only [List.cons_append, List.nil_append]
   obtain ⟨⟨i, q⟩, hi, hq, hz⟩ := yy
   simp only at hi hq hz
   have hvl : v.l.length = 16 := rfl
   have hwl : Wi.l.length = 16 := rfl
   rcases Nat.lt_or_ge i 16 with hlt | hge
   · obtain ⟨a, ha⟩ : ∃ a, v.l.getD i 0 = a := ⟨_, rfl⟩
     obtain ⟨b, hb⟩ : ∃ b, Wi.l.getD i 0 = b := ⟨_, rfl⟩
     have hl1 := u32_len v.l
     have hl2 := u32_len Wi.l
     rw [hvl] at hl1
     rw [hwl] at hl2
     have hij : i / 4 * 4 + i % 4 = i := by omega
     have two : ∀ l : List UInt32, l.length = 16 → List.take 1 (List.drop (i % 4) (List.take 4 (List.drop (i / 4 * 4) (u32C l)))) = [.pl (.u32 (l.getD i 0))] := fun l hl => by
      rw [List.drop_take, List.take_take, List.drop_drop, hij, Nat.min_eq_left (by omega), u32_one (by omega)]
     have h1 := two v.l hvl
     have h2 := two Wi.l hwl
     rw [ha] at h1
     rw [hb] at h2
     have hda := drop_cons32 (l := v.l) (j := i) (by omega)
     have hdb := drop_cons32 (l := Wi.l) (j := i) (by omega)
     rw [ha] at hda
     rw [hb] at hdb
     rw [hda, hdb, zipB] at hz
     have hcq : ((i : Nat) : Int) < 16 := by omega
     have htd : ((i : Nat) : Int).tdiv 4 = ((i / 4 : Nat) : Int) := rfl
     have htm : ((i : Nat) : Int).tmod 4 = ((i % 4 : Nat) : Int) := rfl
     have d0 : (0 : Int) ≤ ((i / 4 : Nat) : Int) ∧ ((i / 4 : Nat) : Int) < 4 ∧ (0 : Int) ≤ ((i % 4 : Nat) : Int) ∧ ((i % 4 : Nat) : Int) < 4 := by omega
     have d1 : i / 4 * 4 + 4 ≤ 16 ∧ i % 4 + 1 ≤ 4 := by omega
     have hml : q.length + 4 ≤ 9223372036854775807 := by omega
     obtain ⟨hs1, hw4⟩ : Go.RowKit.wrap64 (((i : Nat) : Int) + 1) = ((i + 1 : Nat) : Int) ∧ Go.RowKit.wrap64 (((i / 4 : Nat) : Int)) = ((i / 4 : Nat) : Int) := ⟨wnat (by omega) (by omega), wnat rfl (by omega)⟩
     have F156 := And.intro h1 <| And.intro h2 <| And.intro hl1 <| And.intro hl2 <| And.intro hcq <| And.intro htd <| And.intro htm <| And.intro d0 <| And.intro d1 <| And.intro hml <| And.intro hs1 <| hw4
     refine sr_k fun K157 hK157 => ?_
     simp only [go_sem, lowB_length, Int.reduceTMod, Int.reduceTDiv, Int.toNat_one, F0, hcq, F156]
     all_goals repeat' (first | apply And.intro | intro _)
     refine hK157 _ ?_
     refine seq_k fun N158 M158 hN158 hM158 => ?_
     refine condT_k (by first | rfl | (simp [go_sem, lowB_length, Int.reduceTMod, Int.reduceTDiv, Int.toNat_one, F0, hcq, F156]; done)) ?_
     refine skip_k ?_
     refine hN158 _ ?_
     refine seq_k fun N159 M159 hN159 hM159 => ?_
     refine block_k fun B160 bn160 bx160 br160 bi160 => ?_
     refine sr_k fun K161 hK161 => ?_
     simp only [go_sem, lowB_length, Int.reduceTMod, Int.reduceTDiv, Int.toNat_one, F0, hcq, F156]
     all_goals repeat' (first | apply And.intro | intro _)
     refine hK161 _ ?_
     refine draw_k [55, 56, 57, 58, 59, 60, 61, 62, 63, 64, 65, 66, 67, 68, 69, 70, 71, 72, 73, 11] [0, 0, 2, 0, 8, 6, 62, 126, 0, 256, 0, 1024, 768, 7936, 16128, 32766, 65534, 131070, 262143, 524287] [] mixed (by kernel_rfl) (by simp only [go_sem]) fun K162 hK162 => ?_
     simp only [go_sem, lowB_length, Int.reduceTMod, Int.reduceTDiv, Int.toNat_one, F0, hcq, F156]
     all_goals repeat' (first | apply And.intro | intro _)
     all_goals refine call_draw (fun k => k) _ [] (fun _ _ => rfl) (by first | rfl | (simp only [go_sem, lowB_length, Int.reduceTMod, Int.reduceTDiv, Int.toNat_one, F0, hcq, F156]; rfl) | simp only [go_sem, lowB_length, Int.reduceTMod, Int.reduceTDiv, Int.toNat_one, F0, hcq, F156]) ((low_ _ 4 (by decide)).plain fun _ _ h => h) ?_ ?_
     all_goals try (refine And.intro ?_ (And.intro ?_ (And.intro ?_ ?_)) <;> first | rfl | simp only [go_sem])
     all_goals simp only [go_sem, lowB_length, Int.reduceTMod, Int.reduceTDiv, Int.toNat_one, F0, hcq, F156]
     all_goals repeat' (first | apply And.intro | intro _)
     refine hK162 _ _ ?_ ?_
     · first | trivial | (simp only [go_sem]; done) | (simp only [go_sem]; simp; done) | (simp only [go_sem]; simp; simp only [go_sem])
     refine bn160 _ ?_
     refine hN159 _ ?_
     refine region_k fun K163 hK163 => ?_
     simp only [go_sem, lowB_length, Int.reduceTMod, Int.reduceTDiv, Int.toNat_one, F0, hcq, F156]
     all_goals repeat' (first | apply And.intro | intro _)
     refine hK163 _ ?_
     refine hN156 ⟨(i + 1, q ++ lowB (a + b).toUInt64 4), hlt, by simp [lowB_length, hq, Nat.mul_add], by rw [← hz, List.append_assoc]⟩ _ ?_ ?_ ?_
     · (exact Nat.sub_lt_sub_left hlt (Nat.lt_succ_self i))
     · (simp only [go_sem, leX, List.cons_append, List.nil_append]; try simp)
     · (simp only [go_sem, leX, List.cons_append, List.nil_append]; try simp)
   · obtain rfl : i = 16 := by omega
     have hcq : ¬ ((16 : Nat) : Int) < 16 := by omega
     have hfin : q = blockV Wi := by
      rw [blockV, hv, ← hz, List.drop_of_length_le (by omega)]; simp [zipB]
     have hq64 : q.length = 64 := by omega
     have htk : List.take 64 q = q := List.take_of_length_le (by omega)
     have hdr : List.drop 64 (List.replicate 64 (0 : UInt8)) = [] := rfl
     have hmi : min 64 64 = 64 := rfl
     have F163 := And.intro hcq <| And.intro hq64 <| And.intro htk <| And.intro hdr <| hmi
     refine sr_k fun K164 hK164 => ?_
     simp only [go_sem, lowB_length, Int.reduceTMod, Int.reduceTDiv, Int.toNat_one, F0, hcq, F163]
     all_goals repeat' (first | apply And.intro | intro _)
     refine hK164 _ ?_
     refine seq_k fun N165 M165 hN165 hM165 => ?_
     refine condF_k (by first | rfl | (simp [go_sem, lowB_length, Int.reduceTMod, Int.reduceTDiv, Int.toNat_one, F0, hcq, F163]; done)) ?_
     refine exit_k ?_
     refine hM165 _ _ ?_
     refine hM156 _ _ ?_
     refine bx155 _ ?_
     refine hN153 _ ?_
     refine sr_k fun K166 hK166 => ?_
     simp only [go_sem, lowB_length, Int.reduceTMod, Int.reduceTDiv, Int.toNat_one, F0, hcq, F163]
     all_goals repeat' (first | apply And.intro | intro _)
     refine hK166 _ ?_
     refine seq_k fun N167 M167 hN167 hM167 => ?_
     refine text_k [75, 76, 77] (by simp only [go_sem]) fun K168 hK168 => ?_
     simp only [go_sem, lowB_length, Int.reduceTMod, Int.reduceTDiv, Int.toNat_one, F0, hcq, F163]
     all_goals repeat' (first | apply And.intro | intro _)
     refine hK168 _ _ ?_
     refine hN167 _ ?_
     refine sr_k fun K169 hK169 => ?_
     simp only [go_sem, lowB_length, Int.reduceTMod, Int.reduceTDiv, Int.toNat_one, F0, hcq, F163]
     all_goals repeat' (first | apply And.intro | intro _)
     refine hK169 _ ?_
     refine ret_k ?_
     simp only [go_sem, lowB_length, Int.reduceTMod, Int.reduceTDiv, Int.toNat_one, F0, hcq, F163]
     all_goals (first | (rw [hfin]; done) | (rw [hfin]; rfl))
theorem same64 {l : List UInt8} (h : l.length = 64) : aggEq Try.prog 45 (bytesC l) (bytesC l) = some true := by
 rw [ae45 (kinds_bytes h) (kinds_bytes h), eqC_bytes rfl]; simp
set_option maxHeartbeats 800000 in
theorem chachablocks (key : List UInt8) (hk : key.length = 32) (counter : UInt32) (nonce : List UInt8) (hn : nonce.length = 12) :
 Ct Try.prog 7 [.w (.agg (bytesC key)), .w (.one (.pl (.u32 counter))), .w (.agg (bytesC nonce))] (fun v m => v = .w (.one (.pl (.b true)))) := by
 have hbl := blockV_length (initW key counter nonce)
 have hsf := same64 hbl
 have F0 := And.intro hk <| And.intro hn <| And.intro hbl <| hsf
 refine Ct.k Try.func7 rfl Try.ntmps7 (congrArg Array.toList Try.results7) (by simp) fun w0 ro => ?_
 refine sr_k fun K1 hK1 => ?_
 simp only [go_sem, F0]
 all_goals repeat' (first | apply And.intro | intro _)
 refine hK1 _ ?_
 refine sr_k fun K2 hK2 => ?_
 simp only [go_sem, F0]
 all_goals repeat' (first | apply And.intro | intro _)
 all_goals refine call_view (fun k => k) (fun _ _ => rfl) (by first | rfl | (simp only [go_sem, F0]; rfl) | simp only [go_sem, F0]) ((block_ key hk counter nonce hn).plain fun _ _ h => h) ?_
 all_goals (rintro v m ⟨hR, hm⟩; subst hR; subst hm)
 all_goals refine And.intro (by first | rfl | simp only [go_sem, F0]) (And.intro (by first | rfl | simp only [go_sem, F0]) ?_)
 all_goals simp only [go_sem, F0]
 all_goals repeat' (first | apply And.intro | intro _)
 refine hK2 _ ?_
 refine sr_k fun K3 hK3 => ?_
 simp only [go_sem, F0]
 all_goals repeat' (first | apply And.intro | intro _)
 all_goals refine call_view (fun k => k) (fun _ _ => rfl) (by first | rfl | (simp only [go_sem, F0]; rfl) | simp only [go_sem, F0]) ((block_of key hk counter nonce hn).plain fun _ _ h => h) ?_
 all_goals (rintro v m ⟨hR, hm⟩; subst hR; subst hm)
 all_goals refine And.intro (by first | rfl | simp only [go_sem, F0]) (And.intro (by first | rfl | simp only [go_sem, F0]) ?_)
 all_goals simp only [go_sem, F0]
 all_goals repeat' (first | apply And.intro | intro _)
 refine hK3 _ ?_
 refine sr_k fun K4 hK4 => ?_
 simp only [go_sem, F0]
 all_goals repeat' (first | apply And.intro | intro _)
 refine hK4 _ ?_
 refine ret_k ?_
 simp only [go_sem, F0]
 all_goals rfl
end Go.Sy
