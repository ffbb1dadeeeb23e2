/- Walks: a block of the stream. -/
import Derived.Test.YthcpkdhojokhdaaveC3
set_option linter.unusedVariables false
set_option linter.unusedSimpArgs false
namespace Go.Sy
open Go.Proofs
attribute [local irreducible] atCall HT runOps runD onC onE onO onG goV goA goS onSt onGuard
structure W16 where
 x0 : UInt32
 x1 : UInt32
 x2 : UInt32
 x3 : UInt32
 x4 : UInt32
 x5 : UInt32
 x6 : UInt32
 x7 : UInt32
 x8 : UInt32
 x9 : UInt32
 x10 : UInt32
 x11 : UInt32
 x12 : UInt32
 x13 : UInt32
 x14 : UInt32
 x15 : UInt32
def W16.l (w : W16) : List UInt32 := [w.x0, w.x1, w.x2, w.x3, w.x4, w.x5, w.x6, w.x7, w.x8, w.x9, w.x10, w.x11, w.x12, w.x13, w.x14, w.x15]
def W16.ls (w : W16) : List L := [.pl (.u32 w.x0), .pl (.u32 w.x1), .pl (.u32 w.x2), .pl (.u32 w.x3), .pl (.u32 w.x4), .pl (.u32 w.x5), .pl (.u32 w.x6), .pl (.u32 w.x7), .pl (.u32 w.x8), .pl (.u32 w.x9), .pl (.u32 w.x10), .pl (.u32 w.x11), .pl (.u32 w.x12), .pl (.u32 w.x13), .pl (.u32 w.x14), .pl (.u32 w.x15)]
theorem W16.ls_l (w : W16) : w.ls = u32C w.l := rfl
def W16.col (w : W16) : W16 := ⟨(qA w.x0 w.x4 w.x8 w.x12), (qA w.x1 w.x5 w.x9 w.x13), (qA w.x2 w.x6 w.x10 w.x14), (qA w.x3 w.x7 w.x11 w.x15), (qB w.x0 w.x4 w.x8 w.x12), (qB w.x1 w.x5 w.x9 w.x13), (qB w.x2 w.x6 w.x10 w.x14), (qB w.x3 w.x7 w.x11 w.x15), (qC w.x0 w.x4 w.x8 w.x12), (qC w.x1 w.x5 w.x9 w.x13), (qC w.x2 w.x6 w.x10 w.x14), (qC w.x3 w.x7 w.x11 w.x15), (qD w.x0 w.x4 w.x8 w.x12), (qD w.x1 w.x5 w.x9 w.x13), (qD w.x2 w.x6 w.x10 w.x14), (qD w.x3 w.x7 w.x11 w.x15)⟩
def W16.diag (w : W16) : W16 := ⟨(qA w.x0 w.x5 w.x10 w.x15), (qA w.x1 w.x6 w.x11 w.x12), (qA w.x2 w.x7 w.x8 w.x13), (qA w.x3 w.x4 w.x9 w.x14), (qB w.x3 w.x4 w.x9 w.x14), (qB w.x0 w.x5 w.x10 w.x15), (qB w.x1 w.x6 w.x11 w.x12), (qB w.x2 w.x7 w.x8 w.x13), (qC w.x2 w.x7 w.x8 w.x13), (qC w.x3 w.x4 w.x9 w.x14), (qC w.x0 w.x5 w.x10 w.x15), (qC w.x1 w.x6 w.x11 w.x12), (qD w.x1 w.x6 w.x11 w.x12), (qD w.x2 w.x7 w.x8 w.x13), (qD w.x3 w.x4 w.x9 w.x14), (qD w.x0 w.x5 w.x10 w.x15)⟩
def roundN : Nat → W16 → W16
 | 0, w => w
 | k + 1, w => (roundN k w).col.diag
/-- the words of the block, written out -/
def zipB : List UInt32 → List UInt32 → List UInt8
 | a :: l, b :: k => lowB (a + b).toUInt64 4 ++ zipB l k
 | _, _ => []
def blockV (w : W16) : List UInt8 := zipB (roundN 10 w).l w.l
def initW (key : List UInt8) (counter : UInt32) (nonce : List UInt8) : W16 := ⟨1634760805, 857760878, 2036477234, 1797285236, wordL (key.drop 0), wordL (key.drop 4), wordL (key.drop 8), wordL (key.drop 12), wordL (key.drop 16), wordL (key.drop 20), wordL (key.drop 24), wordL (key.drop 28), counter, wordL (nonce.drop 0), wordL (nonce.drop 4), wordL (nonce.drop 8)⟩
theorem zipB_length : ∀ (a b : List UInt32), a.length = b.length → (zipB a b).length = 4 * a.length
 | [], [], _ => rfl
 | [], _ :: _, h => by simp at h
 | _ :: _, [], h => by simp at h
 | a :: l, b :: k, h => by
  simp only [zipB, List.length_append, lowB_length, List.length_cons, zipB_length l k (by simpa using h)]; omega
theorem blockV_length (w : W16) : (blockV w).length = 64 := zipB_length _ _ rfl
theorem u32_one {l : List UInt32} {i : Nat} (h : i < l.length) : List.take 1 (List.drop i (u32C l)) = [.pl (.u32 (l.getD i 0))] := by
 rw [List.drop_eq_getElem_cons (by simpa [u32C] using h), List.take_succ_cons, List.take_zero]
 simp [u32C, List.getD, List.getElem?_eq_getElem h]
theorem u32_len (l : List UInt32) : (u32C l).length = l.length := by simp [u32C]
theorem u32_any (k : Nat) (l : List UInt32) : (u32C l).any (L.has k) = false := by
 rw [List.any_eq_false]
 intro x hx
 obtain ⟨y, _, rfl⟩ := List.mem_map.mp hx
 simp [L.has]
theorem u32_kill (k : Nat) (l : List UInt32) : (u32C l).map (killL k) = u32C l := by simp only [u32C, List.map_map]; rfl
theorem ls_any (k : Nat) (w : W16) : w.ls.any (L.has k) = false := by rw [W16.ls_l]; exact u32_any k _
theorem ls_kill (k : Nat) (w : W16) : w.ls.map (killL k) = w.ls := by rw [W16.ls_l]; exact u32_kill k _
attribute [go_sem] u32_any u32_kill ls_any ls_kill
theorem drop_cons32 {l : List UInt32} {j : Nat} (h : j < l.length) : l.drop j = l.getD j 0 :: l.drop (j + 1) := by
 rw [List.drop_eq_getElem_cons h]; congr 1; simp [List.getD, List.getElem?_eq_getElem h]
theorem put_set {q : List UInt8} {j : Nat} (x : UInt8) (h : j < q.length) : bytesC (List.take j q) ++ [L.pl (PL.u8 x)] ++ bytesC (List.drop (j + 1) q) = bytesC (q.set j x) := by
 rw [List.set_eq_take_append_cons_drop, if_pos h]; simp [bytesC]
theorem lowB4 (x : UInt32) : lowB x.toUInt64 4 = [(shr32 x 0).toUInt8, (shr32 x 8).toUInt8, (shr32 x 16).toUInt8, (shr32 x 24).toUInt8] := by
 have e : ∀ y : UInt64, (y / 256).toNat = y.toNat / 256 := fun y => by rw [UInt64.toNat_div]; rfl
 have hx := x.toNat_lt
 have s : ∀ k : Nat, (shr32 x k).toNat = x.toNat / 2 ^ k := fun k => by
  have h2 : x.toNat / 2 ^ k ≤ x.toNat := Nat.div_le_self _ _
  simp only [shr32, UInt32.toNat_ofNat']
  exact Nat.mod_eq_of_lt (by omega)
 have g : ∀ (y : UInt32) (n : Nat), y.toNat = n → UInt8.ofNat n = y.toUInt8 := fun y n h => by
  apply UInt8.toNat_inj.mp
  rw [← h, UInt8.toNat_ofNat', UInt32.toNat_toUInt8]
 simp only [lowB, List.cons.injEq, and_true]
 refine ⟨?_, ?_, ?_, ?_⟩
 all_goals refine g _ _ ?_
 all_goals simp only [s, e, UInt32.toNat_toUInt64, Nat.div_div_eq_div_mul]
 all_goals simp
theorem set4 {q : List UInt8} {j : Nat} (h : j + 4 ≤ q.length) (a b c d : UInt8) : ((((q.set j a).set (j + 1) b).set (j + 2) c).set (j + 3) d).take (j + 4) = q.take j ++ [a, b, c, d] := by
 apply List.ext_getElem
 · simp; omega
 · intro i h1 h2
   simp only [List.length_take, List.length_set] at h1
   rw [List.getElem_take]
   simp only [List.getElem_set]
   rcases Nat.lt_or_ge i j with g | g
   · rw [if_neg (by omega), if_neg (by omega), if_neg (by omega), if_neg (by omega), List.getElem_append_left (by simp; omega), List.getElem_take]
   · rw [List.getElem_append_right (by simp; omega)]
     have hj : (q.take j).length = j := by rw [List.length_take]; omega
     have : i = j ∨ i = j + 1 ∨ i = j + 2 ∨ i = j + 3 := by omega
     rcases this with rfl | rfl | rfl | rfl
     all_goals simp [hj]
set_option maxHeartbeats 3200000 in
set_option maxRecDepth 100000 in
theorem block_ (key : List UInt8) (hk : key.length = 32) (counter : UInt32) (nonce : List UInt8) (hn : nonce.length = 12) :
 Ct Try.prog 24 [.w (.agg (bytesC key)), .w (.one (.pl (.u32 counter))), .w (.agg (bytesC nonce))] (fun v m => v = .w (.agg (bytesC (blockV (initW key counter nonce))))) := by
 obtain ⟨Wi, hW⟩ : ∃ Wi, initW key counter nonce = Wi := ⟨_, rfl⟩
 rw [hW]
 refine Ct.k Try.func24 rfl Try.ntmps24 (congrArg Array.toList Try.results24) (by simp) fun w0 ro => ?_
 refine sr_k fun K1 hK1 => ?_
 simp only [go_sem, hk, hn, chunks_bytes', List.length_drop, List.length_take, Int.reduceTMod, Int.toNat_one]
 all_goals repeat' (first | apply And.intro | intro _)
 refine hK1 _ ?_
 refine sr_k fun K2 hK2 => ?_
 simp only [go_sem, hk, hn, chunks_bytes', List.length_drop, List.length_take, Int.reduceTMod, Int.toNat_one]
 all_goals repeat' (first | apply And.intro | intro _)
 refine hK2 _ ?_
 refine seq_k fun N3 M3 hN3 hM3 => ?_
 refine sr_k fun K4 hK4 => ?_
 simp only [go_sem, hk, hn, chunks_bytes', List.length_drop, List.length_take, Int.reduceTMod, Int.toNat_one]
 all_goals repeat' (first | apply And.intro | intro _)
 refine hK4 _ ?_
 refine block_k fun B5 bn5 bx5 br5 bi5 => ?_
 refine rounds_k 9 ?_
 refine rnd_k fun N7 M7 hN7 hM7 => ?_
 refine sr_k fun K8 hK8 => ?_
 simp only [go_sem, hk, hn, chunks_bytes', List.length_drop, List.length_take, Int.reduceTMod, Int.toNat_one]
 all_goals repeat' (first | apply And.intro | intro _)
 refine hK8 _ ?_
 refine seq_k fun N9 M9 hN9 hM9 => ?_
 refine condT_k (by first | rfl | (simp [go_sem, hk, hn, chunks_bytes', List.length_drop, List.length_take, Int.reduceTMod, Int.toNat_one]; done)) ?_
 refine skip_k ?_
 refine hN9 _ ?_
 refine seq_k fun N10 M10 hN10 hM10 => ?_
 refine block_k fun B11 bn11 bx11 br11 bi11 => ?_
 refine sr_k fun K12 hK12 => ?_
 simp only [go_sem, hk, hn, chunks_bytes', List.length_drop, List.length_take, Int.reduceTMod, Int.toNat_one]
 all_goals repeat' (first | apply And.intro | intro _)
 refine hK12 _ ?_
 refine region_k fun K13 hK13 => ?_
 simp only [go_sem, hk, hn, chunks_bytes', List.length_drop, List.length_take, Int.reduceTMod, Int.toNat_one]
 all_goals repeat' (first | apply And.intro | intro _)
 all_goals refine call_view (fun k => k) (fun _ _ => rfl) (by first | rfl | (simp only [go_sem, hk, hn, chunks_bytes', List.length_drop, List.length_take, Int.reduceTMod, Int.toNat_one]; rfl) | simp only [go_sem, hk, hn, chunks_bytes', List.length_drop, List.length_take, Int.reduceTMod, Int.toNat_one]) ((word_ _ (by first | (simp [hk]; done) | (simp [hn]; done) | (simp only [List.length_drop, List.length_take, hk, hn]; omega)) _).plain fun _ _ h => h) ?_
 all_goals (rintro v m ⟨hR, hm⟩; subst hR; subst hm)
 all_goals refine And.intro (by first | rfl | simp only [go_sem, hk, hn, chunks_bytes', List.length_drop, List.length_take, Int.reduceTMod, Int.toNat_one]) (And.intro (by first | rfl | simp only [go_sem, hk, hn, chunks_bytes', List.length_drop, List.length_take, Int.reduceTMod, Int.toNat_one]) ?_)
 all_goals simp only [go_sem, hk, hn, chunks_bytes', List.length_drop, List.length_take, Int.reduceTMod, Int.toNat_one]
 all_goals repeat' (first | apply And.intro | intro _)
 refine hK13 _ ?_
 refine bn11 _ ?_
 refine hN10 _ ?_
 refine region_k fun K14 hK14 => ?_
 simp only [go_sem, hk, hn, chunks_bytes', List.length_drop, List.length_take, Int.reduceTMod, Int.toNat_one]
 all_goals repeat' (first | apply And.intro | intro _)
 refine hK14 _ ?_
 refine hN7 _ ?_
 refine rnd_forget [8, 20, 21, 22, 23, 24, 25, 26, 27, 28, 29] ?_
 simp only [go_sem, St.forget, fgt]
 refine rnd_k fun N15 M15 hN15 hM15 => ?_
 refine sr_k fun K16 hK16 => ?_
 simp only [go_sem, hk, hn, chunks_bytes', List.length_drop, List.length_take, Int.reduceTMod, Int.toNat_one]
 all_goals repeat' (first | apply And.intro | intro _)
 refine hK16 _ ?_
 refine seq_k fun N17 M17 hN17 hM17 => ?_
 refine condT_k (by first | rfl | (simp [go_sem, hk, hn, chunks_bytes', List.length_drop, List.length_take, Int.reduceTMod, Int.toNat_one]; done)) ?_
 refine skip_k ?_
 refine hN17 _ ?_
 refine seq_k fun N18 M18 hN18 hM18 => ?_
 refine block_k fun B19 bn19 bx19 br19 bi19 => ?_
 refine sr_k fun K20 hK20 => ?_
 simp only [go_sem, hk, hn, chunks_bytes', List.length_drop, List.length_take, Int.reduceTMod, Int.toNat_one]
 all_goals repeat' (first | apply And.intro | intro _)
 refine hK20 _ ?_
 refine region_k fun K21 hK21 => ?_
 simp only [go_sem, hk, hn, chunks_bytes', List.length_drop, List.length_take, Int.reduceTMod, Int.toNat_one]
 all_goals repeat' (first | apply And.intro | intro _)
 all_goals refine call_view (fun k => k) (fun _ _ => rfl) (by first | rfl | (simp only [go_sem, hk, hn, chunks_bytes', List.length_drop, List.length_take, Int.reduceTMod, Int.toNat_one]; rfl) | simp only [go_sem, hk, hn, chunks_bytes', List.length_drop, List.length_take, Int.reduceTMod, Int.toNat_one]) ((word_ _ (by first | (simp [hk]; done) | (simp [hn]; done) | (simp only [List.length_drop, List.length_take, hk, hn]; omega)) _).plain fun _ _ h => h) ?_
 all_goals (rintro v m ⟨hR, hm⟩; subst hR; subst hm)
 all_goals refine And.intro (by first | rfl | simp only [go_sem, hk, hn, chunks_bytes', List.length_drop, List.length_take, Int.reduceTMod, Int.toNat_one]) (And.intro (by first | rfl | simp only [go_sem, hk, hn, chunks_bytes', List.length_drop, List.length_take, Int.reduceTMod, Int.toNat_one]) ?_)
 all_goals simp only [go_sem, hk, hn, chunks_bytes', List.length_drop, List.length_take, Int.reduceTMod, Int.toNat_one]
 all_goals repeat' (first | apply And.intro | intro _)
 refine hK21 _ ?_
 refine bn19 _ ?_
 refine hN18 _ ?_
 refine region_k fun K22 hK22 => ?_
 simp only [go_sem, hk, hn, chunks_bytes', List.length_drop, List.length_take, Int.reduceTMod, Int.toNat_one]
 all_goals repeat' (first | apply And.intro | intro _)
 refine hK22 _ ?_
 refine hN15 _ ?_
 refine rnd_forget [8, 20, 21, 22, 23, 24, 25, 26, 27, 28, 29] ?_
 simp only [go_sem, St.forget, fgt]
 refine rnd_k fun N23 M23 hN23 hM23 => ?_
 refine sr_k fun K24 hK24 => ?_
 simp only [go_sem, hk, hn, chunks_bytes', List.length_drop, List.length_take, Int.reduceTMod, Int.toNat_one]
 all_goals repeat' (first | apply And.intro | intro _)
 refine hK24 _ ?_
 refine seq_k fun N25 M25 hN25 hM25 => ?_
 refine condT_k (by first | rfl | (simp [go_sem, hk, hn, chunks_bytes', List.length_drop, List.length_take, Int.reduceTMod, Int.toNat_one]; done)) ?_
 refine skip_k ?_
 refine hN25 _ ?_
 refine seq_k fun N26 M26 hN26 hM26 => ?_
 refine block_k fun B27 bn27 bx27 br27 bi27 => ?_
 refine sr_k fun K28 hK28 => ?_
 simp only [go_sem, hk, hn, chunks_bytes', List.length_drop, List.length_take, Int.reduceTMod, Int.toNat_one]
 all_goals repeat' (first | apply And.intro | intro _)
 refine hK28 _ ?_
 refine region_k fun K29 hK29 => ?_
 simp only [go_sem, hk, hn, chunks_bytes', List.length_drop, List.length_take, Int.reduceTMod, Int.toNat_one]
 all_goals repeat' (first | apply And.intro | intro _)
 all_goals refine call_view (fun k => k) (fun _ _ => rfl) (by first | rfl | (simp only [go_sem, hk, hn, chunks_bytes', List.length_drop, List.length_take, Int.reduceTMod, Int.toNat_one]; rfl) | simp only [go_sem, hk, hn, chunks_bytes', List.length_drop, List.length_take, Int.reduceTMod, Int.toNat_one]) ((word_ _ (by first | (simp [hk]; done) | (simp [hn]; done) | (simp only [List.length_drop, List.length_take, hk, hn]; omega)) _).plain fun _ _ h => h) ?_
 all_goals (rintro v m ⟨hR, hm⟩; subst hR; subst hm)
 all_goals refine And.intro (by first | rfl | simp only [go_sem, hk, hn, chunks_bytes', List.length_drop, List.length_take, Int.reduceTMod, Int.toNat_one]) (And.intro (by first | rfl | simp only [go_sem, hk, hn, chunks_bytes', List.length_drop, List.length_take, Int.reduceTMod, Int.toNat_one]) ?_)
 all_goals simp only [go_sem, hk, hn, chunks_bytes', List.length_drop, List.length_take, Int.reduceTMod, Int.toNat_one]
 all_goals repeat' (first | apply And.intro | intro _)
 refine hK29 _ ?_
 refine bn27 _ ?_
 refine hN26 _ ?_
 refine region_k fun K30 hK30 => ?_
 simp only [go_sem, hk, hn, chunks_bytes', List.length_drop, List.length_take, Int.reduceTMod, Int.toNat_one]
 all_goals repeat' (first | apply And.intro | intro _)
 refine hK30 _ ?_
 refine hN23 _ ?_
 refine rnd_forget [8, 20, 21, 22, 23, 24, 25, 26, 27, 28, 29] ?_
 simp only [go_sem, St.forget, fgt]
 refine rnd_k fun N31 M31 hN31 hM31 => ?_
 refine sr_k fun K32 hK32 => ?_
 simp only [go_sem, hk, hn, chunks_bytes', List.length_drop, List.length_take, Int.reduceTMod, Int.toNat_one]
 all_goals repeat' (first | apply And.intro | intro _)
 refine hK32 _ ?_
 refine seq_k fun N33 M33 hN33 hM33 => ?_
 refine condT_k (by first | rfl | (simp [go_sem, hk, hn, chunks_bytes', List.length_drop, List.length_take, Int.reduceTMod, Int.toNat_one]; done)) ?_
 refine skip_k ?_
 refine hN33 _ ?_
 refine seq_k fun N34 M34 hN34 hM34 => ?_
 refine block_k fun B35 bn35 bx35 br35 bi35 => ?_
 refine sr_k fun K36 hK36 => ?_
 simp only [go_sem, hk, hn, chunks_bytes', List.length_drop, List.length_take, Int.reduceTMod, Int.toNat_one]
 all_goals repeat' (first | apply And.intro | intro _)
 refine hK36 _ ?_
 refine region_k fun K37 hK37 => ?_
 simp only [go_sem, hk, hn, chunks_bytes', List.length_drop, List.length_take, Int.reduceTMod, Int.toNat_one]
 all_goals repeat' (first | apply And.intro | intro _)
 all_goals refine call_view (fun k => k) (fun _ _ => rfl) (by first | rfl | (simp only [go_sem, hk, hn, chunks_bytes', List.length_drop, List.length_take, Int.reduceTMod, Int.toNat_one]; rfl) | simp only [go_sem, hk, hn, chunks_bytes', List.length_drop, List.length_take, Int.reduceTMod, Int.toNat_one]) ((word_ _ (by first | (simp [hk]; done) | (simp [hn]; done) | (simp only [List.length_drop, List.length_take, hk, hn]; omega)) _).plain fun _ _ h => h) ?_
 all_goals (rintro v m ⟨hR, hm⟩; subst hR; subst hm)
 all_goals refine And.intro (by first | rfl | simp only [go_sem, hk, hn, chunks_bytes', List.length_drop, List.length_take, Int.reduceTMod, Int.toNat_one]) (And.intro (by first | rfl | simp only [go_sem, hk, hn, chunks_bytes', List.length_drop, List.length_take, Int.reduceTMod, Int.toNat_one]) ?_)
 all_goals simp only [go_sem, hk, hn, chunks_bytes', List.length_drop, List.length_take, Int.reduceTMod, Int.toNat_one]
 all_goals repeat' (first | apply And.intro | intro _)
 refine hK37 _ ?_
 refine bn35 _ ?_
 refine hN34 _ ?_
 refine region_k fun K38 hK38 => ?_
 simp only [go_sem, hk, hn, chunks_bytes', List.length_drop, List.length_take, Int.reduceTMod, Int.toNat_one]
 all_goals repeat' (first | apply And.intro | intro _)
 refine hK38 _ ?_
 refine hN31 _ ?_
 refine rnd_forget [8, 20, 21, 22, 23, 24, 25, 26, 27, 28, 29] ?_
 simp only [go_sem, St.forget, fgt]
 refine rnd_k fun N39 M39 hN39 hM39 => ?_
 refine sr_k fun K40 hK40 => ?_
 simp only [go_sem, hk, hn, chunks_bytes', List.length_drop, List.length_take, Int.reduceTMod, Int.toNat_one]
 all_goals repeat' (first | apply And.intro | intro _)
 refine hK40 _ ?_
 refine seq_k fun N41 M41 hN41 hM41 => ?_
 refine condT_k (by first | rfl | (simp [go_sem, hk, hn, chunks_bytes', List.length_drop, List.length_take, Int.reduceTMod, Int.toNat_one]; done)) ?_
 refine skip_k ?_
 refine hN41 _ ?_
 refine seq_k fun N42 M42 hN42 hM42 => ?_
 refine block_k fun B43 bn43 bx43 br43 bi43 => ?_
 refine sr_k fun K44 hK44 => ?_
 simp only [go_sem, hk, hn, chunks_bytes', List.length_drop, List.length_take, Int.reduceTMod, Int.toNat_one]
 all_goals repeat' (first | apply And.intro | intro _)
 refine hK44 _ ?_
 refine region_k fun K45 hK45 => ?_
 simp only [go_sem, hk, hn, chunks_bytes', List.length_drop, List.length_take, Int.reduceTMod, Int.toNat_one]
 all_goals repeat' (first | apply And.intro | intro _)
 all_goals refine call_view (fun k => k) (fun _ _ => rfl) (by first | rfl | (simp only [go_sem, hk, hn, chunks_bytes', List.length_drop, List.length_take, Int.reduceTMod, Int.toNat_one]; rfl) | simp only [go_sem, hk, hn, chunks_bytes', List.length_drop, List.length_take, Int.reduceTMod, Int.toNat_one]) ((word_ _ (by first | (simp [hk]; done) | (simp [hn]; done) | (simp only [List.length_drop, List.length_take, hk, hn]; omega)) _).plain fun _ _ h => h) ?_
 all_goals (rintro v m ⟨hR, hm⟩; subst hR; subst hm)
 all_goals refine And.intro (by first | rfl | simp only [go_sem, hk, hn, chunks_bytes', List.length_drop, List.length_take, Int.reduceTMod, Int.toNat_one]) (And.intro (by first | rfl | simp only [go_sem, hk, hn, chunks_bytes', List.length_drop, List.length_take, Int.reduceTMod, Int.toNat_one]) ?_)
 all_goals simp only [go_sem, hk, hn, chunks_bytes', List.length_drop, List.length_take, Int.reduceTMod, Int.toNat_one]
 all_goals repeat' (first | apply And.intro | intro _)
 refine hK45 _ ?_
 refine bn43 _ ?_
 refine hN42 _ ?_
 refine region_k fun K46 hK46 => ?_
 simp only [go_sem, hk, hn, chunks_bytes', List.length_drop, List.length_take, Int.reduceTMod, Int.toNat_one]
 all_goals repeat' (first | apply And.intro | intro _)
 refine hK46 _ ?_
 refine hN39 _ ?_
 refine rnd_forget [8, 20, 21, 22, 23, 24, 25, 26, 27, 28, 29] ?_
 simp only [go_sem, St.forget, fgt]
 refine rnd_k fun N47 M47 hN47 hM47 => ?_
 refine sr_k fun K48 hK48 => ?_
 simp only [go_sem, hk, hn, chunks_bytes', List.length_drop, List.length_take, Int.reduceTMod, Int.toNat_one]
 all_goals repeat' (first | apply And.intro | intro _)
 refine hK48 _ ?_
 refine seq_k fun N49 M49 hN49 hM49 => ?_
 refine condT_k (by first | rfl | (simp [go_sem, hk, hn, chunks_bytes', List.length_drop, List.length_take, Int.reduceTMod, Int.toNat_one]; done)) ?_
 refine skip_k ?_
 refine hN49 _ ?_
 refine seq_k fun N50 M50 hN50 hM50 => ?_
 refine block_k fun B51 bn51 bx51 br51 bi51 => ?_
 refine sr_k fun K52 hK52 => ?_
 simp only [go_sem, hk, hn, chunks_bytes', List.length_drop, List.length_take, Int.reduceTMod, Int.toNat_one]
 all_goals repeat' (first | apply And.intro | intro _)
 refine hK52 _ ?_
 refine region_k fun K53 hK53 => ?_
 simp only [go_sem, hk, hn, chunks_bytes', List.length_drop, List.length_take, Int.reduceTMod, Int.toNat_one]
 all_goals repeat' (first | apply And.intro | intro _)
 all_goals refine call_view (fun k => k) (fun _ _ => rfl) (by first | rfl | (simp only [go_sem, hk, hn, chunks_bytes', List.length_drop, List.length_take, Int.reduceTMod, Int.toNat_one]; rfl) | simp only [go_sem, hk, hn, chunks_bytes', List.length_drop, List.length_take, Int.reduceTMod, Int.toNat_one]) ((word_ _ (by first | (simp [hk]; done) | (simp [hn]; done) | (simp only [List.length_drop, List.length_take, hk, hn]; omega)) _).plain fun _ _ h => h) ?_
 all_goals (rintro v m ⟨hR, hm⟩; subst hR; subst hm)
 all_goals refine And.intro (by first | rfl | simp only [go_sem, hk, hn, chunks_bytes', List.length_drop, List.length_take, Int.reduceTMod, Int.toNat_one]) (And.intro (by first | rfl | simp only [go_sem, hk, hn, chunks_bytes', List.length_drop, List.length_take, Int.reduceTMod, Int.toNat_one]) ?_)
 all_goals simp only [go_sem, hk, hn, chunks_bytes', List.length_drop, List.length_take, Int.reduceTMod, Int.toNat_one]
 all_goals repeat' (first | apply And.intro | intro _)
 refine hK53 _ ?_
 refine bn51 _ ?_
 refine hN50 _ ?_
 refine region_k fun K54 hK54 => ?_
 simp only [go_sem, hk, hn, chunks_bytes', List.length_drop, List.length_take, Int.reduceTMod, Int.toNat_one]
 all_goals repeat' (first | apply And.intro | intro _)
 refine hK54 _ ?_
 refine hN47 _ ?_
 refine rnd_forget [8, 20, 21, 22, 23, 24, 25, 26, 27, 28, 29] ?_
 simp only [go_sem, St.forget, fgt]
 refine rnd_k fun N55 M55 hN55 hM55 => ?_
 refine sr_k fun K56 hK56 => ?_
 simp only [go_sem, hk, hn, chunks_bytes', List.length_drop, List.length_take, Int.reduceTMod, Int.toNat_one]
 all_goals repeat' (first | apply And.intro | intro _)
 refine hK56 _ ?_
 refine seq_k fun N57 M57 hN57 hM57 => ?_
 refine condT_k (by first | rfl | (simp [go_sem, hk, hn, chunks_bytes', List.length_drop, List.length_take, Int.reduceTMod, Int.toNat_one]; done)) ?_
 refine skip_k ?_
 refine hN57 _ ?_
 refine seq_k fun N58 M58 hN58 hM58 => ?_
 refine block_k fun B59 bn59 bx59 br59 bi59 => ?_
 refine sr_k fun K60 hK60 => ?_
 simp only [go_sem, hk, hn, chunks_bytes', List.length_drop, List.length_take, Int.reduceTMod, Int.toNat_one]
 all_goals repeat' (first | apply And.intro | intro _)
 refine hK60 _ ?_
 refine region_k fun K61 hK61 => ?_
 simp only [go_sem, hk, hn, chunks_bytes', List.length_drop, List.length_take, Int.reduceTMod, Int.toNat_one]
 all_goals repeat' (first | apply And.intro | intro _)
 all_goals refine call_view (fun k => k) (fun _ _ => rfl) (by first | rfl | (simp only [go_sem, hk, hn, chunks_bytes', List.length_drop, List.length_take, Int.reduceTMod, Int.toNat_one]; rfl) | simp only [go_sem, hk, hn, chunks_bytes', List.length_drop, List.length_take, Int.reduceTMod, Int.toNat_one]) ((word_ _ (by first | (simp [hk]; done) | (simp [hn]; done) | (simp only [List.length_drop, List.length_take, hk, hn]; omega)) _).plain fun _ _ h => h) ?_
 all_goals (rintro v m ⟨hR, hm⟩; subst hR; subst hm)
 all_goals refine And.intro (by first | rfl | simp only [go_sem, hk, hn, chunks_bytes', List.length_drop, List.length_take, Int.reduceTMod, Int.toNat_one]) (And.intro (by first | rfl | simp only [go_sem, hk, hn, chunks_bytes', List.length_drop, List.length_take, Int.reduceTMod, Int.toNat_one]) ?_)
 all_goals simp only [go_sem, hk, hn, chunks_bytes', List.length_drop, List.length_take, Int.reduceTMod, Int.toNat_one]
 all_goals repeat' (first | apply And.intro | intro _)
 refine hK61 _ ?_
 refine bn59 _ ?_
 refine hN58 _ ?_
 refine region_k fun K62 hK62 => ?_
 simp only [go_sem, hk, hn, chunks_bytes', List.length_drop, List.length_take, Int.reduceTMod, Int.toNat_one]
 all_goals repeat' (first | apply And.intro | intro _)
 refine hK62 _ ?_
 refine hN55 _ ?_
 refine rnd_forget [8, 20, 21, 22, 23, 24, 25, 26, 27, 28, 29] ?_
 simp only [go_sem, St.forget, fgt]
 refine rnd_k fun N63 M63 hN63 hM63 => ?_
 refine sr_k fun K64 hK64 => ?_
 simp only [go_sem, hk, hn, chunks_bytes', List.length_drop, List.length_take, Int.reduceTMod, Int.toNat_one]
 all_goals repeat' (first | apply And.intro | intro _)
 refine hK64 _ ?_
 refine seq_k fun N65 M65 hN65 hM65 => ?_
 refine condT_k (by first | rfl | (simp [go_sem, hk, hn, chunks_bytes', List.length_drop, List.length_take, Int.reduceTMod, Int.toNat_one]; done)) ?_
 refine skip_k ?_
 refine hN65 _ ?_
 refine seq_k fun N66 M66 hN66 hM66 => ?_
 refine block_k fun B67 bn67 bx67 br67 bi67 => ?_
 refine sr_k fun K68 hK68 => ?_
 simp only [go_sem, hk, hn, chunks_bytes', List.length_drop, List.length_take, Int.reduceTMod, Int.toNat_one]
 all_goals repeat' (first | apply And.intro | intro _)
 refine hK68 _ ?_
 refine region_k fun K69 hK69 => ?_
 simp only [go_sem, hk, hn, chunks_bytes', List.length_drop, List.length_take, Int.reduceTMod, Int.toNat_one]
 all_goals repeat' (first | apply And.intro | intro _)
 all_goals refine call_view (fun k => k) (fun _ _ => rfl) (by first | rfl | (simp only [go_sem, hk, hn, chunks_bytes', List.length_drop, List.length_take, Int.reduceTMod, Int.toNat_one]; rfl) | simp only [go_sem, hk, hn, chunks_bytes', List.length_drop, List.length_take, Int.reduceTMod, Int.toNat_one]) ((word_ _ (by first | (simp [hk]; done) | (simp [hn]; done) | (simp only [List.length_drop, List.length_take, hk, hn]; omega)) _).plain fun _ _ h => h) ?_
 all_goals (rintro v m ⟨hR, hm⟩; subst hR; subst hm)
 all_goals refine And.intro (by first | rfl | simp only [go_sem, hk, hn, chunks_bytes', List.length_drop, List.length_take, Int.reduceTMod, Int.toNat_one]) (And.intro (by first | rfl | simp only [go_sem, hk, hn, chunks_bytes', List.length_drop, List.length_take, Int.reduceTMod, Int.toNat_one]) ?_)
 all_goals simp only [go_sem, hk, hn, chunks_bytes', List.length_drop, List.length_take, Int.reduceTMod, Int.toNat_one]
 all_goals repeat' (first | apply And.intro | intro _)
 refine hK69 _ ?_
 refine bn67 _ ?_
 refine hN66 _ ?_
 refine region_k fun K70 hK70 => ?_
 simp only [go_sem, hk, hn, chunks_bytes', List.length_drop, List.length_take, Int.reduceTMod, Int.toNat_one]
 all_goals repeat' (first | apply And.intro | intro _)
 refine hK70 _ ?_
 refine hN63 _ ?_
 refine rnd_forget [8, 20, 21, 22, 23, 24, 25, 26, 27, 28, 29] ?_
 simp only [go_sem, St.forget, fgt]
 refine rnd_k fun N71 M71 hN71 hM71 => ?_
 refine sr_k fun K72 hK72 => ?_
 simp only [go_sem, hk, hn, chunks_bytes', List.length_drop, List.length_take, Int.reduceTMod, Int.toNat_one]
 all_goals repeat' (first | apply And.intro | intro _)
 refine hK72 _ ?_
 refine seq_k fun N73 M73 hN73 hM73 => ?_
 refine condF_k (by first | rfl | (simp [go_sem, hk, hn, chunks_bytes', List.length_drop, List.length_take, Int.reduceTMod, Int.toNat_one]; done)) ?_
 refine exit_k ?_
 refine hM73 _ _ ?_
 refine hM71 _ _ ?_
 refine bx5 _ ?_
 refine hN3 _ ?_
 refine seq_k fun N74 M74 hN74 hM74 => ?_
 refine sr_k fun K75 hK75 => ?_
 simp only [go_sem, hk, hn, chunks_bytes', List.length_drop, List.length_take, Int.reduceTMod, Int.toNat_one]
 all_goals repeat' (first | apply And.intro | intro _)
 refine hK75 _ ?_
 refine block_k fun B76 bn76 bx76 br76 bi76 => ?_
 refine rounds_k 4 ?_
 refine rnd_k fun N78 M78 hN78 hM78 => ?_
 refine sr_k fun K79 hK79 => ?_
 simp only [go_sem, hk, hn, chunks_bytes', List.length_drop, List.length_take, Int.reduceTMod, Int.toNat_one]
 all_goals repeat' (first | apply And.intro | intro _)
 refine hK79 _ ?_
 refine seq_k fun N80 M80 hN80 hM80 => ?_
 refine condT_k (by first | rfl | (simp [go_sem, hk, hn, chunks_bytes', List.length_drop, List.length_take, Int.reduceTMod, Int.toNat_one]; done)) ?_
 refine skip_k ?_
 refine hN80 _ ?_
 refine seq_k fun N81 M81 hN81 hM81 => ?_
 refine block_k fun B82 bn82 bx82 br82 bi82 => ?_
 refine sr_k fun K83 hK83 => ?_
 simp only [go_sem, hk, hn, chunks_bytes', List.length_drop, List.length_take, Int.reduceTMod, Int.toNat_one]
 all_goals repeat' (first | apply And.intro | intro _)
 refine hK83 _ ?_
 refine region_k fun K84 hK84 => ?_
 simp only [go_sem, hk, hn, chunks_bytes', List.length_drop, List.length_take, Int.reduceTMod, Int.toNat_one]
 all_goals repeat' (first | apply And.intro | intro _)
 all_goals refine call_view (fun k => k) (fun _ _ => rfl) (by first | rfl | (simp only [go_sem, hk, hn, chunks_bytes', List.length_drop, List.length_take, Int.reduceTMod, Int.toNat_one]; rfl) | simp only [go_sem, hk, hn, chunks_bytes', List.length_drop, List.length_take, Int.reduceTMod, Int.toNat_one]) ((word_ _ (by first | (simp [hk]; done) | (simp [hn]; done) | (simp only [List.length_drop, List.length_take, hk, hn]; omega)) _).plain fun _ _ h => h) ?_
 all_goals (rintro v m ⟨hR, hm⟩; subst hR; subst hm)
 all_goals refine And.intro (by first | rfl | simp only [go_sem, hk, hn, chunks_bytes', List.length_drop, List.length_take, Int.reduceTMod, Int.toNat_one]) (And.intro (by first | rfl | simp only [go_sem, hk, hn, chunks_bytes', List.length_drop, List.length_take, Int.reduceTMod, Int.toNat_one]) ?_)
 all_goals simp only [go_sem, hk, hn, chunks_bytes', List.length_drop, List.length_take, Int.reduceTMod, Int.toNat_one]
 all_goals repeat' (first | apply And.intro | intro _)
 refine hK84 _ ?_
 refine bn82 _ ?_
 refine hN81 _ ?_
 refine region_k fun K85 hK85 => ?_
 simp only [go_sem, hk, hn, chunks_bytes', List.length_drop, List.length_take, Int.reduceTMod, Int.toNat_one]
 all_goals repeat' (first | apply And.intro | intro _)
 refine hK85 _ ?_
 refine hN78 _ ?_
 refine rnd_forget [9, 31, 32, 33, 34, 35, 36, 37, 38, 39, 40] ?_
 simp only [go_sem, St.forget, fgt]
 refine rnd_k fun N86 M86 hN86 hM86 => ?_
 refine sr_k fun K87 hK87 => ?_
 simp only [go_sem, hk, hn, chunks_bytes', List.length_drop, List.length_take, Int.reduceTMod, Int.toNat_one]
 all_goals repeat' (first | apply And.intro | intro _)
 refine hK87 _ ?_
 refine seq_k fun N88 M88 hN88 hM88 => ?_
 refine condT_k (by first | rfl | (simp [go_sem, hk, hn, chunks_bytes', List.length_drop, List.length_take, Int.reduceTMod, Int.toNat_one]; done)) ?_
 refine skip_k ?_
 refine hN88 _ ?_
 refine seq_k fun N89 M89 hN89 hM89 => ?_
 refine block_k fun B90 bn90 bx90 br90 bi90 => ?_
 refine sr_k fun K91 hK91 => ?_
 simp only [go_sem, hk, hn, chunks_bytes', List.length_drop, List.length_take, Int.reduceTMod, Int.toNat_one]
 all_goals repeat' (first | apply And.intro | intro _)
 refine hK91 _ ?_
 refine region_k fun K92 hK92 => ?_
 simp only [go_sem, hk, hn, chunks_bytes', List.length_drop, List.length_take, Int.reduceTMod, Int.toNat_one]
 all_goals repeat' (first | apply And.intro | intro _)
 all_goals refine call_view (fun k => k) (fun _ _ => rfl) (by first | rfl | (simp only [go_sem, hk, hn, chunks_bytes', List.length_drop, List.length_take, Int.reduceTMod, Int.toNat_one]; rfl) | simp only [go_sem, hk, hn, chunks_bytes', List.length_drop, List.length_take, Int.reduceTMod, Int.toNat_one]) ((word_ _ (by first | (simp [hk]; done) | (simp [hn]; done) | (simp only [List.length_drop, List.length_take, hk, hn]; omega)) _).plain fun _ _ h => h) ?_
 all_goals (rintro v m ⟨hR, hm⟩; subst hR; subst hm)
 all_goals refine And.intro (by first | rfl | simp only [go_sem, hk, hn, chunks_bytes', List.length_drop, List.length_take, Int.reduceTMod, Int.toNat_one]) (And.intro (by first | rfl | simp only [go_sem, hk, hn, chunks_bytes', List.length_drop, List.length_take, Int.reduceTMod, Int.toNat_one]) ?_)
 all_goals simp only [go_sem, hk, hn, chunks_bytes', List.length_drop, List.length_take, Int.reduceTMod, Int.toNat_one]
 all_goals repeat' (first | apply And.intro | intro _)
 refine hK92 _ ?_
 refine bn90 _ ?_
 refine hN89 _ ?_
 refine region_k fun K93 hK93 => ?_
 simp only [go_sem, hk, hn, chunks_bytes', List.length_drop, List.length_take, Int.reduceTMod, Int.toNat_one]
 all_goals repeat' (first | apply And.intro | intro _)
 refine hK93 _ ?_
 refine hN86 _ ?_
 refine rnd_forget [9, 31, 32, 33, 34, 35, 36, 37, 38, 39, 40] ?_
 simp only [go_sem, St.forget, fgt]
 refine rnd_k fun N94 M94 hN94 hM94 => ?_
 refine sr_k fun K95 hK95 => ?_
 simp only [go_sem, hk, hn, chunks_bytes', List.length_drop, List.length_take, Int.reduceTMod, Int.toNat_one]
 all_goals repeat' (first | apply And.intro | intro _)
 refine hK95 _ ?_
 refine seq_k fun N96 M96 hN96 hM96 => ?_
 refine condT_k (by first | rfl | (simp [go_sem, hk, hn, chunks_bytes', List.length_drop, List.length_take, Int.reduceTMod, Int.toNat_one]; done)) ?_
 refine skip_k ?_
 refine hN96 _ ?_
 refine seq_k fun N97 M97 hN97 hM97 => ?_
 refine block_k fun B98 bn98 bx98 br98 bi98 => ?_
 refine sr_k fun K99 hK99 => ?_
 simp only [go_sem, hk, hn, chunks_bytes', List.length_drop, List.length_take, Int.reduceTMod, Int.toNat_one]
 all_goals repeat' (first | apply And.intro | intro _)
 refine hK99 _ ?_
 refine region_k fun K100 hK100 => ?_
 simp only [go_sem, hk, hn, chunks_bytes', List.length_drop, List.length_take, Int.reduceTMod, Int.toNat_one]
 all_goals repeat' (first | apply And.intro | intro _)
 all_goals refine call_view (fun k => k) (fun _ _ => rfl) (by first | rfl | (simp only [go_sem, hk, hn, chunks_bytes', List.length_drop, List.length_take, Int.reduceTMod, Int.toNat_one]; rfl) | simp only [go_sem, hk, hn, chunks_bytes', List.length_drop, List.length_take, Int.reduceTMod, Int.toNat_one]) ((word_ _ (by first | (simp [hk]; done) | (simp [hn]; done) | (simp only [List.length_drop, List.length_take, hk, hn]; omega)) _).plain fun _ _ h => h) ?_
 all_goals (rintro v m ⟨hR, hm⟩; subst hR; subst hm)
 all_goals refine And.intro (by first | rfl | simp only [go_sem, hk, hn, chunks_bytes', List.length_drop, List.length_take, Int.reduceTMod, Int.toNat_one]) (And.intro (by first | rfl | simp only [go_sem, hk, hn, chunks_bytes', List.length_drop, List.length_take, Int.reduceTMod, Int.toNat_one]) ?_)
 all_goals simp only [go_sem, hk, hn, chunks_bytes', List.length_drop, List.length_take, Int.reduceTMod, Int.toNat_one]
 all_goals repeat' (first | apply And.intro | intro _)
 refine hK100 _ ?_
 refine bn98 _ ?_
 refine hN97 _ ?_
 refine region_k fun K101 hK101 => ?_
 simp only [go_sem, hk, hn, chunks_bytes', List.length_drop, List.length_take, Int.reduceTMod, Int.toNat_one]
 all_goals repeat' (first | apply And.intro | intro _)
 refine hK101 _ ?_
 refine hN94 _ ?_
 refine rnd_forget [9, 31, 32, 33, 34, 35, 36, 37, 38, 39, 40] ?_
 simp only [go_sem, St.forget, fgt]
 refine rnd_k fun N102 M102 hN102 hM102 => ?_
 refine sr_k fun K103 hK103 => ?_
 simp only [go_sem, hk, hn, chunks_bytes', List.length_drop, List.length_take, Int.reduceTMod, Int.toNat_one]
 all_goals repeat' (first | apply And.intro | intro _)
 refine hK103 _ ?_
 refine seq_k fun N104 M104 hN104 hM104 => ?_
 refine condF_k (by first | rfl | (simp [go_sem, hk, hn, chunks_bytes', List.length_drop, List.length_take, Int.reduceTMod, Int.toNat_one]; done)) ?_
 refine exit_k ?_
 refine hM104 _ _ ?_
 refine hM102 _ _ ?_
 refine bx76 _ ?_
 refine hN74 _ ?_
 refine sr_k fun K105 hK105 => ?_
 simp only [go_sem, hk, hn, chunks_bytes', List.length_drop, List.length_take, Int.reduceTMod, Int.toNat_one]
 all_goals repeat' (first | apply And.intro | intro _)
 refine hK105 _ ?_
 refine seq_k fun N106 M106 hN106 hM106 => ?_
 refine sr_k fun K107 hK107 => ?_
 simp only [go_sem, hk, hn, chunks_bytes', List.length_drop, List.length_take, Int.reduceTMod, Int.toNat_one]
 all_goals repeat' (first | apply And.intro | intro _)
 refine hK107 _ ?_
 refine block_k fun B108 bn108 bx108 br108 bi108 => ?_
 refine ht_dropE [0, 1, 2, 3, 5, 8, 9, 17, 18, 19, 20, 21, 22, 23, 24, 25, 26, 27, 28, 29, 30, 31, 32, 33, 34, 35, 36, 37, 38, 39, 40, 41] ?_
 simp only [dropE_mk, fgt_nil, fgt_cons, List.contains_cons, List.contains_nil, Nat.reduceBEq, beq_self_eq_true, Bool.or_false, Bool.or_true, Bool.true_or, Bool.false_or, Bool.false_eq_true, reduceIte]
 refine loop_k (fun y => [(42, .w (.one (.pl (.i ((y.1 : Nat) : Int)))))]) (fun y => [(7, ⟨false, (roundN y.1 Wi).ls⟩)]) (fun y => 10 - y.1) (⟨0, Nat.zero_le _⟩ : {y : Nat // y ≤ 10}) ?_ ?_ ?_
 · (simp only [go_sem, leX, List.cons_append, List.nil_append]; try simp)
 · (simp only [roundN, go_sem, leX, List.cons_append, List.nil_append]; first | done | rfl | (subst hW; simp [roundN, initW, W16.ls, leX, look]; done))
 intro ⟨k, hk9⟩ N109 M109 hN109 hM109
 simp only [List.cons_append, List.nil_append]
 rcases Nat.lt_or_ge k 10 with hlt | hge
 · have hcq : ((k : Nat) : Int) < 10 := by omega
   have hs1 : Go.RowKit.wrap64 (((k : Nat) : Int) + 1) = ((k + 1 : Nat) : Int) := wnat (by omega) (by omega)
   obtain ⟨q, hq⟩ : ∃ q, roundN k Wi = q := ⟨_, rfl⟩
   obtain ⟨x0, x1, x2, x3, x4, x5, x6, x7, x8, x9, x10, x11, x12, x13, x14, x15⟩ := q
   simp only [hq, W16.ls]
   refine sr_k fun K110 hK110 => ?_
   simp only [go_sem, hk, hn, chunks_bytes', List.length_drop, List.length_take, Int.reduceTMod, Int.toNat_one, hcq, hs1]
   all_goals repeat' (first | apply And.intro | intro _)
   refine hK110 _ ?_
   refine seq_k fun N111 M111 hN111 hM111 => ?_
   refine condT_k (by first | rfl | (simp [go_sem, hk, hn, chunks_bytes', List.length_drop, List.length_take, Int.reduceTMod, Int.toNat_one, hcq, hs1]; done)) ?_
   refine skip_k ?_
   refine hN111 _ ?_
   refine seq_k fun N112 M112 hN112 hM112 => ?_
   refine block_k fun B113 bn113 bx113 br113 bi113 => ?_
   refine seq_k fun N114 M114 hN114 hM114 => ?_
   refine sr_k fun K115 hK115 => ?_
   simp only [go_sem, hk, hn, chunks_bytes', List.length_drop, List.length_take, Int.reduceTMod, Int.toNat_one, hcq, hs1]
   all_goals repeat' (first | apply And.intro | intro _)
   refine hK115 _ ?_
   refine block_k fun B116 bn116 bx116 br116 bi116 => ?_
   refine rounds_k 5 ?_
   refine rnd_k fun N118 M118 hN118 hM118 => ?_
   refine sr_k fun K119 hK119 => ?_
   simp only [go_sem, hk, hn, chunks_bytes', List.length_drop, List.length_take, Int.reduceTMod, Int.toNat_one, hcq, hs1]
   all_goals repeat' (first | apply And.intro | intro _)
   refine hK119 _ ?_
   refine seq_k fun N120 M120 hN120 hM120 => ?_
   refine condT_k (by first | rfl | (simp [go_sem, hk, hn, chunks_bytes', List.length_drop, List.length_take, Int.reduceTMod, Int.toNat_one, hcq, hs1]; done)) ?_
   refine skip_k ?_
   refine hN120 _ ?_
   refine seq_k fun N121 M121 hN121 hM121 => ?_
   refine block_k fun B122 bn122 bx122 br122 bi122 => ?_
   refine sr_k fun K123 hK123 => ?_
   simp only [go_sem, hk, hn, chunks_bytes', List.length_drop, List.length_take, Int.reduceTMod, Int.toNat_one, hcq, hs1]
   all_goals repeat' (first | apply And.intro | intro _)
   refine hK123 _ ?_
   refine region_k fun K124 hK124 => ?_
   simp only [go_sem, hk, hn, chunks_bytes', List.length_drop, List.length_take, Int.reduceTMod, Int.toNat_one, hcq, hs1]
   all_goals repeat' (first | apply And.intro | intro _)
   all_goals (refine call_hand false [(500000, 7)] (fun k => k) (fun _ _ => rfl) ?_ (by decide) ?_ (quarter_0 x0 x1 x2 x3 x4 x5 x6 x7 x8 x9 x10 x11 x12 x13 x14 x15) ?_; (focus ( first | rfl | (simp only [go_sem, valsIn, valIn, leafIn, leavesIn, nameIn, capsIn, handOk, hk, hn, chunks_bytes', List.length_drop, List.length_take, Int.reduceTMod, Int.toNat_one, hcq, hs1] <;> done) | (simp only [go_sem, valsIn, valIn, leafIn, leavesIn, nameIn, capsIn, handOk, hk, hn, chunks_bytes', List.length_drop, List.length_take, Int.reduceTMod, Int.toNat_one, hcq, hs1] <;> rfl) | (simp only [go_sem, valsIn, valIn, leafIn, leavesIn, nameIn, capsIn, handOk, hk, hn, chunks_bytes', List.length_drop, List.length_take, Int.reduceTMod, Int.toNat_one, hcq, hs1] <;> simp))); (focus ( first | rfl | (simp only [go_sem, valsIn, valIn, leafIn, leavesIn, nameIn, capsIn, handOk, hk, hn, chunks_bytes', List.length_drop, List.length_take, Int.reduceTMod, Int.toNat_one, hcq, hs1] <;> done) | (simp only [go_sem, valsIn, valIn, leafIn, leavesIn, nameIn, capsIn, handOk, hk, hn, chunks_bytes', List.length_drop, List.length_take, Int.reduceTMod, Int.toNat_one, hcq, hs1] <;> rfl) | (simp only [go_sem, valsIn, valIn, leafIn, leavesIn, nameIn, capsIn, handOk, hk, hn, chunks_bytes', List.length_drop, List.length_take, Int.reduceTMod, Int.toNat_one, hcq, hs1] <;> simp))))
   all_goals (rintro v m ⟨hR, hm⟩; subst hR; subst hm)
   all_goals refine And.intro (by (first | rfl | (simp only [go_sem, leafOutV, leafOutW, leafOut, okN, outOk, inv, hk, hn, chunks_bytes', List.length_drop, List.length_take, Int.reduceTMod, Int.toNat_one, hcq, hs1]; done) | (simp [go_sem, leafOutV, leafOutW, leafOut, okN, outOk, inv, look, hk, hn, chunks_bytes', List.length_drop, List.length_take, Int.reduceTMod, Int.toNat_one, hcq, hs1]; done))) (And.intro (by (first | rfl | (simp only [go_sem, leafOutV, leafOutW, leafOut, okN, outOk, inv, hk, hn, chunks_bytes', List.length_drop, List.length_take, Int.reduceTMod, Int.toNat_one, hcq, hs1]; done) | (simp [go_sem, leafOutV, leafOutW, leafOut, okN, outOk, inv, look, hk, hn, chunks_bytes', List.length_drop, List.length_take, Int.reduceTMod, Int.toNat_one, hcq, hs1]; done))) (And.intro (by (first | rfl | (simp only [go_sem, leafOutV, leafOutW, leafOut, okN, outOk, inv, hk, hn, chunks_bytes', List.length_drop, List.length_take, Int.reduceTMod, Int.toNat_one, hcq, hs1]; done) | (simp [go_sem, leafOutV, leafOutW, leafOut, okN, outOk, inv, look, hk, hn, chunks_bytes', List.length_drop, List.length_take, Int.reduceTMod, Int.toNat_one, hcq, hs1]; done))) ?_))
   all_goals (try simp only [go_sem, backM, outN, nameOut, Ob.ren, V.ren, W.ren, L.ren, setM, hk, hn, chunks_bytes', List.length_drop, List.length_take, Int.reduceTMod, Int.toNat_one, hcq, hs1])
   all_goals (try simp only [go_sem, hk, hn, chunks_bytes', List.length_drop, List.length_take, Int.reduceTMod, Int.toNat_one, hcq, hs1])
   all_goals repeat' (first | apply And.intro | intro _)
   refine hK124 _ ?_
   refine bn122 _ ?_
   refine hN121 _ ?_
   refine region_k fun K125 hK125 => ?_
   simp only [go_sem, hk, hn, chunks_bytes', List.length_drop, List.length_take, Int.reduceTMod, Int.toNat_one, hcq, hs1]
   all_goals repeat' (first | apply And.intro | intro _)
   refine hK125 _ ?_
   refine hN118 _ ?_
   refine rnd_forget [11, 45, 46, 47, 48, 49, 50, 51, 52, 53, 54, 55] ?_
   simp only [go_sem, St.forget, fgt]
   refine rnd_k fun N126 M126 hN126 hM126 => ?_
   refine sr_k fun K127 hK127 => ?_
   simp only [go_sem, hk, hn, chunks_bytes', List.length_drop, List.length_take, Int.reduceTMod, Int.toNat_one, hcq, hs1]
   all_goals repeat' (first | apply And.intro | intro _)
   refine hK127 _ ?_
   refine seq_k fun N128 M128 hN128 hM128 => ?_
   refine condT_k (by first | rfl | (simp [go_sem, hk, hn, chunks_bytes', List.length_drop, List.length_take, Int.reduceTMod, Int.toNat_one, hcq, hs1]; done)) ?_
   refine skip_k ?_
   refine hN128 _ ?_
   refine seq_k fun N129 M129 hN129 hM129 => ?_
   refine block_k fun B130 bn130 bx130 br130 bi130 => ?_
   refine sr_k fun K131 hK131 => ?_
   simp only [go_sem, hk, hn, chunks_bytes', List.length_drop, List.length_take, Int.reduceTMod, Int.toNat_one, hcq, hs1]
   all_goals repeat' (first | apply And.intro | intro _)
   refine hK131 _ ?_
   refine region_k fun K132 hK132 => ?_
   simp only [go_sem, hk, hn, chunks_bytes', List.length_drop, List.length_take, Int.reduceTMod, Int.toNat_one, hcq, hs1]
   all_goals repeat' (first | apply And.intro | intro _)
   all_goals (refine call_hand false [(500000, 7)] (fun k => k) (fun _ _ => rfl) ?_ (by decide) ?_ (quarter_1 (qA x0 x4 x8 x12) x1 x2 x3 (qB x0 x4 x8 x12) x5 x6 x7 (qC x0 x4 x8 x12) x9 x10 x11 (qD x0 x4 x8 x12) x13 x14 x15) ?_; (focus ( first | rfl | (simp only [go_sem, valsIn, valIn, leafIn, leavesIn, nameIn, capsIn, handOk, hk, hn, chunks_bytes', List.length_drop, List.length_take, Int.reduceTMod, Int.toNat_one, hcq, hs1] <;> done) | (simp only [go_sem, valsIn, valIn, leafIn, leavesIn, nameIn, capsIn, handOk, hk, hn, chunks_bytes', List.length_drop, List.length_take, Int.reduceTMod, Int.toNat_one, hcq, hs1] <;> rfl) | (simp only [go_sem, valsIn, valIn, leafIn, leavesIn, nameIn, capsIn, handOk, hk, hn, chunks_bytes', List.length_drop, List.length_take, Int.reduceTMod, Int.toNat_one, hcq, hs1] <;> simp))); (focus ( first | rfl | (simp only [go_sem, valsIn, valIn, leafIn, leavesIn, nameIn, capsIn, handOk, hk, hn, chunks_bytes', List.length_drop, List.length_take, Int.reduceTMod, Int.toNat_one, hcq, hs1] <;> done) | (simp only [go_sem, valsIn, valIn, leafIn, leavesIn, nameIn, capsIn, handOk, hk, hn, chunks_bytes', List.length_drop, List.length_take, Int.reduceTMod, Int.toNat_one, hcq, hs1] <;> rfl) | (simp only [go_sem, valsIn, valIn, leafIn, leavesIn, nameIn, capsIn, handOk, hk, hn, chunks_bytes', List.length_drop, List.length_take, Int.reduceTMod, Int.toNat_one, hcq, hs1] <;> simp))))
   all_goals (rintro v m ⟨hR, hm⟩; subst hR; subst hm)
   all_goals refine And.intro (by (first | rfl | (simp only [go_sem, leafOutV, leafOutW, leafOut, okN, outOk, inv, hk, hn, chunks_bytes', List.length_drop, List.length_take, Int.reduceTMod, Int.toNat_one, hcq, hs1]; done) | (simp [go_sem, leafOutV, leafOutW, leafOut, okN, outOk, inv, look, hk, hn, chunks_bytes', List.length_drop, List.length_take, Int.reduceTMod, Int.toNat_one, hcq, hs1]; done))) (And.intro (by (first | rfl | (simp only [go_sem, leafOutV, leafOutW, leafOut, okN, outOk, inv, hk, hn, chunks_bytes', List.length_drop, List.length_take, Int.reduceTMod, Int.toNat_one, hcq, hs1]; done) | (simp [go_sem, leafOutV, leafOutW, leafOut, okN, outOk, inv, look, hk, hn, chunks_bytes', List.length_drop, List.length_take, Int.reduceTMod, Int.toNat_one, hcq, hs1]; done))) (And.intro (by (first | rfl | (simp only [go_sem, leafOutV, leafOutW, leafOut, okN, outOk, inv, hk, hn, chunks_bytes', List.length_drop, List.length_take, Int.reduceTMod, Int.toNat_one, hcq, hs1]; done) | (simp [go_sem, leafOutV, leafOutW, leafOut, okN, outOk, inv, look, hk, hn, chunks_bytes', List.length_drop, List.length_take, Int.reduceTMod, Int.toNat_one, hcq, hs1]; done))) ?_))
   all_goals (try simp only [go_sem, backM, outN, nameOut, Ob.ren, V.ren, W.ren, L.ren, setM, hk, hn, chunks_bytes', List.length_drop, List.length_take, Int.reduceTMod, Int.toNat_one, hcq, hs1])
   all_goals (try simp only [go_sem, hk, hn, chunks_bytes', List.length_drop, List.length_take, Int.reduceTMod, Int.toNat_one, hcq, hs1])
   all_goals repeat' (first | apply And.intro | intro _)
   refine hK132 _ ?_
   refine bn130 _ ?_
   refine hN129 _ ?_
   refine region_k fun K133 hK133 => ?_
   simp only [go_sem, hk, hn, chunks_bytes', List.length_drop, List.length_take, Int.reduceTMod, Int.toNat_one, hcq, hs1]
   all_goals repeat' (first | apply And.intro | intro _)
   refine hK133 _ ?_
   refine hN126 _ ?_
   refine rnd_forget [11, 45, 46, 47, 48, 49, 50, 51, 52, 53, 54, 55] ?_
   simp only [go_sem, St.forget, fgt]
   refine rnd_k fun N134 M134 hN134 hM134 => ?_
   refine sr_k fun K135 hK135 => ?_
   simp only [go_sem, hk, hn, chunks_bytes', List.length_drop, List.length_take, Int.reduceTMod, Int.toNat_one, hcq, hs1]
   all_goals repeat' (first | apply And.intro | intro _)
   refine hK135 _ ?_
   refine seq_k fun N136 M136 hN136 hM136 => ?_
   refine condT_k (by first | rfl | (simp [go_sem, hk, hn, chunks_bytes', List.length_drop, List.length_take, Int.reduceTMod, Int.toNat_one, hcq, hs1]; done)) ?_
   refine skip_k ?_
   refine hN136 _ ?_
   refine seq_k fun N137 M137 hN137 hM137 => ?_
   refine block_k fun B138 bn138 bx138 br138 bi138 => ?_
   refine sr_k fun K139 hK139 => ?_
   simp only [go_sem, hk, hn, chunks_bytes', List.length_drop, List.length_take, Int.reduceTMod, Int.toNat_one, hcq, hs1]
   all_goals repeat' (first | apply And.intro | intro _)
   refine hK139 _ ?_
   refine region_k fun K140 hK140 => ?_
   simp only [go_sem, hk, hn, chunks_bytes', List.length_drop, List.length_take, Int.reduceTMod, Int.toNat_one, hcq, hs1]
   all_goals repeat' (first | apply And.intro | intro _)
   all_goals (refine call_hand false [(500000, 7)] (fun k => k) (fun _ _ => rfl) ?_ (by decide) ?_ (quarter_2 (qA x0 x4 x8 x12) (qA x1 x5 x9 x13) x2 x3 (qB x0 x4 x8 x12) (qB x1 x5 x9 x13) x6 x7 (qC x0 x4 x8 x12) (qC x1 x5 x9 x13) x10 x11 (qD x0 x4 x8 x12) (qD x1 x5 x9 x13) x14 x15) ?_; (focus ( first | rfl | (simp only [go_sem, valsIn, valIn, leafIn, leavesIn, nameIn, capsIn, handOk, hk, hn, chunks_bytes', List.length_drop, List.length_take, Int.reduceTMod, Int.toNat_one, hcq, hs1] <;> done) | (simp only [go_sem, valsIn, valIn, leafIn, leavesIn, nameIn, capsIn, handOk, hk, hn, chunks_bytes', List.length_drop, List.length_take, Int.reduceTMod, Int.toNat_one, hcq, hs1] <;> rfl) | (simp only [go_sem, valsIn, valIn, leafIn, leavesIn, nameIn, capsIn, handOk, hk, hn, chunks_bytes', List.length_drop, List.length_take, Int.reduceTMod, Int.toNat_one, hcq, hs1] <;> simp))); (focus ( first | rfl | (simp only [go_sem, valsIn, valIn, leafIn, leavesIn, nameIn, capsIn, handOk, hk, hn, chunks_bytes', List.length_drop, List.length_take, Int.reduceTMod, Int.toNat_one, hcq, hs1] <;> done) | (simp only [go_sem, valsIn, valIn, leafIn, leavesIn, nameIn, capsIn, handOk, hk, hn, chunks_bytes', List.length_drop, List.length_take, Int.reduceTMod, Int.toNat_one, hcq, hs1] <;> rfl) | (simp only [go_sem, valsIn, valIn, leafIn, leavesIn, nameIn, capsIn, handOk, hk, hn, chunks_bytes', List.length_drop, List.length_take, Int.reduceTMod, Int.toNat_one, hcq, hs1] <;> simp))))
   all_goals (rintro v m ⟨hR, hm⟩; subst hR; subst hm)
   all_goals refine And.intro (by (first | rfl | (simp only [go_sem, leafOutV, leafOutW, leafOut, okN, outOk, inv, hk, hn, chunks_bytes', List.length_drop, List.length_take, Int.reduceTMod, Int.toNat_one, hcq, hs1]; done) | (simp [go_sem, leafOutV, leafOutW, leafOut, okN, outOk, inv, look, hk, hn, chunks_bytes', List.length_drop, List.length_take, Int.reduceTMod, Int.toNat_one, hcq, hs1]; done))) (And.intro (by (first | rfl | (simp only [go_sem, leafOutV, leafOutW, leafOut, okN, outOk, inv, hk, hn, chunks_bytes', List.length_drop, List.length_take, Int.reduceTMod, Int.toNat_one, hcq, hs1]; done) | (simp [go_sem, leafOutV, leafOutW, leafOut, okN, outOk, inv, look, hk, hn, chunks_bytes', List.length_drop, List.length_take, Int.reduceTMod, Int.toNat_one, hcq, hs1]; done))) (And.intro (by (first | rfl | (simp only [go_sem, leafOutV, leafOutW, leafOut, okN, outOk, inv, hk, hn, chunks_bytes', List.length_drop, List.length_take, Int.reduceTMod, Int.toNat_one, hcq, hs1]; done) | (simp [go_sem, leafOutV, leafOutW, leafOut, okN, outOk, inv, look, hk, hn, chunks_bytes', List.length_drop, List.length_take, Int.reduceTMod, Int.toNat_one, hcq, hs1]; done))) ?_))
   all_goals (try simp only [go_sem, backM, outN, nameOut, Ob.ren, V.ren, W.ren, L.ren, setM, hk, hn, chunks_bytes', List.length_drop, List.length_take, Int.reduceTMod, Int.toNat_one, hcq, hs1])
   all_goals (try simp only [go_sem, hk, hn, chunks_bytes', List.length_drop, List.length_take, Int.reduceTMod, Int.toNat_one, hcq, hs1])
   all_goals repeat' (first | apply And.intro | intro _)
   refine hK140 _ ?_
   refine bn138 _ ?_
   refine hN137 _ ?_
   refine region_k fun K141 hK141 => ?_
   simp only [go_sem, hk, hn, chunks_bytes', List.length_drop, List.length_take, Int.reduceTMod, Int.toNat_one, hcq, hs1]
   all_goals repeat' (first | apply And.intro | intro _)
   refine hK141 _ ?_
   refine hN134 _ ?_
   refine rnd_forget [11, 45, 46, 47, 48, 49, 50, 51, 52, 53, 54, 55] ?_
   simp only [go_sem, St.forget, fgt]
   refine rnd_k fun N142 M142 hN142 hM142 => ?_
   refine sr_k fun K143 hK143 => ?_
   simp only [go_sem, hk, hn, chunks_bytes', List.length_drop, List.length_take, Int.reduceTMod, Int.toNat_one, hcq, hs1]
   all_goals repeat' (first | apply And.intro | intro _)
   refine hK143 _ ?_
   refine seq_k fun N144 M144 hN144 hM144 => ?_
   refine condT_k (by first | rfl | (simp [go_sem, hk, hn, chunks_bytes', List.length_drop, List.length_take, Int.reduceTMod, Int.toNat_one, hcq, hs1]; done)) ?_
   refine skip_k ?_
   refine hN144 _ ?_
   refine seq_k fun N145 M145 hN145 hM145 => ?_
   refine block_k fun B146 bn146 bx146 br146 bi146 => ?_
   refine sr_k fun K147 hK147 => ?_
   simp only [go_sem, hk, hn, chunks_bytes', List.length_drop, List.length_take, Int.reduceTMod, Int.toNat_one, hcq, hs1]
   all_goals repeat' (first | apply And.intro | intro _)
   refine hK147 _ ?_
   refine region_k fun K148 hK148 => ?_
   simp only [go_sem, hk, hn, chunks_bytes', List.length_drop, List.length_take, Int.reduceTMod, Int.toNat_one, hcq, hs1]
   all_goals repeat' (first | apply And.intro | intro _)
   all_goals (refine call_hand false [(500000, 7)] (fun k => k) (fun _ _ => rfl) ?_ (by decide) ?_ (quarter_3 (qA x0 x4 x8 x12) (qA x1 x5 x9 x13) (qA x2 x6 x10 x14) x3 (qB x0 x4 x8 x12) (qB x1 x5 x9 x13) (qB x2 x6 x10 x14) x7 (qC x0 x4 x8 x12) (qC x1 x5 x9 x13) (qC x2 x6 x10 x14) x11 (qD x0 x4 x8 x12) (qD x1 x5 x9 x13) (qD x2 x6 x10 x14) x15) ?_; (focus ( first | rfl | (simp only [go_sem, valsIn, valIn, leafIn, leavesIn, nameIn, capsIn, handOk, hk, hn, chunks_bytes', List.length_drop, List.length_take, Int.reduceTMod, Int.toNat_one, hcq, hs1] <;> done) | (simp only [go_sem, valsIn, valIn, leafIn, leavesIn, nameIn, capsIn, handOk, hk, hn, chunks_bytes', List.length_drop, List.length_take, Int.reduceTMod, Int.toNat_one, hcq, hs1] <;> rfl) | (simp only [go_sem, valsIn, valIn, leafIn, leavesIn, nameIn, capsIn, handOk, hk, hn, chunks_bytes', List.length_drop, List.length_take, Int.reduceTMod, Int.toNat_one, hcq, hs1] <;> simp))); (focus ( first | rfl | (simp only [go_sem, valsIn, valIn, leafIn, leavesIn, nameIn, capsIn, handOk, hk, hn, chunks_bytes', List.length_drop, List.length_take, Int.reduceTMod, Int.toNat_one, hcq, hs1] <;> done) | (simp only [go_sem, valsIn, valIn, leafIn, leavesIn, nameIn, capsIn, handOk, hk, hn, chunks_bytes', List.length_drop, List.length_take, Int.reduceTMod, Int.toNat_one, hcq, hs1] <;> rfl) | (simp only [go_sem, valsIn, valIn, leafIn, leavesIn, nameIn, capsIn, handOk, hk, hn, chunks_bytes', List.length_drop, List.length_take, Int.reduceTMod, Int.toNat_one, hcq, hs1] <;> simp))))
   all_goals (rintro v m ⟨hR, hm⟩; subst hR; subst hm)
   all_goals refine And.intro (by (first | rfl | (simp only [go_sem, leafOutV, leafOutW, leafOut, okN, outOk, inv, hk, hn, chunks_bytes', List.length_drop, List.length_take, Int.reduceTMod, Int.toNat_one, hcq, hs1]; done) | (simp [go_sem, leafOutV, leafOutW, leafOut, okN, outOk, inv, look, hk, hn, chunks_bytes', List.length_drop, List.length_take, Int.reduceTMod, Int.toNat_one, hcq, hs1]; done))) (And.intro (by (first | rfl | (simp only [go_sem, leafOutV, leafOutW, leafOut, okN, outOk, inv, hk, hn, chunks_bytes', List.length_drop, List.length_take, Int.reduceTMod, Int.toNat_one, hcq, hs1]; done) | (simp [go_sem, leafOutV, leafOutW, leafOut, okN, outOk, inv, look, hk, hn, chunks_bytes', List.length_drop, List.length_take, Int.reduceTMod, Int.toNat_one, hcq, hs1]; done))) (And.intro (by (first | rfl | (simp only [go_sem, leafOutV, leafOutW, leafOut, okN, outOk, inv, hk, hn, chunks_bytes', List.length_drop, List.length_take, Int.reduceTMod, Int.toNat_one, hcq, hs1]; done) | (simp [go_sem, leafOutV, leafOutW, leafOut, okN, outOk, inv, look, hk, hn, chunks_bytes', List.length_drop, List.length_take, Int.reduceTMod, Int.toNat_one, hcq, hs1]; done))) ?_))
   all_goals (try simp only [go_sem, backM, outN, nameOut, Ob.ren, V.ren, W.ren, L.ren, setM, hk, hn, chunks_bytes', List.length_drop, List.length_take, Int.reduceTMod, Int.toNat_one, hcq, hs1])
   all_goals (try simp only [go_sem, hk, hn, chunks_bytes', List.length_drop, List.length_take, Int.reduceTMod, Int.toNat_one, hcq, hs1])
   all_goals repeat' (first | apply And.intro | intro _)
   refine hK148 _ ?_
   refine bn146 _ ?_
   refine hN145 _ ?_
   refine region_k fun K149 hK149 => ?_
   simp only [go_sem, hk, hn, chunks_bytes', List.length_drop, List.length_take, Int.reduceTMod, Int.toNat_one, hcq, hs1]
   all_goals repeat' (first | apply And.intro | intro _)
   refine hK149 _ ?_
   refine hN142 _ ?_
   refine rnd_forget [11, 45, 46, 47, 48, 49, 50, 51, 52, 53, 54, 55] ?_
   simp only [go_sem, St.forget, fgt]
   refine rnd_k fun N150 M150 hN150 hM150 => ?_
   refine sr_k fun K151 hK151 => ?_
   simp only [go_sem, hk, hn, chunks_bytes', List.length_drop, List.length_take, Int.reduceTMod, Int.toNat_one, hcq, hs1]
   all_goals repeat' (first | apply And.intro | intro _)
   refine hK151 _ ?_
   refine seq_k fun N152 M152 hN152 hM152 => ?_
   refine condF_k (by first | rfl | (simp [go_sem, hk, hn, chunks_bytes', List.length_drop, List.length_take, Int.reduceTMod, Int.toNat_one, hcq, hs1]; done)) ?_
   refine exit_k ?_
   refine hM152 _ _ ?_
   refine hM150 _ _ ?_
   refine bx116 _ ?_
   refine hN114 _ ?_
   refine sr_k fun K153 hK153 => ?_
   simp only [go_sem, hk, hn, chunks_bytes', List.length_drop, List.length_take, Int.reduceTMod, Int.toNat_one, hcq, hs1]
   all_goals repeat' (first | apply And.intro | intro _)
   refine hK153 _ ?_
   refine block_k fun B154 bn154 bx154 br154 bi154 => ?_
   refine rounds_k 5 ?_
   refine rnd_k fun N156 M156 hN156 hM156 => ?_
   refine sr_k fun K157 hK157 => ?_
   simp only [go_sem, hk, hn, chunks_bytes', List.length_drop, List.length_take, Int.reduceTMod, Int.toNat_one, hcq, hs1]
   all_goals repeat' (first | apply And.intro | intro _)
   refine hK157 _ ?_
   refine seq_k fun N158 M158 hN158 hM158 => ?_
   refine condT_k (by first | rfl | (simp [go_sem, hk, hn, chunks_bytes', List.length_drop, List.length_take, Int.reduceTMod, Int.toNat_one, hcq, hs1]; done)) ?_
   refine skip_k ?_
   refine hN158 _ ?_
   refine seq_k fun N159 M159 hN159 hM159 => ?_
   refine block_k fun B160 bn160 bx160 br160 bi160 => ?_
   refine sr_k fun K161 hK161 => ?_
   simp only [go_sem, hk, hn, chunks_bytes', List.length_drop, List.length_take, Int.reduceTMod, Int.toNat_one, hcq, hs1]
   all_goals repeat' (first | apply And.intro | intro _)
   refine hK161 _ ?_
   refine region_k fun K162 hK162 => ?_
   simp only [go_sem, hk, hn, chunks_bytes', List.length_drop, List.length_take, Int.reduceTMod, Int.toNat_one, hcq, hs1]
   all_goals repeat' (first | apply And.intro | intro _)
   all_goals (refine call_hand false [(500000, 7)] (fun k => k) (fun _ _ => rfl) ?_ (by decide) ?_ (quarter_4 (qA x0 x4 x8 x12) (qA x1 x5 x9 x13) (qA x2 x6 x10 x14) (qA x3 x7 x11 x15) (qB x0 x4 x8 x12) (qB x1 x5 x9 x13) (qB x2 x6 x10 x14) (qB x3 x7 x11 x15) (qC x0 x4 x8 x12) (qC x1 x5 x9 x13) (qC x2 x6 x10 x14) (qC x3 x7 x11 x15) (qD x0 x4 x8 x12) (qD x1 x5 x9 x13) (qD x2 x6 x10 x14) (qD x3 x7 x11 x15)) ?_; (focus ( first | rfl | (simp only [go_sem, valsIn, valIn, leafIn, leavesIn, nameIn, capsIn, handOk, hk, hn, chunks_bytes', List.length_drop, List.length_take, Int.reduceTMod, Int.toNat_one, hcq, hs1] <;> done) | (simp only [go_sem, valsIn, valIn, leafIn, leavesIn, nameIn, capsIn, handOk, hk, hn, chunks_bytes', List.length_drop, List.length_take, Int.reduceTMod, Int.toNat_one, hcq, hs1] <;> rfl) | (simp only [go_sem, valsIn, valIn, leafIn, leavesIn, nameIn, capsIn, handOk, hk, hn, chunks_bytes', List.length_drop, List.length_take, Int.reduceTMod, Int.toNat_one, hcq, hs1] <;> simp))); (focus ( first | rfl | (simp only [go_sem, valsIn, valIn, leafIn, leavesIn, nameIn, capsIn, handOk, hk, hn, chunks_bytes', List.length_drop, List.length_take, Int.reduceTMod, Int.toNat_one, hcq, hs1] <;> done) | (simp only [go_sem, valsIn, valIn, leafIn, leavesIn, nameIn, capsIn, handOk, hk, hn, chunks_bytes', List.length_drop, List.length_take, Int.reduceTMod, Int.toNat_one, hcq, hs1] <;> rfl) | (simp only [go_sem, valsIn, valIn, leafIn, leavesIn, nameIn, capsIn, handOk, hk, hn, chunks_bytes', List.length_drop, List.length_take, Int.reduceTMod, Int.toNat_one, hcq, hs1] <;> simp))))
   all_goals (rintro v m ⟨hR, hm⟩; subst hR; subst hm)
   all_goals refine And.intro (by (first | rfl | (simp only [go_sem, leafOutV, leafOutW, leafOut, okN, outOk, inv, hk, hn, chunks_bytes', List.length_drop, List.length_take, Int.reduceTMod, Int.toNat_one, hcq, hs1]; done) | (simp [go_sem, leafOutV, leafOutW, leafOut, okN, outOk, inv, look, hk, hn, chunks_bytes', List.length_drop, List.length_take, Int.reduceTMod, Int.toNat_one, hcq, hs1]; done))) (And.intro (by (first | rfl | (simp only [go_sem, leafOutV, leafOutW, leafOut, okN, outOk, inv, hk, hn, chunks_bytes', List.length_drop, List.length_take, Int.reduceTMod, Int.toNat_one, hcq, hs1]; done) | (simp [go_sem, leafOutV, leafOutW, leafOut, okN, outOk, inv, look, hk, hn, chunks_bytes', List.length_drop, List.length_take, Int.reduceTMod, Int.toNat_one, hcq, hs1]; done))) (And.intro (by (first | rfl | (simp only [go_sem, leafOutV, leafOutW, leafOut, okN, outOk, inv, hk, hn, chunks_bytes', List.length_drop, List.length_take, Int.reduceTMod, Int.toNat_one, hcq, hs1]; done) | (simp [go_sem, leafOutV, leafOutW, leafOut, okN, outOk, inv, look, hk, hn, chunks_bytes', List.length_drop, List.length_take, Int.reduceTMod, Int.toNat_one, hcq, hs1]; done))) ?_))
   all_goals (try simp only [go_sem, backM, outN, nameOut, Ob.ren, V.ren, W.ren, L.ren, setM, hk, hn, chunks_bytes', List.length_drop, List.length_take, Int.reduceTMod, Int.toNat_one, hcq, hs1])
   all_goals (try simp only [go_sem, hk, hn, chunks_bytes', List.length_drop, List.length_take, Int.reduceTMod, Int.toNat_one, hcq, hs1])
   all_goals repeat' (first | apply And.intro | intro _)
   refine hK162 _ ?_
   refine bn160 _ ?_
   refine hN159 _ ?_
   refine region_k fun K163 hK163 => ?_
   simp only [go_sem, hk, hn, chunks_bytes', List.length_drop, List.length_take, Int.reduceTMod, Int.toNat_one, hcq, hs1]
   all_goals repeat' (first | apply And.intro | intro _)
   refine hK163 _ ?_
   refine hN156 _ ?_
   refine rnd_forget [12, 57, 58, 59, 60, 61, 62, 63, 64, 65, 66, 67, 68, 69, 70, 71, 72, 73] ?_
   simp only [go_sem, St.forget, fgt]
   refine rnd_k fun N164 M164 hN164 hM164 => ?_
   refine sr_k fun K165 hK165 => ?_
   simp only [go_sem, hk, hn, chunks_bytes', List.length_drop, List.length_take, Int.reduceTMod, Int.toNat_one, hcq, hs1]
   all_goals repeat' (first | apply And.intro | intro _)
   refine hK165 _ ?_
   refine seq_k fun N166 M166 hN166 hM166 => ?_
   refine condT_k (by first | rfl | (simp [go_sem, hk, hn, chunks_bytes', List.length_drop, List.length_take, Int.reduceTMod, Int.toNat_one, hcq, hs1]; done)) ?_
   refine skip_k ?_
   refine hN166 _ ?_
   refine seq_k fun N167 M167 hN167 hM167 => ?_
   refine block_k fun B168 bn168 bx168 br168 bi168 => ?_
   refine sr_k fun K169 hK169 => ?_
   simp only [go_sem, hk, hn, chunks_bytes', List.length_drop, List.length_take, Int.reduceTMod, Int.toNat_one, hcq, hs1]
   all_goals repeat' (first | apply And.intro | intro _)
   refine hK169 _ ?_
   refine region_k fun K170 hK170 => ?_
   simp only [go_sem, hk, hn, chunks_bytes', List.length_drop, List.length_take, Int.reduceTMod, Int.toNat_one, hcq, hs1]
   all_goals repeat' (first | apply And.intro | intro _)
   all_goals (refine call_hand false [(500000, 7)] (fun k => k) (fun _ _ => rfl) ?_ (by decide) ?_ (quarter_5 (qA (qA x0 x4 x8 x12) (qB x1 x5 x9 x13) (qC x2 x6 x10 x14) (qD x3 x7 x11 x15)) (qA x1 x5 x9 x13) (qA x2 x6 x10 x14) (qA x3 x7 x11 x15) (qB x0 x4 x8 x12) (qB (qA x0 x4 x8 x12) (qB x1 x5 x9 x13) (qC x2 x6 x10 x14) (qD x3 x7 x11 x15)) (qB x2 x6 x10 x14) (qB x3 x7 x11 x15) (qC x0 x4 x8 x12) (qC x1 x5 x9 x13) (qC (qA x0 x4 x8 x12) (qB x1 x5 x9 x13) (qC x2 x6 x10 x14) (qD x3 x7 x11 x15)) (qC x3 x7 x11 x15) (qD x0 x4 x8 x12) (qD x1 x5 x9 x13) (qD x2 x6 x10 x14) (qD (qA x0 x4 x8 x12) (qB x1 x5 x9 x13) (qC x2 x6 x10 x14) (qD x3 x7 x11 x15))) ?_; (focus ( first | rfl | (simp only [go_sem, valsIn, valIn, leafIn, leavesIn, nameIn, capsIn, handOk, hk, hn, chunks_bytes', List.length_drop, List.length_take, Int.reduceTMod, Int.toNat_one, hcq, hs1] <;> done) | (simp only [go_sem, valsIn, valIn, leafIn, leavesIn, nameIn, capsIn, handOk, hk, hn, chunks_bytes', List.length_drop, List.length_take, Int.reduceTMod, Int.toNat_one, hcq, hs1] <;> rfl) | (simp only [go_sem, valsIn, valIn, leafIn, leavesIn, nameIn, capsIn, handOk, hk, hn, chunks_bytes', List.length_drop, List.length_take, Int.reduceTMod, Int.toNat_one, hcq, hs1] <;> simp))); (focus ( first | rfl | (simp only [go_sem, valsIn, valIn, leafIn, leavesIn, nameIn, capsIn, handOk, hk, hn, chunks_bytes', List.length_drop, List.length_take, Int.reduceTMod, Int.toNat_one, hcq, hs1] <;> done) | (simp only [go_sem, valsIn, valIn, leafIn, leavesIn, nameIn, capsIn, handOk, hk, hn, chunks_bytes', List.length_drop, List.length_take, Int.reduceTMod, Int.toNat_one, hcq, hs1] <;> rfl) | (simp only [go_sem, valsIn, valIn, leafIn, leavesIn, nameIn, capsIn, handOk, hk, hn, chunks_bytes', List.length_drop, List.length_take, Int.reduceTMod, Int.toNat_one, hcq, hs1] <;> simp))))
   all_goals (rintro v m ⟨hR, hm⟩; subst hR; subst hm)
   all_goals refine And.intro (by (first | rfl | (simp only [go_sem, leafOutV, leafOutW, leafOut, okN, outOk, inv, hk, hn, chunks_bytes', List.length_drop, List.length_take, Int.reduceTMod, Int.toNat_one, hcq, hs1]; done) | (simp [go_sem, leafOutV, leafOutW, leafOut, okN, outOk, inv, look, hk, hn, chunks_bytes', List.length_drop, List.length_take, Int.reduceTMod, Int.toNat_one, hcq, hs1]; done))) (And.intro (by (first | rfl | (simp only [go_sem, leafOutV, leafOutW, leafOut, okN, outOk, inv, hk, hn, chunks_bytes', List.length_drop, List.length_take, Int.reduceTMod, Int.toNat_one, hcq, hs1]; done) | (simp [go_sem, leafOutV, leafOutW, leafOut, okN, outOk, inv, look, hk, hn, chunks_bytes', List.length_drop, List.length_take, Int.reduceTMod, Int.toNat_one, hcq, hs1]; done))) (And.intro (by (first | rfl | (simp only [go_sem, leafOutV, leafOutW, leafOut, okN, outOk, inv, hk, hn, chunks_bytes', List.length_drop, List.length_take, Int.reduceTMod, Int.toNat_one, hcq, hs1]; done) | (simp [go_sem, leafOutV, leafOutW, leafOut, okN, outOk, inv, look, hk, hn, chunks_bytes', List.length_drop, List.length_take, Int.reduceTMod, Int.toNat_one, hcq, hs1]; done))) ?_))
   all_goals (try simp only [go_sem, backM, outN, nameOut, Ob.ren, V.ren, W.ren, L.ren, setM, hk, hn, chunks_bytes', List.length_drop, List.length_take, Int.reduceTMod, Int.toNat_one, hcq, hs1])
   all_goals (try simp only [go_sem, hk, hn, chunks_bytes', List.length_drop, List.length_take, Int.reduceTMod, Int.toNat_one, hcq, hs1])
   all_goals repeat' (first | apply And.intro | intro _)
   refine hK170 _ ?_
   refine bn168 _ ?_
   refine hN167 _ ?_
   refine region_k fun K171 hK171 => ?_
   simp only [go_sem, hk, hn, chunks_bytes', List.length_drop, List.length_take, Int.reduceTMod, Int.toNat_one, hcq, hs1]
   all_goals repeat' (first | apply And.intro | intro _)
   refine hK171 _ ?_
   refine hN164 _ ?_
   refine rnd_forget [12, 57, 58, 59, 60, 61, 62, 63, 64, 65, 66, 67, 68, 69, 70, 71, 72, 73] ?_
   simp only [go_sem, St.forget, fgt]
   refine rnd_k fun N172 M172 hN172 hM172 => ?_
   refine sr_k fun K173 hK173 => ?_
   simp only [go_sem, hk, hn, chunks_bytes', List.length_drop, List.length_take, Int.reduceTMod, Int.toNat_one, hcq, hs1]
   all_goals repeat' (first | apply And.intro | intro _)
   refine hK173 _ ?_
   refine seq_k fun N174 M174 hN174 hM174 => ?_
   refine condT_k (by first | rfl | (simp [go_sem, hk, hn, chunks_bytes', List.length_drop, List.length_take, Int.reduceTMod, Int.toNat_one, hcq, hs1]; done)) ?_
   refine skip_k ?_
   refine hN174 _ ?_
   refine seq_k fun N175 M175 hN175 hM175 => ?_
   refine block_k fun B176 bn176 bx176 br176 bi176 => ?_
   refine sr_k fun K177 hK177 => ?_
   simp only [go_sem, hk, hn, chunks_bytes', List.length_drop, List.length_take, Int.reduceTMod, Int.toNat_one, hcq, hs1]
   all_goals repeat' (first | apply And.intro | intro _)
   refine hK177 _ ?_
   refine region_k fun K178 hK178 => ?_
   simp only [go_sem, hk, hn, chunks_bytes', List.length_drop, List.length_take, Int.reduceTMod, Int.toNat_one, hcq, hs1]
   all_goals repeat' (first | apply And.intro | intro _)
   all_goals (refine call_hand false [(500000, 7)] (fun k => k) (fun _ _ => rfl) ?_ (by decide) ?_ (quarter_6 (qA (qA x0 x4 x8 x12) (qB x1 x5 x9 x13) (qC x2 x6 x10 x14) (qD x3 x7 x11 x15)) (qA (qA x1 x5 x9 x13) (qB x2 x6 x10 x14) (qC x3 x7 x11 x15) (qD x0 x4 x8 x12)) (qA x2 x6 x10 x14) (qA x3 x7 x11 x15) (qB x0 x4 x8 x12) (qB (qA x0 x4 x8 x12) (qB x1 x5 x9 x13) (qC x2 x6 x10 x14) (qD x3 x7 x11 x15)) (qB (qA x1 x5 x9 x13) (qB x2 x6 x10 x14) (qC x3 x7 x11 x15) (qD x0 x4 x8 x12)) (qB x3 x7 x11 x15) (qC x0 x4 x8 x12) (qC x1 x5 x9 x13) (qC (qA x0 x4 x8 x12) (qB x1 x5 x9 x13) (qC x2 x6 x10 x14) (qD x3 x7 x11 x15)) (qC (qA x1 x5 x9 x13) (qB x2 x6 x10 x14) (qC x3 x7 x11 x15) (qD x0 x4 x8 x12)) (qD (qA x1 x5 x9 x13) (qB x2 x6 x10 x14) (qC x3 x7 x11 x15) (qD x0 x4 x8 x12)) (qD x1 x5 x9 x13) (qD x2 x6 x10 x14) (qD (qA x0 x4 x8 x12) (qB x1 x5 x9 x13) (qC x2 x6 x10 x14) (qD x3 x7 x11 x15))) ?_; (focus ( first | rfl | (simp only [go_sem, valsIn, valIn, leafIn, leavesIn, nameIn, capsIn, handOk, hk, hn, chunks_bytes', List.length_drop, List.length_take, Int.reduceTMod, Int.toNat_one, hcq, hs1] <;> done) | (simp only [go_sem, valsIn, valIn, leafIn, leavesIn, nameIn, capsIn, handOk, hk, hn, chunks_bytes', List.length_drop, List.length_take, Int.reduceTMod, Int.toNat_one, hcq, hs1] <;> rfl) | (simp only [go_sem, valsIn, valIn, leafIn, leavesIn, nameIn, capsIn, handOk, hk, hn, chunks_bytes', List.length_drop, List.length_take, Int.reduceTMod, Int.toNat_one, hcq, hs1] <;> simp))); (focus ( first | rfl | (simp only [go_sem, valsIn, valIn, leafIn, leavesIn, nameIn, capsIn, handOk, hk, hn, chunks_bytes', List.length_drop, List.length_take, Int.reduceTMod, Int.toNat_one, hcq, hs1] <;> done) | (simp only [go_sem, valsIn, valIn, leafIn, leavesIn, nameIn, capsIn, handOk, hk, hn, chunks_bytes', List.length_drop, List.length_take, Int.reduceTMod, Int.toNat_one, hcq, hs1] <;> rfl) | (simp only [go_sem, valsIn, valIn, leafIn, leavesIn, nameIn, capsIn, handOk, hk, hn, chunks_bytes', List.length_drop, List.length_take, Int.reduceTMod, Int.toNat_one, hcq, hs1] <;> simp))))
   all_goals (rintro v m ⟨hR, hm⟩; subst hR; subst hm)
   all_goals refine And.intro (by (first | rfl | (simp only [go_sem, leafOutV, leafOutW, leafOut, okN, outOk, inv, hk, hn, chunks_bytes', List.length_drop, List.length_take, Int.reduceTMod, Int.toNat_one, hcq, hs1]; done) | (simp [go_sem, leafOutV, leafOutW, leafOut, okN, outOk, inv, look, hk, hn, chunks_bytes', List.length_drop, List.length_take, Int.reduceTMod, Int.toNat_one, hcq, hs1]; done))) (And.intro (by (first | rfl | (simp only [go_sem, leafOutV, leafOutW, leafOut, okN, outOk, inv, hk, hn, chunks_bytes', List.length_drop, List.length_take, Int.reduceTMod, Int.toNat_one, hcq, hs1]; done) | (simp [go_sem, leafOutV, leafOutW, leafOut, okN, outOk, inv, look, hk, hn, chunks_bytes', List.length_drop, List.length_take, Int.reduceTMod, Int.toNat_one, hcq, hs1]; done))) (And.intro (by (first | rfl | (simp only [go_sem, leafOutV, leafOutW, leafOut, okN, outOk, inv, hk, hn, chunks_bytes', List.length_drop, List.length_take, Int.reduceTMod, Int.toNat_one, hcq, hs1]; done) | (simp [go_sem, leafOutV, leafOutW, leafOut, okN, outOk, inv, look, hk, hn, chunks_bytes', List.length_drop, List.length_take, Int.reduceTMod, Int.toNat_one, hcq, hs1]; done))) ?_))
   all_goals (try simp only [go_sem, backM, outN, nameOut, Ob.ren, V.ren, W.ren, L.ren, setM, hk, hn, chunks_bytes', List.length_drop, List.length_take, Int.reduceTMod, Int.toNat_one, hcq, hs1])
   all_goals (try simp only [go_sem, hk, hn, chunks_bytes', List.length_drop, List.length_take, Int.reduceTMod, Int.toNat_one, hcq, hs1])
   all_goals repeat' (first | apply And.intro | intro _)
   refine hK178 _ ?_
   refine bn176 _ ?_
   refine hN175 _ ?_
   refine region_k fun K179 hK179 => ?_
   simp only [go_sem, hk, hn, chunks_bytes', List.length_drop, List.length_take, Int.reduceTMod, Int.toNat_one, hcq, hs1]
   all_goals repeat' (first | apply And.intro | intro _)
   refine hK179 _ ?_
   refine hN172 _ ?_
   refine rnd_forget [12, 57, 58, 59, 60, 61, 62, 63, 64, 65, 66, 67, 68, 69, 70, 71, 72, 73] ?_
   simp only [go_sem, St.forget, fgt]
   refine rnd_k fun N180 M180 hN180 hM180 => ?_
   refine sr_k fun K181 hK181 => ?_
   simp only [go_sem, hk, hn, chunks_bytes', List.length_drop, List.length_take, Int.reduceTMod, Int.toNat_one, hcq, hs1]
   all_goals repeat' (first | apply And.intro | intro _)
   refine hK181 _ ?_
   refine seq_k fun N182 M182 hN182 hM182 => ?_
   refine condT_k (by first | rfl | (simp [go_sem, hk, hn, chunks_bytes', List.length_drop, List.length_take, Int.reduceTMod, Int.toNat_one, hcq, hs1]; done)) ?_
   refine skip_k ?_
   refine hN182 _ ?_
   refine seq_k fun N183 M183 hN183 hM183 => ?_
   refine block_k fun B184 bn184 bx184 br184 bi184 => ?_
   refine sr_k fun K185 hK185 => ?_
   simp only [go_sem, hk, hn, chunks_bytes', List.length_drop, List.length_take, Int.reduceTMod, Int.toNat_one, hcq, hs1]
   all_goals repeat' (first | apply And.intro | intro _)
   refine hK185 _ ?_
   refine region_k fun K186 hK186 => ?_
   simp only [go_sem, hk, hn, chunks_bytes', List.length_drop, List.length_take, Int.reduceTMod, Int.toNat_one, hcq, hs1]
   all_goals repeat' (first | apply And.intro | intro _)
   all_goals (refine call_hand false [(500000, 7)] (fun k => k) (fun _ _ => rfl) ?_ (by decide) ?_ (quarter_7 (qA (qA x0 x4 x8 x12) (qB x1 x5 x9 x13) (qC x2 x6 x10 x14) (qD x3 x7 x11 x15)) (qA (qA x1 x5 x9 x13) (qB x2 x6 x10 x14) (qC x3 x7 x11 x15) (qD x0 x4 x8 x12)) (qA (qA x2 x6 x10 x14) (qB x3 x7 x11 x15) (qC x0 x4 x8 x12) (qD x1 x5 x9 x13)) (qA x3 x7 x11 x15) (qB x0 x4 x8 x12) (qB (qA x0 x4 x8 x12) (qB x1 x5 x9 x13) (qC x2 x6 x10 x14) (qD x3 x7 x11 x15)) (qB (qA x1 x5 x9 x13) (qB x2 x6 x10 x14) (qC x3 x7 x11 x15) (qD x0 x4 x8 x12)) (qB (qA x2 x6 x10 x14) (qB x3 x7 x11 x15) (qC x0 x4 x8 x12) (qD x1 x5 x9 x13)) (qC (qA x2 x6 x10 x14) (qB x3 x7 x11 x15) (qC x0 x4 x8 x12) (qD x1 x5 x9 x13)) (qC x1 x5 x9 x13) (qC (qA x0 x4 x8 x12) (qB x1 x5 x9 x13) (qC x2 x6 x10 x14) (qD x3 x7 x11 x15)) (qC (qA x1 x5 x9 x13) (qB x2 x6 x10 x14) (qC x3 x7 x11 x15) (qD x0 x4 x8 x12)) (qD (qA x1 x5 x9 x13) (qB x2 x6 x10 x14) (qC x3 x7 x11 x15) (qD x0 x4 x8 x12)) (qD (qA x2 x6 x10 x14) (qB x3 x7 x11 x15) (qC x0 x4 x8 x12) (qD x1 x5 x9 x13)) (qD x2 x6 x10 x14) (qD (qA x0 x4 x8 x12) (qB x1 x5 x9 x13) (qC x2 x6 x10 x14) (qD x3 x7 x11 x15))) ?_; (focus ( first | rfl | (simp only [go_sem, valsIn, valIn, leafIn, leavesIn, nameIn, capsIn, handOk, hk, hn, chunks_bytes', List.length_drop, List.length_take, Int.reduceTMod, Int.toNat_one, hcq, hs1] <;> done) | (simp only [go_sem, valsIn, valIn, leafIn, leavesIn, nameIn, capsIn, handOk, hk, hn, chunks_bytes', List.length_drop, List.length_take, Int.reduceTMod, Int.toNat_one, hcq, hs1] <;> rfl) | (simp only [go_sem, valsIn, valIn, leafIn, leavesIn, nameIn, capsIn, handOk, hk, hn, chunks_bytes', List.length_drop, List.length_take, Int.reduceTMod, Int.toNat_one, hcq, hs1] <;> simp))); (focus ( first | rfl | (simp only [go_sem, valsIn, valIn, leafIn, leavesIn, nameIn, capsIn, handOk, hk, hn, chunks_bytes', List.length_drop, List.length_take, Int.reduceTMod, Int.toNat_one, hcq, hs1] <;> done) | (simp only [go_sem, valsIn, valIn, leafIn, leavesIn, nameIn, capsIn, handOk, hk, hn, chunks_bytes', List.length_drop, List.length_take, Int.reduceTMod, Int.toNat_one, hcq, hs1] <;> rfl) | (simp only [go_sem, valsIn, valIn, leafIn, leavesIn, nameIn, capsIn, handOk, hk, hn, chunks_bytes', List.length_drop, List.length_take, Int.reduceTMod, Int.toNat_one, hcq, hs1] <;> simp))))
   all_goals (rintro v m ⟨hR, hm⟩; subst hR; subst hm)
   all_goals refine And.intro (by (first | rfl | (simp only [go_sem, leafOutV, leafOutW, leafOut, okN, outOk, inv, hk, hn, chunks_bytes', List.length_drop, List.length_take, Int.reduceTMod, Int.toNat_one, hcq, hs1]; done) | (simp [go_sem, leafOutV, leafOutW, leafOut, okN, outOk, inv, look, hk, hn, chunks_bytes', List.length_drop, List.length_take, Int.reduceTMod, Int.toNat_one, hcq, hs1]; done))) (And.intro (by (first | rfl | (simp only [go_sem, leafOutV, leafOutW, leafOut, okN, outOk, inv, hk, hn, chunks_bytes', List.length_drop, List.length_take, Int.reduceTMod, Int.toNat_one, hcq, hs1]; done) | (simp [go_sem, leafOutV, leafOutW, leafOut, okN, outOk, inv, look, hk, hn, chunks_bytes', List.length_drop, List.length_take, Int.reduceTMod, Int.toNat_one, hcq, hs1]; done))) (And.intro (by (first | rfl | (simp only [go_sem, leafOutV, leafOutW, leafOut, okN, outOk, inv, hk, hn, chunks_bytes', List.length_drop, List.length_take, Int.reduceTMod, Int.toNat_one, hcq, hs1]; done) | (simp [go_sem, leafOutV, leafOutW, leafOut, okN, outOk, inv, look, hk, hn, chunks_bytes', List.length_drop, List.length_take, Int.reduceTMod, Int.toNat_one, hcq, hs1]; done))) ?_))
   all_goals (try simp only [go_sem, backM, outN, nameOut, Ob.ren, V.ren, W.ren, L.ren, setM, hk, hn, chunks_bytes', List.length_drop, List.length_take, Int.reduceTMod, Int.toNat_one, hcq, hs1])
   all_goals (try simp only [go_sem, hk, hn, chunks_bytes', List.length_drop, List.length_take, Int.reduceTMod, Int.toNat_one, hcq, hs1])
   all_goals repeat' (first | apply And.intro | intro _)
   refine hK186 _ ?_
   refine bn184 _ ?_
   refine hN183 _ ?_
   refine region_k fun K187 hK187 => ?_
   simp only [go_sem, hk, hn, chunks_bytes', List.length_drop, List.length_take, Int.reduceTMod, Int.toNat_one, hcq, hs1]
   all_goals repeat' (first | apply And.intro | intro _)
   refine hK187 _ ?_
   refine hN180 _ ?_
   refine rnd_forget [12, 57, 58, 59, 60, 61, 62, 63, 64, 65, 66, 67, 68, 69, 70, 71, 72, 73] ?_
   simp only [go_sem, St.forget, fgt]
   refine rnd_k fun N188 M188 hN188 hM188 => ?_
   refine sr_k fun K189 hK189 => ?_
   simp only [go_sem, hk, hn, chunks_bytes', List.length_drop, List.length_take, Int.reduceTMod, Int.toNat_one, hcq, hs1]
   all_goals repeat' (first | apply And.intro | intro _)
   refine hK189 _ ?_
   refine seq_k fun N190 M190 hN190 hM190 => ?_
   refine condF_k (by first | rfl | (simp [go_sem, hk, hn, chunks_bytes', List.length_drop, List.length_take, Int.reduceTMod, Int.toNat_one, hcq, hs1]; done)) ?_
   refine exit_k ?_
   refine hM190 _ _ ?_
   refine hM188 _ _ ?_
   refine bx154 _ ?_
   refine bn113 _ ?_
   refine hN112 _ ?_
   refine region_k fun K191 hK191 => ?_
   simp only [go_sem, hk, hn, chunks_bytes', List.length_drop, List.length_take, Int.reduceTMod, Int.toNat_one, hcq, hs1]
   all_goals repeat' (first | apply And.intro | intro _)
   refine hK191 _ ?_
   refine hN109 ⟨k + 1, hlt⟩ _ ?_ ?_ ?_
   · (exact Nat.sub_lt_sub_left hlt (Nat.lt_succ_self k))
   · (simp only [go_sem, leX, List.cons_append, List.nil_append]; try simp)
   · (simp only [roundN, hq, go_sem, leX, List.cons_append, List.nil_append]; first | done | rfl | (simp [roundN, hq, W16.ls, W16.col, W16.diag, leX, look]; done))
 · obtain rfl : k = 10 := by omega
   have hcq : ¬ ((10 : Nat) : Int) < 10 := by omega
   obtain ⟨v, hv⟩ : ∃ v, roundN 10 Wi = v := ⟨_, rfl⟩
   simp only [hv]
   refine sr_k fun K192 hK192 => ?_
   simp only [go_sem, hk, hn, chunks_bytes', List.length_drop, List.length_take, Int.reduceTMod, Int.toNat_one, hcq]
   all_goals repeat' (first | apply And.intro | intro _)
   refine hK192 _ ?_
   refine seq_k fun N193 M193 hN193 hM193 => ?_
   refine condF_k (by first | rfl | (simp [go_sem, hk, hn, chunks_bytes', List.length_drop, List.length_take, Int.reduceTMod, Int.toNat_one, hcq]; done)) ?_
   refine exit_k ?_
   refine hM193 _ _ ?_
   refine hM109 _ _ ?_
   refine bx108 _ ?_
   refine hN106 _ ?_
   refine sr_k fun K194 hK194 => ?_
   simp only [go_sem, hk, hn, chunks_bytes', List.length_drop, List.length_take, Int.reduceTMod, Int.toNat_one, hcq]
   all_goals repeat' (first | apply And.intro | intro _)
   refine hK194 _ ?_
   refine seq_k fun N195 M195 hN195 hM195 => ?_
   refine sr_k fun K196 hK196 => ?_
   simp only [go_sem, hk, hn, chunks_bytes', List.length_drop, List.length_take, Int.reduceTMod, Int.toNat_one, hcq]
   all_goals repeat' (first | apply And.intro | intro _)
   refine hK196 _ ?_
   refine block_k fun B197 bn197 bx197 br197 bi197 => ?_
   refine ht_dropE [0, 1, 2, 3, 5, 8, 9, 11, 12, 17, 18, 19, 20, 21, 22, 23, 24, 25, 26, 27, 28, 29, 30, 31, 32, 33, 34, 35, 36, 37, 38, 39, 40, 41, 42, 43, 44, 45, 46, 47, 48, 49, 50, 51, 52, 53, 54, 55, 56, 57, 58, 59, 60, 61, 62, 63, 64, 65, 66, 67, 68, 69, 70, 71, 72, 73, 74] ?_
   simp only [dropE_mk, fgt_nil, fgt_cons, List.contains_cons, List.contains_nil, Nat.reduceBEq, beq_self_eq_true, Bool.or_false, Bool.or_true, Bool.true_or, Bool.false_or, Bool.false_eq_true, reduceIte]
   refine loop_k (fun y => [(75, .w (.one (.pl (.i ((y.1.1 : Nat) : Int)))))]) (fun y => [(7, ⟨false, u32C v.l⟩), (10, ⟨false, u32C Wi.l⟩), (13, ⟨false, bytesC y.1.2⟩)]) (fun y => 16 - y.1.1) (⟨(0, List.replicate 64 0), Nat.zero_le _, by simp, by simp⟩ : {y : Nat × List UInt8 // y.1 ≤ 16 ∧ y.2.length = 64 ∧ y.2.take (4 * y.1) ++ zipB (v.l.drop y.1) (Wi.l.drop y.1) = zipB v.l Wi.l}) ?_ ?_ ?_
   · (simp only [go_sem, leX, List.cons_append, List.nil_append]; try simp)
   · (simp only [go_sem, leX, List.cons_append, List.nil_append]; first | done | rfl | (subst hW; simp [W16.ls, W16.l, u32C, initW, leX, look]; done))
   intro yy N198 M198 hN198 hM198
   simp only [List.cons_append, List.nil_append]
   obtain ⟨⟨i, q⟩, hi, hq, hz⟩ := yy
   simp only at hi hq hz
   have hvl : v.l.length = 16 := rfl
   have hwl : Wi.l.length = 16 := rfl
   rcases Nat.lt_or_ge i 16 with hlt | hge
   · obtain ⟨a, ha⟩ : ∃ a, v.l.getD i 0 = a := ⟨_, rfl⟩
     obtain ⟨b, hb⟩ : ∃ b, Wi.l.getD i 0 = b := ⟨_, rfl⟩
     have h1 := u32_one (l := v.l) (i := i) (by omega)
     have h2 := u32_one (l := Wi.l) (i := i) (by omega)
     rw [ha] at h1
     rw [hb] at h2
     have hda := drop_cons32 (l := v.l) (j := i) (by omega)
     have hdb := drop_cons32 (l := Wi.l) (j := i) (by omega)
     rw [ha] at hda
     rw [hb] at hdb
     rw [hda, hdb, zipB, lowB4] at hz
     have hl1 := u32_len v.l
     have hl2 := u32_len Wi.l
     rw [hvl] at hl1
     rw [hwl] at hl2
     have hcq : ((i : Nat) : Int) < 16 := by omega
     have hc0 : (0 : Int) ≤ ((i : Nat) : Int) := by omega
     have hk2 : i + 1 ≤ 16 := by omega
     obtain ⟨b0, hb0⟩ : ∃ x, (shr32 (a + b) 0).toUInt8 = x := ⟨_, rfl⟩
     obtain ⟨b1, hb1⟩ : ∃ x, (shr32 (a + b) 8).toUInt8 = x := ⟨_, rfl⟩
     obtain ⟨b2, hb2⟩ : ∃ x, (shr32 (a + b) 16).toUInt8 = x := ⟨_, rfl⟩
     obtain ⟨b3, hb3⟩ : ∃ x, (shr32 (a + b) 24).toUInt8 = x := ⟨_, rfl⟩
     rw [hb0, hb1, hb2, hb3] at hz
     obtain ⟨r1, hr1⟩ : ∃ r, q.set (4 * i) b0 = r := ⟨_, rfl⟩
     obtain ⟨r2, hr2⟩ : ∃ r, r1.set (4 * i + 1) b1 = r := ⟨_, rfl⟩
     obtain ⟨r3, hr3⟩ : ∃ r, r2.set (4 * i + 2) b2 = r := ⟨_, rfl⟩
     obtain ⟨r4, hr4⟩ : ∃ r, r3.set (4 * i + 3) b3 = r := ⟨_, rfl⟩
     have g1 : r1.length = 64 := by rw [← hr1]; simp [hq]
     have g2 : r2.length = 64 := by rw [← hr2]; simp [g1]
     have g3 : r3.length = 64 := by rw [← hr3]; simp [g2]
     have g4 : r4.length = 64 := by rw [← hr4]; simp [g3]
     have p0 := put_set (q := q) (j := 4 * i) b0 (by omega)
     have p1 := put_set (q := r1) (j := 4 * i + 1) b1 (by omega)
     have p2 := put_set (q := r2) (j := 4 * i + 2) b2 (by omega)
     have p3 := put_set (q := r3) (j := 4 * i + 3) b3 (by omega)
     rw [hr1] at p0
     rw [hr2] at p1
     rw [hr3] at p2
     rw [hr4] at p3
     have n1 : r4.take (4 * (i + 1)) ++ zipB (v.l.drop (i + 1)) (Wi.l.drop (i + 1)) = zipB v.l Wi.l := by
      have := set4 (q := q) (j := 4 * i) (by omega) b0 b1 b2 b3
      rw [hr1, hr2, hr3, hr4] at this
      rw [← hz, Nat.mul_add, this, List.append_assoc]
     have d0 : (0 : Int) ≤ ((4 * i : Nat) : Int) ∧ ((4 * i : Nat) : Int) < 64 ∧ (0 : Int) ≤ ((4 * i + 1 : Nat) : Int) ∧ ((4 * i + 1 : Nat) : Int) < 64 ∧ (0 : Int) ≤ ((4 * i + 2 : Nat) : Int) ∧ ((4 * i + 2 : Nat) : Int) < 64 ∧ (0 : Int) ≤ ((4 * i + 3 : Nat) : Int) ∧ ((4 * i + 3 : Nat) : Int) < 64 := by omega
     have d1 : 4 * i + 1 ≤ 64 ∧ 4 * i + 1 + 1 ≤ 64 ∧ 4 * i + 2 + 1 ≤ 64 ∧ 4 * i + 3 + 1 ≤ 64 := by omega
     obtain ⟨hs1, hw8, hw4, hw5, hw6, hw7⟩ : Go.RowKit.wrap64 (((i : Nat) : Int) + 1) = ((i + 1 : Nat) : Int) ∧ Go.RowKit.wrap64 (((4 * i : Nat) : Int) + 0) = ((4 * i : Nat) : Int) ∧ Go.RowKit.wrap64 (4 * ((i : Nat) : Int)) = ((4 * i : Nat) : Int) ∧ Go.RowKit.wrap64 (((4 * i : Nat) : Int) + 1) = ((4 * i + 1 : Nat) : Int) ∧ Go.RowKit.wrap64 (((4 * i : Nat) : Int) + 2) = ((4 * i + 2 : Nat) : Int) ∧ Go.RowKit.wrap64 (((4 * i : Nat) : Int) + 3) = ((4 * i + 3 : Nat) : Int) := ⟨wnat (by omega) (by omega), wnat (by omega) (by omega), wnat (by omega) (by omega), wnat (by omega) (by omega), wnat (by omega) (by omega), wnat (by omega) (by omega)⟩
     have F198 := And.intro h1 <| And.intro h2 <| And.intro hl1 <| And.intro hl2 <| And.intro hcq <| And.intro hc0 <| And.intro hk2 <| And.intro hb0 <| And.intro hb1 <| And.intro hb2 <| And.intro hb3 <| And.intro hq <| And.intro g1 <| And.intro g2 <| And.intro g3 <| And.intro g4 <| And.intro p0 <| And.intro p1 <| And.intro p2 <| And.intro p3 <| And.intro d0 <| And.intro d1 <| And.intro hs1 <| And.intro hw4 <| And.intro hw5 <| And.intro hw6 <| And.intro hw7 <| hw8
     refine sr_k fun K199 hK199 => ?_
     simp only [go_sem, hk, hn, chunks_bytes', List.length_drop, List.length_take, Int.reduceTMod, Int.toNat_one, hcq, F198]
     all_goals repeat' (first | apply And.intro | intro _)
     refine hK199 _ ?_
     refine seq_k fun N200 M200 hN200 hM200 => ?_
     refine condT_k (by first | rfl | (simp [go_sem, hk, hn, chunks_bytes', List.length_drop, List.length_take, Int.reduceTMod, Int.toNat_one, hcq, F198]; done)) ?_
     refine skip_k ?_
     refine hN200 _ ?_
     refine seq_k fun N201 M201 hN201 hM201 => ?_
     refine block_k fun B202 bn202 bx202 br202 bi202 => ?_
     refine sr_k fun K203 hK203 => ?_
     simp only [go_sem, hk, hn, chunks_bytes', List.length_drop, List.length_take, Int.reduceTMod, Int.toNat_one, hcq, F198]
     all_goals repeat' (first | apply And.intro | intro _)
     refine hK203 _ ?_
     refine sd_k [78, 79, 80, 81, 82, 83, 84, 15] [0, 1, 3, 0, 8, 24, 63, 127] [] mixed (by kernel_rfl) (by simp only [go_sem]) fun K204 hK204 => ?_
     simp only [go_sem, hk, hn, chunks_bytes', List.length_drop, List.length_take, Int.reduceTMod, Int.toNat_one, hcq, F198]
     all_goals repeat' (first | apply And.intro | intro _)
     refine hK204 _ _ ?_ ?_
     · first | trivial | (simp only [go_sem]; done) | (simp only [go_sem]; simp; done) | (simp only [go_sem]; simp; simp only [go_sem])
     refine sr_k fun K205 hK205 => ?_
     simp only [go_sem, hk, hn, chunks_bytes', List.length_drop, List.length_take, Int.reduceTMod, Int.toNat_one, hcq, F198]
     all_goals repeat' (first | apply And.intro | intro _)
     refine hK205 _ ?_
     refine block_k fun B206 bn206 bx206 br206 bi206 => ?_
     refine rounds_k 5 ?_
     refine rnd_k fun N208 M208 hN208 hM208 => ?_
     refine sr_k fun K209 hK209 => ?_
     simp only [go_sem, hk, hn, chunks_bytes', List.length_drop, List.length_take, Int.reduceTMod, Int.toNat_one, hcq, F198]
     all_goals repeat' (first | apply And.intro | intro _)
     refine hK209 _ ?_
     refine seq_k fun N210 M210 hN210 hM210 => ?_
     refine condT_k (by first | rfl | (simp [go_sem, hk, hn, chunks_bytes', List.length_drop, List.length_take, Int.reduceTMod, Int.toNat_one, hcq, F198]; done)) ?_
     refine skip_k ?_
     refine hN210 _ ?_
     refine seq_k fun N211 M211 hN211 hM211 => ?_
     refine block_k fun B212 bn212 bx212 br212 bi212 => ?_
     refine sr_k fun K213 hK213 => ?_
     simp only [go_sem, hk, hn, chunks_bytes', List.length_drop, List.length_take, Int.reduceTMod, Int.toNat_one, hcq, F198]
     all_goals repeat' (first | apply And.intro | intro _)
     refine hK213 _ ?_
     refine region_k fun K214 hK214 => ?_
     simp only [go_sem, hk, hn, chunks_bytes', List.length_drop, List.length_take, Int.reduceTMod, Int.toNat_one, hcq, F198]
     all_goals repeat' (first | apply And.intro | intro _)
     refine hK214 _ ?_
     refine bn212 _ ?_
     refine hN211 _ ?_
     refine region_k fun K215 hK215 => ?_
     simp only [go_sem, hk, hn, chunks_bytes', List.length_drop, List.length_take, Int.reduceTMod, Int.toNat_one, hcq, F198]
     all_goals repeat' (first | apply And.intro | intro _)
     refine hK215 _ ?_
     refine hN208 _ ?_
     refine rnd_forget [16, 86, 87, 88, 89, 90, 91, 92, 93, 94, 95, 96, 97, 98] ?_
     simp only [go_sem, St.forget, fgt]
     refine rnd_k fun N216 M216 hN216 hM216 => ?_
     refine sr_k fun K217 hK217 => ?_
     simp only [go_sem, hk, hn, chunks_bytes', List.length_drop, List.length_take, Int.reduceTMod, Int.toNat_one, hcq, F198]
     all_goals repeat' (first | apply And.intro | intro _)
     refine hK217 _ ?_
     refine seq_k fun N218 M218 hN218 hM218 => ?_
     refine condT_k (by first | rfl | (simp [go_sem, hk, hn, chunks_bytes', List.length_drop, List.length_take, Int.reduceTMod, Int.toNat_one, hcq, F198]; done)) ?_
     refine skip_k ?_
     refine hN218 _ ?_
     refine seq_k fun N219 M219 hN219 hM219 => ?_
     refine block_k fun B220 bn220 bx220 br220 bi220 => ?_
     refine sr_k fun K221 hK221 => ?_
     simp only [go_sem, hk, hn, chunks_bytes', List.length_drop, List.length_take, Int.reduceTMod, Int.toNat_one, hcq, F198]
     all_goals repeat' (first | apply And.intro | intro _)
     refine hK221 _ ?_
     refine region_k fun K222 hK222 => ?_
     simp only [go_sem, hk, hn, chunks_bytes', List.length_drop, List.length_take, Int.reduceTMod, Int.toNat_one, hcq, F198]
     all_goals repeat' (first | apply And.intro | intro _)
     refine hK222 _ ?_
     refine bn220 _ ?_
     refine hN219 _ ?_
     refine region_k fun K223 hK223 => ?_
     simp only [go_sem, hk, hn, chunks_bytes', List.length_drop, List.length_take, Int.reduceTMod, Int.toNat_one, hcq, F198]
     all_goals repeat' (first | apply And.intro | intro _)
     refine hK223 _ ?_
     refine hN216 _ ?_
     refine rnd_forget [16, 86, 87, 88, 89, 90, 91, 92, 93, 94, 95, 96, 97, 98] ?_
     simp only [go_sem, St.forget, fgt]
     refine rnd_k fun N224 M224 hN224 hM224 => ?_
     refine sr_k fun K225 hK225 => ?_
     simp only [go_sem, hk, hn, chunks_bytes', List.length_drop, List.length_take, Int.reduceTMod, Int.toNat_one, hcq, F198]
     all_goals repeat' (first | apply And.intro | intro _)
     refine hK225 _ ?_
     refine seq_k fun N226 M226 hN226 hM226 => ?_
     refine condT_k (by first | rfl | (simp [go_sem, hk, hn, chunks_bytes', List.length_drop, List.length_take, Int.reduceTMod, Int.toNat_one, hcq, F198]; done)) ?_
     refine skip_k ?_
     refine hN226 _ ?_
     refine seq_k fun N227 M227 hN227 hM227 => ?_
     refine block_k fun B228 bn228 bx228 br228 bi228 => ?_
     refine sr_k fun K229 hK229 => ?_
     simp only [go_sem, hk, hn, chunks_bytes', List.length_drop, List.length_take, Int.reduceTMod, Int.toNat_one, hcq, F198]
     all_goals repeat' (first | apply And.intro | intro _)
     refine hK229 _ ?_
     refine region_k fun K230 hK230 => ?_
     simp only [go_sem, hk, hn, chunks_bytes', List.length_drop, List.length_take, Int.reduceTMod, Int.toNat_one, hcq, F198]
     all_goals repeat' (first | apply And.intro | intro _)
     refine hK230 _ ?_
     refine bn228 _ ?_
     refine hN227 _ ?_
     refine region_k fun K231 hK231 => ?_
     simp only [go_sem, hk, hn, chunks_bytes', List.length_drop, List.length_take, Int.reduceTMod, Int.toNat_one, hcq, F198]
     all_goals repeat' (first | apply And.intro | intro _)
     refine hK231 _ ?_
     refine hN224 _ ?_
     refine rnd_forget [16, 86, 87, 88, 89, 90, 91, 92, 93, 94, 95, 96, 97, 98] ?_
     simp only [go_sem, St.forget, fgt]
     refine rnd_k fun N232 M232 hN232 hM232 => ?_
     refine sr_k fun K233 hK233 => ?_
     simp only [go_sem, hk, hn, chunks_bytes', List.length_drop, List.length_take, Int.reduceTMod, Int.toNat_one, hcq, F198]
     all_goals repeat' (first | apply And.intro | intro _)
     refine hK233 _ ?_
     refine seq_k fun N234 M234 hN234 hM234 => ?_
     refine condT_k (by first | rfl | (simp [go_sem, hk, hn, chunks_bytes', List.length_drop, List.length_take, Int.reduceTMod, Int.toNat_one, hcq, F198]; done)) ?_
     refine skip_k ?_
     refine hN234 _ ?_
     refine seq_k fun N235 M235 hN235 hM235 => ?_
     refine block_k fun B236 bn236 bx236 br236 bi236 => ?_
     refine sr_k fun K237 hK237 => ?_
     simp only [go_sem, hk, hn, chunks_bytes', List.length_drop, List.length_take, Int.reduceTMod, Int.toNat_one, hcq, F198]
     all_goals repeat' (first | apply And.intro | intro _)
     refine hK237 _ ?_
     refine region_k fun K238 hK238 => ?_
     simp only [go_sem, hk, hn, chunks_bytes', List.length_drop, List.length_take, Int.reduceTMod, Int.toNat_one, hcq, F198]
     all_goals repeat' (first | apply And.intro | intro _)
     refine hK238 _ ?_
     refine bn236 _ ?_
     refine hN235 _ ?_
     refine region_k fun K239 hK239 => ?_
     simp only [go_sem, hk, hn, chunks_bytes', List.length_drop, List.length_take, Int.reduceTMod, Int.toNat_one, hcq, F198]
     all_goals repeat' (first | apply And.intro | intro _)
     refine hK239 _ ?_
     refine hN232 _ ?_
     refine rnd_forget [16, 86, 87, 88, 89, 90, 91, 92, 93, 94, 95, 96, 97, 98] ?_
     simp only [go_sem, St.forget, fgt]
     refine rnd_k fun N240 M240 hN240 hM240 => ?_
     refine sr_k fun K241 hK241 => ?_
     simp only [go_sem, hk, hn, chunks_bytes', List.length_drop, List.length_take, Int.reduceTMod, Int.toNat_one, hcq, F198]
     all_goals repeat' (first | apply And.intro | intro _)
     refine hK241 _ ?_
     refine seq_k fun N242 M242 hN242 hM242 => ?_
     refine condF_k (by first | rfl | (simp [go_sem, hk, hn, chunks_bytes', List.length_drop, List.length_take, Int.reduceTMod, Int.toNat_one, hcq, F198]; done)) ?_
     refine exit_k ?_
     refine hM242 _ _ ?_
     refine hM240 _ _ ?_
     refine bx206 _ ?_
     refine bn202 _ ?_
     refine hN201 _ ?_
     refine region_k fun K243 hK243 => ?_
     simp only [go_sem, hk, hn, chunks_bytes', List.length_drop, List.length_take, Int.reduceTMod, Int.toNat_one, hcq, F198]
     all_goals repeat' (first | apply And.intro | intro _)
     refine hK243 _ ?_
     refine hN198 ⟨(i + 1, r4), hlt, g4, n1⟩ _ ?_ ?_ ?_
     · (exact Nat.sub_lt_sub_left hlt (Nat.lt_succ_self i))
     · (simp only [go_sem, leX, List.cons_append, List.nil_append]; try simp)
     · (simp only [go_sem, leX, List.cons_append, List.nil_append]; try simp)
   · obtain rfl : i = 16 := by omega
     have hcq : ¬ ((16 : Nat) : Int) < 16 := by omega
     have hfin : q = blockV Wi := by
      rw [blockV, hv, ← hz, List.drop_of_length_le (by omega), List.take_of_length_le (by omega)]; simp [zipB]
     refine sr_k fun K244 hK244 => ?_
     simp only [go_sem, hk, hn, chunks_bytes', List.length_drop, List.length_take, Int.reduceTMod, Int.toNat_one, hcq, hq]
     all_goals repeat' (first | apply And.intro | intro _)
     refine hK244 _ ?_
     refine seq_k fun N245 M245 hN245 hM245 => ?_
     refine condF_k (by first | rfl | (simp [go_sem, hk, hn, chunks_bytes', List.length_drop, List.length_take, Int.reduceTMod, Int.toNat_one, hcq, hq]; done)) ?_
     refine exit_k ?_
     refine hM245 _ _ ?_
     refine hM198 _ _ ?_
     refine bx197 _ ?_
     refine hN195 _ ?_
     refine sr_k fun K246 hK246 => ?_
     simp only [go_sem, hk, hn, chunks_bytes', List.length_drop, List.length_take, Int.reduceTMod, Int.toNat_one, hcq, hq]
     all_goals repeat' (first | apply And.intro | intro _)
     refine hK246 _ ?_
     refine ret_k ?_
     simp only [go_sem, hk, hn, chunks_bytes', List.length_drop, List.length_take, Int.reduceTMod, Int.toNat_one, hcq, hq]
     all_goals (first | (rw [hfin]; done) | (rw [hfin]; rfl))
end Go.Sy
