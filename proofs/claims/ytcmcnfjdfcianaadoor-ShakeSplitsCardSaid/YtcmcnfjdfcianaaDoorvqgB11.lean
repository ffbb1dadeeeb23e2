/- The end of a sum: bytes of words; the walks of both. -/
import Derived.Test.YtcmcnfjdfcianaaDoorvqgB10
import Derived.Test.YtcmcnfjdfcianaaDoorvqgB6
set_option linter.unusedVariables false
set_option linter.unusedSimpArgs false
namespace Go.Sy
namespace Bk
open Go.Proofs
attribute [local irreducible] atCall HT runOps runD onC onE onO onG goV goA goS onSt onGuard
def keyB (ws : List UInt32) : List UInt8 := ws.flatMap fun x => lowB x.toUInt64 4
theorem low4 (x : UInt32) : lowB x.toUInt64 4 = [(shr32 x 0).toUInt8, (shr32 x 8).toUInt8, (shr32 x 16).toUInt8, (shr32 x 24).toUInt8] := by
 have e : ∀ y : UInt64, (y / 256).toNat = y.toNat / 256 := fun y => by rw [UInt64.toNat_div]; rfl
 have hx := x.toNat_lt
 have g : ∀ (y : UInt32) (n : Nat), y.toNat = n → UInt8.ofNat n = y.toUInt8 := fun y n h => by
  apply UInt8.toNat_inj.mp
  rw [← h, UInt8.toNat_ofNat', UInt32.toNat_toUInt8]
 have t : ∀ c, (shr32 x c).toNat = x.toNat / 2 ^ c := fun c => by
  rw [shr32, UInt32.toNat_ofNat']
  exact Nat.mod_eq_of_lt (Nat.lt_of_le_of_lt (Nat.div_le_self _ _) hx)
 simp only [lowB, List.cons.injEq, and_true]
 refine ⟨?_, ?_, ?_, ?_⟩
 all_goals refine g _ _ ?_
 all_goals simp only [t, e, UInt32.toNat_toUInt64, Nat.div_div_eq_div_mul]
 all_goals simp
theorem put_len {q : List UInt8} {i : Nat} (hq : q.length = 32) (hi : i < 32) (x : UInt8) : (q.take i ++ x :: q.drop (i + 1)).length = 32 := by
 rw [List.length_append, List.length_cons, List.length_take, List.length_drop]; omega
theorem plain_bytes (l : List UInt8) : plainW (.agg (bytesC l)) = true := by
 simp [plainW, bytesC]
theorem plain_key (l : List UInt8) (e : Int) : plainV (.tup [.agg (bytesC l), .one (.pl (.i e))]) = true := by
 simp only [plainV, List.all_cons, plain_bytes]; rfl
theorem u32_ren (e : Nat → Nat) (l : List UInt32) : (u32C l).map (L.ren e) = u32C l := by simp only [u32C, List.map_map]; rfl
theorem h8_ren (e : Nat → Nat) (h : H8) : h.ls.map (L.ren e) = h.ls := rfl
attribute [go_sem] u32_ren h8_ren
def H8.l (h : H8) : List UInt32 := [h.h0, h.h1, h.h2, h.h3, h.h4, h.h5, h.h6, h.h7]
theorem H8.ls_l (h : H8) : h.ls = u32C h.l := rfl
theorem H8.l_length (h : H8) : h.l.length = 8 := rfl
theorem keyB_length (h : H8) : (keyB h.l).length = 32 := by simp [keyB, H8.l, lowB_length]
theorem keyB_at (h : H8) (i : Nat) (hi : i < 32) : (shr32 (h.l.getD (i / 4) 0) (8 * (i % 4))).toUInt8 = (keyB h.l).getD i 0 := by
 simp only [keyB, H8.l, List.flatMap_cons, List.flatMap_nil, low4, List.cons_append, List.nil_append]
 match i, hi with
 | 0, _ => rfl
 | 1, _ => rfl
 | 2, _ => rfl
 | 3, _ => rfl
 | 4, _ => rfl
 | 5, _ => rfl
 | 6, _ => rfl
 | 7, _ => rfl
 | 8, _ => rfl
 | 9, _ => rfl
 | 10, _ => rfl
 | 11, _ => rfl
 | 12, _ => rfl
 | 13, _ => rfl
 | 14, _ => rfl
 | 15, _ => rfl
 | 16, _ => rfl
 | 17, _ => rfl
 | 18, _ => rfl
 | 19, _ => rfl
 | 20, _ => rfl
 | 21, _ => rfl
 | 22, _ => rfl
 | 23, _ => rfl
 | 24, _ => rfl
 | 25, _ => rfl
 | 26, _ => rfl
 | 27, _ => rfl
 | 28, _ => rfl
 | 29, _ => rfl
 | 30, _ => rfl
 | 31, _ => rfl
 | n + 32, h => exact absurd h (by omega)
theorem set_take {q r : List UInt8} {i : Nat} (hq : q.length = 32) (hr : r.length = 32) (hi : i < 32) (h : q.take i = r.take i) : (q.take i ++ r.getD i 0 :: q.drop (i + 1)).take (i + 1) = r.take (i + 1) := by
 have l : (q.take i).length = i := by rw [List.length_take]; omega
 rw [List.take_append, l, List.take_of_length_le (by omega), show i + 1 - i = 1 from by omega, List.take_succ_cons, List.take_zero, h]
 rw [List.take_add_one, List.getElem?_eq_getElem (by omega)]
 simp [List.getD, List.getElem?_eq_getElem (show i < r.length by omega)]
set_option maxHeartbeats 800000 in
set_option maxRecDepth 100000 in
theorem key_ (l : List UInt8) (hl : l.length = 32) :
 Ct Tryd.prog 60 [.w (.one (.pl (.str l)))] (fun v m => v = .w (.agg (bytesC l))) := by
 have h1 : List.take 32 l = l := List.take_of_length_le (by omega)
 have h2 : List.drop 32 (List.replicate 32 (0 : UInt8)) = [] := rfl
 have F0 := And.intro hl <| And.intro h1 <| h2
 refine Ct.k Tryd.func60 rfl Tryd.ntmps60 (congrArg Array.toList Tryd.results60) (by simp) fun w0 ro => ?_
 refine top_k fun zZ zhZ => ?_
 iterate 11 first
  | (refine seq_k fun zN zM zhN zhM => ?_; refine text_k (id := 2) [4, 5, 6] (by simp only [go_sem]) fun zK zhK => ?_; simp only [go_sem, Nat.min_self, F0]; (repeat' (first | apply And.intro | intro _)))
  | (refine sr_k fun zK zhK => ?_; simp only [go_sem, Nat.min_self, F0]; (repeat' (first | apply And.intro | intro _)))
  | refine zhK _ ?_
  | refine zhK _ _ ?_
  | (refine zhN _ ?_; clear zhN zhM)
  | refine ret_k ?_
  | (refine zhZ _ _ ?_; simp only [go_sem, Nat.min_self, F0]; (all_goals (rfl)))
set_option maxHeartbeats 800000 in
set_option maxRecDepth 100000 in
theorem text_ (l : List UInt8) (hl : l.length = 32) :
 Ct Tryd.prog 29 [.w (.agg (bytesC l))] (fun v m => v = .w (.one (.pl (.str l)))) := by
 refine Ct.k Tryd.func29 rfl Tryd.ntmps29 (congrArg Array.toList Tryd.results29) (by simp) fun w0 ro => ?_
 refine top_k fun zZ zhZ => ?_
 iterate 6 first
  | (refine sr_k fun zK zhK => ?_; simp only [go_sem, hl]; (repeat' (first | apply And.intro | intro _)))
  | refine zhK _ ?_
  | refine ret_k ?_
  | (refine zhZ _ _ ?_; simp only [go_sem, hl]; (all_goals rfl))
theorem same32 {l : List UInt8} (h : l.length = 32) : aggEq Tryd.prog 23 (bytesC l) (bytesC l) = some true := by
 rw [ae23 (kinds_bytes h) (kinds_bytes h), eqC_bytes rfl]; simp
def firstU : List UInt32 := [1779033703, 3144134277, 1013904242, 2773480762, 1359893119, 2600822924, 528734635, 1541459225]
def ordZ : List (List Int) := [[0, 1, 2, 3, 4, 5, 6, 7, 8, 9, 10, 11, 12, 13, 14, 15], [14, 10, 4, 8, 9, 15, 13, 6, 1, 12, 0, 2, 11, 7, 5, 3], [11, 8, 12, 0, 5, 2, 15, 13, 10, 14, 3, 6, 7, 1, 9, 4], [7, 9, 3, 1, 13, 12, 11, 14, 2, 6, 5, 10, 4, 0, 15, 8], [9, 0, 5, 7, 2, 4, 10, 15, 14, 1, 11, 12, 6, 8, 3, 13], [2, 12, 6, 10, 0, 11, 8, 3, 4, 13, 7, 5, 15, 14, 1, 9], [12, 5, 1, 15, 14, 13, 4, 10, 0, 7, 6, 3, 9, 2, 8, 11], [13, 11, 7, 14, 12, 1, 3, 9, 5, 0, 15, 4, 8, 6, 2, 10], [6, 15, 14, 9, 11, 3, 0, 8, 12, 2, 13, 7, 1, 4, 10, 5], [10, 2, 8, 4, 7, 6, 1, 5, 15, 11, 9, 14, 3, 12, 13, 0]]
end Bk
end Go.Sy
