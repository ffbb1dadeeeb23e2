/- The block's words, its rounds: what both sides reckon. -/
import Derived.Test.YtcmcnfjdfcianaaDoorvqgB2
import Derived.Test.YtcmcnfjdfcianaaDoorvE3
set_option linter.unusedVariables false
set_option linter.unusedSimpArgs false
namespace Go.Sy
namespace Bk
open Go.Proofs
attribute [local irreducible] atCall HT runOps runD onC onE onO onG goV goA goS onSt onGuard
theorem wnat2 {a : Int} {n : Nat} (h : a = (n : Int)) (hn : n ≤ 9223372036854775807) : Go.RowKit.wrap64 a = (n : Int) := wnat h hn
def wordAt (b : List UInt8) (k : Nat) : UInt32 := (lev ((b.drop (4 * k)).take 4)).toUInt32
theorem shl_or8 {x : UInt32} {b : UInt8} (h : x.toNat < 16777216) : (shl32 x 8 ||| b.toUInt32).toNat = x.toNat * 256 + b.toNat := by
 have hb := b.toNat_lt
 have s : (shl32 x 8).toNat = x.toNat * 2 ^ 8 := by
  simp only [shl32, UInt32.toNat_ofNat']
  exact Nat.mod_eq_of_lt (by omega)
 rw [UInt32.toNat_or, s, UInt8.toNat_toUInt32, Nat.mul_comm, ← Nat.two_pow_add_eq_or_of_lt (i := 8) hb]
theorem word_acc {b0 b1 b2 b3 : UInt8} : shl32 (shl32 (shl32 (shl32 0 8 ||| b3.toUInt32) 8 ||| b2.toUInt32) 8 ||| b1.toUInt32) 8 ||| b0.toUInt32 = (lev [b0, b1, b2, b3]).toUInt32 := by
 have h0 := b0.toNat_lt
 have h1 := b1.toNat_lt
 have h2 := b2.toNat_lt
 have h3 := b3.toNat_lt
 have e0 : ((0 : UInt32)).toNat = 0 := rfl
 have e3 := shl_or8 (x := 0) (b := b3) (by rw [e0]; decide)
 have e2 := shl_or8 (x := shl32 0 8 ||| b3.toUInt32) (b := b2) (by rw [e3, e0]; omega)
 have e1 := shl_or8 (x := shl32 (shl32 0 8 ||| b3.toUInt32) 8 ||| b2.toUInt32) (b := b1) (by rw [e2, e3, e0]; omega)
 have ee := shl_or8 (x := shl32 (shl32 (shl32 0 8 ||| b3.toUInt32) 8 ||| b2.toUInt32) 8 ||| b1.toUInt32) (b := b0) (by rw [e1, e2, e3, e0]; omega)
 apply UInt32.toNat_inj.mp
 rw [ee, e1, e2, e3, e0, UInt64.toNat_toUInt32]
 rw [lev_nat (by simp)]
 simp only [leN]; omega
theorem take4 {l : List UInt8} {j : Nat} (h : j + 4 ≤ l.length) : (l.drop j).take 4 = [l.getD j 0, l.getD (j + 1) 0, l.getD (j + 2) 0, l.getD (j + 3) 0] := by
 rw [drop_cons (by omega), drop_cons (l := l) (j := j + 1) (by omega), drop_cons (l := l) (j := j + 1 + 1) (by omega), drop_cons (l := l) (j := j + 1 + 1 + 1) (by omega)]
 rfl
theorem u8_one {q : List UInt8} {i : Nat} (h : i < q.length) : List.take 1 (List.drop i q) = [q.getD i 0] := by
 rw [List.drop_eq_getElem_cons h, List.take_succ_cons, List.take_zero]
 simp [List.getD, List.getElem?_eq_getElem h]
theorem bytesC_1 (x : UInt8) : bytesC [x] = [.pl (.u8 x)] := rfl
theorem u32_one {l : List UInt32} {i : Nat} (h : i < l.length) : List.take 1 (List.drop i (u32C l)) = [.pl (.u32 (l.getD i 0))] := by
 rw [List.drop_eq_getElem_cons (by simpa [u32C] using h), List.take_succ_cons, List.take_zero]
 simp [u32C, List.getD, List.getElem?_eq_getElem h]
theorem u32_len (l : List UInt32) : (u32C l).length = l.length := by simp [u32C]
theorem u32_any (k : Nat) (l : List UInt32) : (u32C l).any (L.has k) = false := by
 rw [List.any_eq_false]
 intro x hx
 obtain ⟨y, _, rfl⟩ := List.mem_map.mp hx
 simp [L.has]
theorem u32_kill (k : Nat) (l : List UInt32) : (u32C l).map (killL k) = u32C l := by simp only [u32C, List.map_map]; rfl
theorem put_set32 {q : List UInt32} {j : Nat} (x : UInt32) (h : j < q.length) : List.take j (u32C q) ++ [L.pl (PL.u32 x)] ++ List.drop (j + 1) (u32C q) = u32C (q.set j x) := by
 rw [List.set_eq_take_append_cons_drop, if_pos h]; simp [u32C]
theorem getD_set32 {q : List UInt32} {i j : Nat} {x : UInt32} (h : i < q.length) : (q.set i x).getD j 0 = if i = j then x else q.getD j 0 := by
 simp only [List.getD, List.getElem?_set]
 split
 · rename_i e; subst e; simp [h]
 · rfl
structure W16 where
 x0 : UInt32
 x1 : UInt32
 x2 : UInt32
 x3 : UInt32
 x4 : UInt32
 x5 : UInt32
 x6 : UInt32
 x7 : UInt32
 x8 : UInt32
 x9 : UInt32
 x10 : UInt32
 x11 : UInt32
 x12 : UInt32
 x13 : UInt32
 x14 : UInt32
 x15 : UInt32
def W16.ls (w : W16) : List L := [.pl (.u32 w.x0), .pl (.u32 w.x1), .pl (.u32 w.x2), .pl (.u32 w.x3), .pl (.u32 w.x4), .pl (.u32 w.x5), .pl (.u32 w.x6), .pl (.u32 w.x7), .pl (.u32 w.x8), .pl (.u32 w.x9), .pl (.u32 w.x10), .pl (.u32 w.x11), .pl (.u32 w.x12), .pl (.u32 w.x13), .pl (.u32 w.x14), .pl (.u32 w.x15)]
theorem ls_any (k : Nat) (w : W16) : w.ls.any (L.has k) = false := by simp [W16.ls, L.has]
theorem ls_kill (k : Nat) (w : W16) : w.ls.map (killL k) = w.ls := rfl
theorem ordC_any (k : Nat) : ordC.any (L.has k) = false := by
 rw [List.any_eq_false]
 intro x hx
 obtain ⟨y, _, rfl⟩ := List.mem_map.mp hx
 simp [L.has]
theorem ordC_kill (k : Nat) : ordC.map (killL k) = ordC := by simp only [ordC, List.map_map]; rfl
attribute [go_sem] u32_any u32_kill ls_any ls_kill ordC_any ordC_kill
def W16.col (y : Nat → UInt32) (w : W16) : W16 := ⟨(mA w.x0 w.x4 w.x8 w.x12 (y 0) (y 1)), (mA w.x1 w.x5 w.x9 w.x13 (y 2) (y 3)), (mA w.x2 w.x6 w.x10 w.x14 (y 4) (y 5)), (mA w.x3 w.x7 w.x11 w.x15 (y 6) (y 7)), (mB w.x0 w.x4 w.x8 w.x12 (y 0) (y 1)), (mB w.x1 w.x5 w.x9 w.x13 (y 2) (y 3)), (mB w.x2 w.x6 w.x10 w.x14 (y 4) (y 5)), (mB w.x3 w.x7 w.x11 w.x15 (y 6) (y 7)), (mC w.x0 w.x4 w.x8 w.x12 (y 0) (y 1)), (mC w.x1 w.x5 w.x9 w.x13 (y 2) (y 3)), (mC w.x2 w.x6 w.x10 w.x14 (y 4) (y 5)), (mC w.x3 w.x7 w.x11 w.x15 (y 6) (y 7)), (mD w.x0 w.x4 w.x8 w.x12 (y 0) (y 1)), (mD w.x1 w.x5 w.x9 w.x13 (y 2) (y 3)), (mD w.x2 w.x6 w.x10 w.x14 (y 4) (y 5)), (mD w.x3 w.x7 w.x11 w.x15 (y 6) (y 7))⟩
def W16.diag (y : Nat → UInt32) (w : W16) : W16 := ⟨(mA w.x0 w.x5 w.x10 w.x15 (y 8) (y 9)), (mA w.x1 w.x6 w.x11 w.x12 (y 10) (y 11)), (mA w.x2 w.x7 w.x8 w.x13 (y 12) (y 13)), (mA w.x3 w.x4 w.x9 w.x14 (y 14) (y 15)), (mB w.x3 w.x4 w.x9 w.x14 (y 14) (y 15)), (mB w.x0 w.x5 w.x10 w.x15 (y 8) (y 9)), (mB w.x1 w.x6 w.x11 w.x12 (y 10) (y 11)), (mB w.x2 w.x7 w.x8 w.x13 (y 12) (y 13)), (mC w.x2 w.x7 w.x8 w.x13 (y 12) (y 13)), (mC w.x3 w.x4 w.x9 w.x14 (y 14) (y 15)), (mC w.x0 w.x5 w.x10 w.x15 (y 8) (y 9)), (mC w.x1 w.x6 w.x11 w.x12 (y 10) (y 11)), (mD w.x1 w.x6 w.x11 w.x12 (y 10) (y 11)), (mD w.x2 w.x7 w.x8 w.x13 (y 12) (y 13)), (mD w.x3 w.x4 w.x9 w.x14 (y 14) (y 15)), (mD w.x0 w.x5 w.x10 w.x15 (y 8) (y 9))⟩
def mixW (b : List UInt8) (r i : Nat) : UInt32 := wordAt b (ordN r i)
def roundB (b : List UInt8) : Nat → W16 → W16
 | 0, w => w
 | k + 1, w => ((roundB b k w).col (mixW b k)).diag (mixW b k)
structure H8 where
 h0 : UInt32
 h1 : UInt32
 h2 : UInt32
 h3 : UInt32
 h4 : UInt32
 h5 : UInt32
 h6 : UInt32
 h7 : UInt32
def H8.ls (w : H8) : List L := [.pl (.u32 w.h0), .pl (.u32 w.h1), .pl (.u32 w.h2), .pl (.u32 w.h3), .pl (.u32 w.h4), .pl (.u32 w.h5), .pl (.u32 w.h6), .pl (.u32 w.h7)]
theorem h8_any (k : Nat) (w : H8) : w.ls.any (L.has k) = false := by simp [H8.ls, L.has]
theorem h8_kill (k : Nat) (w : H8) : w.ls.map (killL k) = w.ls := rfl
attribute [go_sem] h8_any h8_kill
def iniW (h : H8) (len : Nat) (last : Bool) : W16 := ⟨h.h0, h.h1, h.h2, h.h3, h.h4, h.h5, h.h6, h.h7, 1779033703, 3144134277, 1013904242, 2773480762, 1359893119 ^^^ UInt32.ofNat len, 2600822924, if last then ~~~528734635 else 528734635, 1541459225⟩
def outW (h : H8) (w : W16) : H8 := ⟨h.h0 ^^^ (w.x0 ^^^ w.x8), h.h1 ^^^ (w.x1 ^^^ w.x9), h.h2 ^^^ (w.x2 ^^^ w.x10), h.h3 ^^^ (w.x3 ^^^ w.x11), h.h4 ^^^ (w.x4 ^^^ w.x12), h.h5 ^^^ (w.x5 ^^^ w.x13), h.h6 ^^^ (w.x6 ^^^ w.x14), h.h7 ^^^ (w.x7 ^^^ w.x15)⟩
def soakB (h : H8) (b : List UInt8) (len : Nat) (last : Bool) : H8 := outW h (roundB b 10 (iniW h len last))
end Bk
end Go.Sy
