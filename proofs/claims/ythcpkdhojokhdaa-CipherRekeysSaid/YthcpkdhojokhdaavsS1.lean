/- Bytes filled up; a number in eight bytes. -/
import Derived.Test.YthcpkdhojokhdaaveT
import Derived.Test.YthcpkdhojokhdaavE3
import Derived.Test.YthcpkdhojokhdaavP3
set_option linter.unusedVariables false
set_option linter.unusedSimpArgs false
namespace Go.Sy
open Go.Proofs
attribute [local irreducible] atCall HT runOps runD onC onE onO onG goV goA goS onSt onGuard
theorem wnat {a : Int} {n : Nat} (h : a = (n : Int)) (hn : n ≤ 9223372036854775807) : Go.RowKit.wrap64 a = (n : Int) := by subst h; exact w64 (by omega)
theorem iand15 (n : Nat) (hn : n ≤ 9223372036854775807) : iand (-((n : Nat) : Int)) 15 = (((16 - n % 16) % 16 : Nat) : Int) := by
 have e : (BitVec.ofInt 64 (-((n : Nat) : Int)) &&& BitVec.ofInt 64 15).toNat = (16 - n % 16) % 16 := by
  rw [BitVec.toNat_and, BitVec.toNat_ofInt, show (BitVec.ofInt 64 15).toNat = 2 ^ 4 - 1 from rfl, Nat.and_two_pow_sub_one_eq_mod]
  omega
 unfold iand
 rw [e]
 exact w64 (by omega)
def padN (b : List UInt8) : Nat := (16 - b.length % 16) % 16
def padB (b : List UInt8) : List UInt8 := b ++ List.replicate (padN b) 0
theorem rep_zero (n : Nat) : List.replicate n (L.pl (PL.u8 0)) = bytesC (List.replicate n 0) := by simp [bytesC]
def eightB (n : Nat) : List UInt8 := [UInt8.ofNat (ishr ((n : Nat) : Int) 0 % 256).toNat, UInt8.ofNat (ishr ((n : Nat) : Int) 8 % 256).toNat, UInt8.ofNat (ishr ((n : Nat) : Int) 16 % 256).toNat, UInt8.ofNat (ishr ((n : Nat) : Int) 24 % 256).toNat, UInt8.ofNat (ishr ((n : Nat) : Int) 32 % 256).toNat, UInt8.ofNat (ishr ((n : Nat) : Int) 40 % 256).toNat, UInt8.ofNat (ishr ((n : Nat) : Int) 48 % 256).toNat, UInt8.ofNat (ishr ((n : Nat) : Int) 56 % 256).toNat]
def ownB (l : List UInt8) (v : V) (m : List (Nat × Ob)) : Prop := v = .w (.one (.s 0 [] l.length 1)) ∧ m = [(0, ⟨true, bytesC l⟩)]
theorem own_told {m : List (Nat × Ob)} {j n : Nat} {l : List UInt8} (hn : n = l.length) (h : look m j = some ⟨true, bytesC l⟩) (hj : j < 500000 := by decide) : Told (ownB l) (.w (.one (.s j [] n 1))) m :=
 told_tidy ⟨only j, .w (.one (.s 0 [] l.length 1)), [(0, ⟨true, bytesC l⟩)], by rw [hn]; rfl, within_own h hj, rfl, rfl⟩
set_option maxHeartbeats 800000 in
theorem padded_n (b : List UInt8) (ex : Bool) (hb : b.length ≤ 4096) (hp : ¬ padN b = 0) :
 CtM Try.prog 67 [.w (.one (.pl (.R ex 1 (byteRows b))))] [] (Told (ownB (padB b))) := by
 have hq : b.length + padN b ≤ 140737488355328 := by unfold padN; omega
 have hi : iand (-((b.length : Nat) : Int)) 15 = ((padN b : Nat) : Int) := iand15 _ (by omega)
 have hpp : (0 : Int) ≤ ((padN b : Nat) : Int) ∧ ((padN b : Nat) : Int) ≤ 9223372036854775807 ∧ padN b ≤ 140737488355328 := by unfold padN; omega
 have h0 : (0 : Int) ≤ ((b.length : Nat) : Int) := by omega
 have hw : Go.RowKit.wrap64 (0 - ((b.length : Nat) : Int)) = -((b.length : Nat) : Int) := by rw [Int.zero_sub]; exact w64 (by omega)
 have F0 := And.intro hq <| And.intro hi <| And.intro hpp <| And.intro h0 <| And.intro hw <| hp
 refine CtM.k Try.func67 rfl Try.ntmps67 (congrArg Array.toList Try.results67) (by simp) fun w0 ro may fx => ?_
 refine top_k fun zZ zhZ => ?_
 iterate 6 first
  | (refine sr_k fun zK zhK => ?_; simp only [go_sem, rep_zero, Nat.sub_zero, List.take_length, Int.le_refl, F0]; (repeat' (first | apply And.intro | intro _)))
  | refine zhK _ ?_
  | refine ret_k ?_
  | (refine zhZ _ _ ?_; simp only [go_sem, rep_zero, Nat.sub_zero, List.take_length, Int.le_refl, F0]; (all_goals (exact own_told (by simp [padB]) rfl)))
set_option maxHeartbeats 800000 in
theorem padded_0 (b : List UInt8) (ex : Bool) (hb : b.length ≤ 4096) (hp : padN b = 0) :
 Ct Try.prog 67 [.w (.one (.pl (.R ex 1 (byteRows b))))] (fun v m => v = .w (.one (.pl (.R true 1 (byteRows b)))) ∧ m = []) := by
 have hi : iand (-((b.length : Nat) : Int)) 15 = 0 := by rw [iand15 _ (by omega)]; unfold padN at hp; omega
 have h0 : (0 : Int) ≤ ((b.length : Nat) : Int) := by omega
 have hw : Go.RowKit.wrap64 (0 - ((b.length : Nat) : Int)) = -((b.length : Nat) : Int) := by rw [Int.zero_sub]; exact w64 (by omega)
 have F0 := And.intro hi <| And.intro h0 <| hw
 refine Ct.k Try.func67 rfl Try.ntmps67 (congrArg Array.toList Try.results67) (by simp) fun w0 ro => ?_
 refine top_k fun zZ zhZ => ?_
 iterate 6 first
  | (refine sr_k fun zK zhK => ?_; simp only [go_sem, rep_zero, Nat.sub_zero, List.take_length, Int.le_refl, F0]; (repeat' (first | apply And.intro | intro _)))
  | refine zhK _ ?_
  | refine ret_k ?_
  | (refine zhZ _ _ ?_; simp only [go_sem, rep_zero, Nat.sub_zero, List.take_length, Int.le_refl, F0]; (all_goals (exact ⟨rfl, rfl⟩)))
set_option maxHeartbeats 1600000 in
set_option maxRecDepth 100000 in
theorem eight_ (n : Nat) (hn : n ≤ 4096) :
 CtM Try.prog 68 [.w (.one (.pl (.i ((n : Nat) : Int))))] [] (Told (ownB (eightB n))) := by
 refine CtM.k Try.func68 rfl Try.ntmps68 (congrArg Array.toList Try.results68) (by simp) fun w0 ro may fx => ?_
 refine top_k fun zZ zhZ => ?_
 iterate 167 first
  | (refine rnd_forget (x := .seq (.region 3 _ _) _) [4, 9, 10, 11, 12, 13, 14, 15, 16, 17, 18, 19] ?_; simp only [go_sem, St.forget, fgt]; refine rnd_k fun zN zM zhN zhM => ?_)
  | refine zhK _ ?_
  | (refine zhN _ ?_; clear zhN zhM)
  | (refine sr_k fun zK zhK => ?_; simp only [go_sem, Int.toNat_one, Int.reduceTMod, Int.reduceTDiv, Int.mul_zero, rep_zero]; (repeat' (first | apply And.intro | intro _)))
  | (refine region_k fun zK zhK => ?_; simp only [go_sem, Int.toNat_one, Int.reduceTMod, Int.reduceTDiv, Int.mul_zero, rep_zero]; (repeat' (first | apply And.intro | intro _)))
  | refine block_k fun zB zbn zbx zbr zbi => ?_
  | refine skip_k ?_
  | (refine zbn _ ?_; clear zbn zbx zbr zbi)
  | (refine zhM _ _ ?_; clear zhN zhM)
  | refine rounds_k (x := .seq (.region 3 _ _) _) 9 ?_
  | refine rnd_k fun zN zM zhN zhM => ?_
  | refine exit_k ?_
  | (refine zbx _ ?_; clear zbn zbx zbr zbi)
  | refine ret_k ?_
  | (refine zhZ _ _ ?_; simp only [go_sem, Int.toNat_one, Int.reduceTMod, Int.reduceTDiv, Int.mul_zero, rep_zero]; (all_goals (exact own_told rfl rfl)))
  | refine seq_k fun zN zM zhN zhM => ?_
  | (refine condT_k ?_ ?_; focus (first | rfl | (simp [go_sem, Int.toNat_one, Int.reduceTMod, Int.reduceTDiv, Int.mul_zero, rep_zero]; done)))
  | (refine condF_k ?_ ?_; focus (first | rfl | (simp [go_sem, Int.toNat_one, Int.reduceTMod, Int.reduceTDiv, Int.mul_zero, rep_zero]; done)))
end Go.Sy

