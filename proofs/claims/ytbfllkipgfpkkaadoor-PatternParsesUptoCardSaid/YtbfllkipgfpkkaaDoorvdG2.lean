/- Texts cut and parted, by the library's own contracts. -/
import Derived.Test.YtbfllkipgfpkkaaDoorvdG1
import Derived.Test.YtbfllkipgfpkkaaDoorvE3
import Derived.Test.YtbfllkipgfpkkaaDoorvdS2
import Derived.Lib.Split
import Derived.Lib.CountLaws
import Derived.Lib.SplitLaws
set_option linter.unusedVariables false
set_option linter.unusedSimpArgs false
namespace Go.Sy
open Go.Proofs
attribute [local irreducible] atCall HT runOps runD onC onE onO onG goV goA goS onSt onGuard
open Go.RowKit in
theorem cutp_ (s p : List UInt8) (hs : s.length ≤ 9223372036854775807) : CtM Tryd.prog 19 [.w (.one (.pl (.str s))), .w (.one (.pl (.str p)))] [] (fun v m => v = .tup [.one (.pl (.str (Lib.trimPrefix s p))), .one (.pl (.b (Lib.hasPrefix s p)))] ∧ m = []) := by
 refine CtM.of_below fun w d vals hm ha => ?_
 obtain ⟨l⟩ := vals
 simp only at ha
 cases ha with
 | cons h1 ha =>
  cases ha with
  | cons h2 ha =>
   cases ha
   simp only [V.den, W.den, L.den, PL.den] at h1 h2
   rw [h1.1, h2.1]
   refine ⟨.tuple #[.string ⟨(Lib.trimPrefix s p).toArray⟩, .bool (Lib.hasPrefix s p)], (Tryd.strings_CutPrefix ⟨s.toArray⟩ ⟨p.toArray⟩ w).mono fun e w' ⟨he, hw⟩ => ⟨he, hw ▸ Below.refl _ _⟩, fun d' => ?_⟩
   have hl : (Lib.trimPrefix s p).length ≤ maxLen := by
    have h0 : s.length ≤ maxLen := h1.2
    refine Nat.le_trans ?_ h0
    unfold Lib.trimPrefix; split <;> simp
   exact ⟨_, rfl, .cons ⟨rfl, hl⟩ (.cons rfl .nil)⟩
open Go.RowKit in
theorem cuts_ (s p : List UInt8) (hs : s.length ≤ 9223372036854775807) : CtM Tryd.prog 20 [.w (.one (.pl (.str s))), .w (.one (.pl (.str p)))] [] (fun v m => v = .tup [.one (.pl (.str (Lib.trimSuffix s p))), .one (.pl (.b (Lib.hasSuffix s p)))] ∧ m = []) := by
 refine CtM.of_below fun w d vals hm ha => ?_
 obtain ⟨l⟩ := vals
 simp only at ha
 cases ha with
 | cons h1 ha =>
  cases ha with
  | cons h2 ha =>
   cases ha
   simp only [V.den, W.den, L.den, PL.den] at h1 h2
   rw [h1.1, h2.1]
   refine ⟨.tuple #[.string ⟨(Lib.trimSuffix s p).toArray⟩, .bool (Lib.hasSuffix s p)], (Tryd.strings_CutSuffix ⟨s.toArray⟩ ⟨p.toArray⟩ w hs).mono fun e w' ⟨he, hw⟩ => ⟨he, hw ▸ Below.refl _ _⟩, fun d' => ?_⟩
   have hl : (Lib.trimSuffix s p).length ≤ maxLen := by
    have h0 : s.length ≤ maxLen := h1.2
    refine Nat.le_trans ?_ h0
    unfold Lib.trimSuffix; split <;> simp
   exact ⟨_, rfl, .cons ⟨rfl, hl⟩ (.cons rfl .nil)⟩
theorem splitK_le (sep : List UInt8) : ∀ (k : Nat) (s : List UInt8), ∀ t ∈ Lib.splitK sep 0 k s, t.length ≤ s.length
 | 0, s, t, ht => by simp only [Lib.splitK, List.mem_singleton] at ht; rw [ht]; exact Nat.le_refl _
 | k + 1, s, t, ht => by
  unfold Lib.splitK at ht
  split at ht
  · simp only [List.mem_singleton] at ht; rw [ht]; exact Nat.le_refl _
  · rcases List.mem_cons.mp ht with rfl | h
    · rw [List.length_take]; exact Nat.min_le_right _ _
    · exact Nat.le_trans (splitK_le sep k _ t h) (by simp)
theorem den_strs {ro : Ro} : ∀ {l : List (List UInt8)}, (∀ t ∈ l, t.length ≤ maxLen) → All2 (PL.den ro) (l.map PL.str) (l.map fun x => Value.string ⟨x.toArray⟩)
 | [], _ => .nil
 | x :: r, h => .cons ⟨rfl, h x (List.mem_cons_self ..)⟩ (den_strs fun t ht => h t (List.mem_cons_of_mem _ ht))
def parts (s : List UInt8) : List (List UInt8) := Lib.split s [43]
open Go.RowKit in
theorem split_ (s : List UInt8) (hs : s.length < 4294967281) (n : Int) : CtM Tryd.prog 15 [.w (.one (.pl (.str s))), .w (.one (.pl (.str [43])))] [(1000001, ⟨false, [.pl (.i n)]⟩)] (fun v m => v = .w (.one (.s 31 [] (parts s).length 1)) ∧ m = [(31, ⟨true, strC (parts s)⟩)]) := by
 have key := CtM.of_alloc (P := Tryd.prog) (f := 15) (args := [.w (.one (.pl (.str s))), .w (.one (.pl (.str [43])))]) (m := [(1000001, ⟨false, [.pl (.i n)]⟩)]) 31 (by decide) ((parts s).map PL.str) (fun w d vals hm ha => by
  obtain ⟨y, hy, hd⟩ := glob_cell hm (k := 1000001) rfl (by decide)
  have hy' : w.cell? ⟨1000001 - gl0, 0, none⟩ = some (.int .i64 n) := by rw [hy, show y = .int .i64 n from hd]
  obtain ⟨l⟩ := vals
  simp only at ha
  cases ha with
  | cons h1 ha =>
   cases ha with
   | cons h2 ha =>
    cases ha
    simp only [V.den, W.den, L.den, PL.den] at h1 h2
    rw [h1.1, h2.1]
    have hj := Tryd.strings_Split ⟨s.toArray⟩ ⟨[43].toArray⟩ n w hs hy' (by decide)
    have hsp : Lib.splitB ⟨[43].toArray⟩ 0 (Lib.countB ⟨s.toArray⟩ ⟨[43].toArray⟩) ⟨s.toArray⟩ = (parts s).map fun x => (⟨x.toArray⟩ : ByteArray) := by
     have := Lib.splitB_data ⟨[43].toArray⟩ 0 (Lib.countB ⟨s.toArray⟩ ⟨[43].toArray⟩) ⟨s.toArray⟩
     have h3 : parts s = (Lib.splitB ⟨[43].toArray⟩ 0 (Lib.countB ⟨s.toArray⟩ ⟨[43].toArray⟩) ⟨s.toArray⟩).map (·.data.toList) := this.symm
     rw [h3, List.map_map]
     exact (List.map_id'' (fun _ => rfl) _).symm
    have hln := Lib.splitB_all ⟨[43].toArray⟩ (by decide) 0 _ ⟨s.toArray⟩ rfl
    rw [hsp, List.length_map] at hln
    rw [hsp, ← hln] at hj
    rw [List.map_map] at hj
    have hsl : ∀ t ∈ parts s, t.length ≤ maxLen := fun t ht => Nat.le_trans (splitK_le [43] _ s t ht) h1.2
    refine ⟨_, _, by rw [List.length_map]; exact hj, fun ro => den_strs hsl, ?_⟩
    have hcl := Lib.countB_le ⟨[43].toArray⟩ (by decide) _ ⟨s.toArray⟩ (Nat.le_refl _)
    have h5 : (⟨s.toArray⟩ : ByteArray).size = s.length := rfl
    rw [List.length_map, hln]
    have : maxLen = 9223372036854775807 := rfl
    omega)
 rw [List.length_map, ← strC_pls] at key
 exact key
end Go.Sy

