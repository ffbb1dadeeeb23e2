/- Opening arguments: what a law's data say, in the engine's form. -/
import Derived.Test.YtlonfblcopfigaaH2
import Derived.Test.YtlonfblcopfigaaG1
import Derived.ChangeSlices
import Derived.Lib.SmallJoins
set_option linter.unusedVariables false
set_option linter.unusedSimpArgs false
namespace Go.Sy
open Go.RowKit Go.WideShapes Go.ChangeShapes Go.ChangeAt
variable {H : Type} {enc : TypeId × Value → H} {P : Program} {w : World} {base : Nat} {spare : Nat → Bool} {held : Bool}

theorem open_i64 {t : TypeId} {n : Nat} {v : Value} {y : DataW H × List MemPlace} (ht : P.underlying t = some (.int .i64)) (h : DataW.trod enc P w base spare held n t [v] = some y) :
    ∃ k : Int, v = .int .i64 k ∧ -9223372036854775808 ≤ k ∧ k ≤ 9223372036854775807 := by
  obtain ⟨k, h1, _, h2⟩ := DataW.trod_int ht h
  refine ⟨k, by simpa using h1, ?_⟩
  simp only [Lit.wf, IntKind.min, IntKind.max, IntKind.signed, IntKind.bits, Bool.and_eq_true, decide_eq_true_eq, if_true] at h2
  omega

/-- what is read off a world -/
def Va.reads (w : World) : Va := ⟨fun _ => 0, fun _ => 0, fun b o => w.cell? ⟨b, o, none⟩⟩

theorem denRows_bytes {ro : Ro} {blk : Nat} : ∀ (bs : List UInt8) (off : Nat), (∀ (i : Nat) (b : UInt8), bs[i]? = some b → ro blk (off + i) = some (.int .u8 b.toNat)) → PL.denRows ro blk 1 (byteRows bs) off
  | [], off, _ => by simp only [byteRows, List.map_nil, PL.denRows]
  | b :: bs, off, h => by
    simp only [byteRows, List.map_cons, PL.denRows, PL.denAt]
    refine ⟨rfl, ⟨⟨_, h 0 b rfl, ?_⟩, trivial⟩, denRows_bytes bs (off + 1) fun i c hc => ?_⟩
    · rw [PL.den]
    · have := h (i + 1) c (by simpa using hc)
      rw [Nat.add_assoc, Nat.add_comm 1 i]; exact this

theorem open_bytes {t e : TypeId} {n : Nat} {v : Value} {y : DataW H × List MemPlace} (ht : P.underlying t = some (.slice e)) (he : P.underlying e = some (.int .u8)) (hc : P.cellsOf e = 1)
    (hs : ∀ a len cap, v = .slice (some a) len cap → a.spot = none) (hp : ∀ b, spare b = true) (h : DataW.trod enc P w base spare held n t [v] = some y) :
    ∃ bs : List UInt8, (L.pl (.R false 1 (byteRows bs))).den (Va.reads w) v := by
  rcases open_ints ht he hc h with ⟨h1, _⟩ | ⟨a, len, cap, zs, h1, _, hl, hm, hz, _, hcell, hwf⟩
  · refine ⟨[], ?_⟩
    rw [L.den, PL.den]
    exact Or.inl ⟨by simpa using h1, rfl⟩
  · have hv : v = .slice (some a) len cap := by simpa using h1
    have hsp := hs a len cap hv
    rw [if_pos (hp _)] at hz
    obtain ⟨blk, off, sp⟩ := a
    simp only at hsp; subst hsp
    refine ⟨(zs.take len).map fun z => UInt8.ofNat z.toNat, ?_⟩
    rw [L.den, PL.den]
    have hlen : (byteRows ((zs.take len).map fun z => UInt8.ofNat z.toNat)).length = len := by simp [byteRows, hz]; omega
    refine Or.inr ⟨blk, off, cap, by rw [hlen]; exact hv, by rw [hlen]; exact hl, hm, fun h => (by cases h), denRows_bytes _ _ fun i b hb => ?_⟩
    rw [List.getElem?_map] at hb
    obtain ⟨z, hz1, rfl⟩ := Option.map_eq_some_iff.mp hb
    rw [List.getElem?_take] at hz1
    split at hz1
    · have hi : i < zs.length := by
        rw [List.getElem?_eq_some_iff] at hz1; exact hz1.1
      have h3 := hcell i hi
      have h4 : zs.getD i 0 = z := by rw [List.getD_eq_getElem?_getD, hz1]; rfl
      rw [h4] at h3
      have h5 := hwf z (List.mem_of_getElem? hz1)
      simp only [Lit.wf, IntKind.min, IntKind.max, IntKind.signed, IntKind.bits, Bool.and_eq_true, decide_eq_true_eq] at h5
      have h6 : ((UInt8.ofNat z.toNat).toNat : Int) = z := by
        simp at h5 ⊢; omega
      show w.cell? ⟨blk, off + i, none⟩ = _
      rw [h6, ← h3]
      congr 1
      unfold Addr.add; split
      · subst i; rfl
      · rfl
    · cases hz1
end Go.Sy
