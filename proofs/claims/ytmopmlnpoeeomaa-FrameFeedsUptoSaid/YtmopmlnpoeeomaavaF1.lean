/- Frames, fed: what it gives, in plain lists; results with frames. -/
import Derived.Test.YtmopmlnpoeeomaavaT
import Derived.Test.YtmopmlnpoeeomaavE3
set_option linter.unusedVariables false
set_option linter.unusedSimpArgs false
namespace Go.Sy
open Go.Proofs
/-- a frame -/
structure FrD where
  kind : Nat
  id : Nat
  body : List UInt8
def frC (f : FrD) : List PL := [.i f.kind, .i f.id, .R false 1 (byteRows f.body)]
def kOf (bs : List UInt8) : Nat := (bs.getD 0 0).toNat
def iOf (bs : List UInt8) : Nat := (bs.getD 1 0).toNat
def nOf (bs : List UInt8) : Nat := 256 * (bs.getD 2 0).toNat + (bs.getD 3 0).toNat
def frOf (bs : List UInt8) : FrD := ⟨kOf bs, iOf bs, (bs.drop 4).take (nOf bs)⟩
/-- the fault of the head that stands ahead -/
def headFault (bs : List UInt8) : Int := if kOf bs < 1 ∨ 5 < kOf bs then 2 else if 900 < nOf bs then 1 else if kOf bs = 5 ∧ 0 < nOf bs then 3 else 0
def feedR : Nat → List FrD → List UInt8 → Int × List FrD × List UInt8
  | 0, l, bs => (0, l, bs)
  | k + 1, l, bs => if bs.length < 4 then (0, l, bs) else if headFault bs = 0 then (if bs.length < 4 + nOf bs then (0, l, bs) else feedR k (l ++ [frOf bs]) (bs.drop (4 + nOf bs))) else (headFault bs, [], [])
def feedP (held b : List UInt8) : Int × List FrD × List UInt8 := if 903 < held.length then (9, [], []) else feedR (held ++ b).length [] (held ++ b)
def frRows (l : List FrD) : List (List PL) := l.map frC
def frP (l : List FrD) : List PL := (l.map frC).flatten
def frsC (l : List FrD) : List L := pls (frP l)
theorem frsC_snoc (l : List FrD) (p : FrD) : frsC (l ++ [p]) = frsC l ++ [.pl (.i p.kind), .pl (.i p.id), .pl (.R false 1 (byteRows p.body))] := by
  simp [frsC, frP, pls, frC]
theorem frsC_one (p : FrD) : frsC [p] = [.pl (.i p.kind), .pl (.i p.id), .pl (.R false 1 (byteRows p.body))] := by
  simp [frsC, frP, pls, frC]
theorem frP_length (l : List FrD) : (frP l).length = l.length * 3 := by
  induction l with
  | nil => rfl
  | cons p l ih =>
    simp only [frP] at ih ⊢
    simp only [List.map_cons, List.flatten_cons, List.length_append, ih, List.length_cons]
    rw [show (frC p).length = 3 from rfl]; omega
theorem frsC_length (l : List FrD) : (frsC l).length = l.length * 3 := by rw [frsC, length_pls, frP_length]
theorem frsC_any (k : Nat) (l : List FrD) : (frsC l).any (L.has k) = false := pls_has k _
theorem frsC_kill (k : Nat) (l : List FrD) : (frsC l).map (killL k) = frsC l := by
  simp only [frsC, pls, List.map_map]; rfl
theorem frsC_seal (k : Nat) (c : List PL) (l : List FrD) : (frsC l).map (sealL k c) = frsC l := seal_pls k c _
theorem frP_noU (l : List FrD) : (frsC l).all noUL = true := by
  simp only [frsC, frP, pls, List.all_eq_true, List.mem_map, List.mem_flatten]
  rintro x ⟨y, ⟨c, ⟨q, _, rfl⟩, hy⟩, rfl⟩
  simp only [frC, List.mem_cons, List.not_mem_nil, or_false] at hy
  rcases hy with rfl | rfl | rfl <;> rfl
theorem fr_chunks : ∀ l : List FrD, chunks 3 l.length (frP l) = frRows l
  | [] => rfl
  | p :: l => by
    have ih := fr_chunks l
    simp only [frP, frRows] at ih ⊢
    simp only [List.map_cons, List.flatten_cons, List.length_cons, chunks]
    rw [List.take_left' (show (frC p).length = 3 from rfl), List.drop_left' (show (frC p).length = 3 from rfl), ih]
theorem frRows_length (l : List FrD) : (frRows l).length = l.length := by simp [frRows]
theorem frRows_get {l : List FrD} {i : Nat} {p : FrD} (h : l[i]? = some p) : (frRows l).getD i [] = frC p := by
  simp only [frRows, List.getD, List.getElem?_map, h, Option.map_some, Option.getD_some]
attribute [go_sem] frsC_any frsC_kill frsC_seal frP_noU frsC_length frRows_length map_sealB take_drop_all
def fV (j : Nat) (l : List FrD) : V := if l = [] then .w (.one (.pl (.R true 1 []))) else .w (.one (.s j [] l.length 3))
def fM (j : Nat) (l : List FrD) : List (Nat × Ob) := if l = [] then [] else [(j, ⟨true, frsC l⟩)]
theorem fV_nil (j : Nat) : fV j [] = .w (.one (.pl (.R true 1 []))) := if_pos rfl
theorem fM_nil (j : Nat) : fM j [] = [] := if_pos rfl
theorem fV_of (j : Nat) {l : List FrD} (h : l ≠ []) : fV j l = .w (.one (.s j [] l.length 3)) := if_neg h
theorem fM_of (j : Nat) {l : List FrD} (h : l ≠ []) : fM j l = [(j, ⟨true, frsC l⟩)] := if_neg h
theorem fV_snoc (j : Nat) (l : List FrD) (p : FrD) : fV j (l ++ [p]) = .w (.one (.s j [] (l.length + 1) 3)) := by rw [fV_of j (by simp)]; simp
theorem fV_one (j : Nat) (p : FrD) : fV j [p] = .w (.one (.s j [] 1 3)) := fV_snoc j [] p
theorem fM_one (j : Nat) (p : FrD) : fM j [p] = [(j, ⟨true, frsC [p]⟩)] := fM_of j (by simp)
theorem fM_snoc (j : Nat) (l : List FrD) (p : FrD) : fM j (l ++ [p]) = [(j, ⟨true, frsC (l ++ [p])⟩)] := fM_of j (by simp)
/-- frames, what is left, and an error number -/
def feedV (r : Int × List FrD × List UInt8) (v : V) (m : List (Nat × Ob)) : Prop := v = .tup [.one (.pl (.R false 3 (frRows r.2.1))), .one (.pl (.R false 1 (byteRows r.2.2))), .one (.pl (.i r.1))] ∧ m = []
theorem frR_weak {ex : Bool} {sz : Nat} {rows : List (List PL)} (d : Va) (y : Value) (h : (L.pl (.R ex sz rows)).den d y) : (L.pl (.R false sz rows)).den d y := by
  simp only [L.den] at h ⊢
  rw [PL.den] at h ⊢
  rcases h with h | ⟨blk, off, cap, h1, h2, h3, h4, h5⟩
  · exact .inl h
  · exact .inr ⟨blk, off, cap, h1, h2, h3, fun h => (by cases h), h5⟩
theorem nilR {ex : Bool} {sz sz' : Nat} (d : Va) (y : Value) (h : (L.pl (.R ex sz [])).den d y) : (L.pl (.R false sz' [])).den d y := frR_weak d y (R_nil_den h)
theorem tup3_weak {a a' b b' : L} {c : W} (h : ∀ d y, a.den d y → a'.den d y) (h2 : ∀ d y, b.den d y → b'.den d y) (d : Va) (y : Value) (hv : (V.tup [.one a, .one b, c]).den d y) : (V.tup [.one a', .one b', c]).den d y := by
  obtain ⟨vs, rfl, hv⟩ := hv
  refine ⟨vs, rfl, ?_⟩
  generalize vs.toList = l at hv
  cases hv with
  | cons h1 hv =>
    cases hv with
    | cons h3 h4 => exact .cons (h d _ h1) (.cons (h2 d _ h3) h4)
theorem feed_bad {e : Int} {m : List (Nat × Ob)} {x y : Nat} {a b : Bool} : Told (feedV (e, [], [])) (.tup [.one (.pl (.R a x [])), .one (.pl (.R b y [])), .one (.pl (.i e))]) m :=
  told_weak (tup3_weak (a' := .pl (.R false 3 (frRows []))) (b' := .pl (.R false 1 (byteRows []))) (fun d y h => nilR d y h) (fun d y h => nilR d y h)) (told_plain rfl ⟨rfl, rfl⟩)
theorem fr_seal {k n : Nat} {l : List FrD} (hn : n = l.length) : sealL k (frP l) (.s k [] n 3) = .pl (.R false 3 (frRows l)) := by
  subst hn
  simp only [sealL, if_true, rd, pok, psz, frP_length, fr_chunks, and_self, reduceIte]
theorem look_bytes {m : List (Nat × Ob)} {k : Nat} {b : Bool} {bs : List UInt8} (h : look m k = some ⟨b, bytesC bs⟩) : look m k = some ⟨b, pls (bs.map .u8)⟩ := by
  rw [h, pls_bytes]
theorem feed_end_nil {k n : Nat} {bs : List UInt8} {m : List (Nat × Ob)} {b a : Bool} {x : Nat} (hk : look m k = some ⟨b, bytesC bs⟩) (hn : n = bs.length) (hlt : k < 500000 := by decide) : Told (feedV (0, [], bs)) (.tup [.one (.pl (.R a x [])), .one (.s k [] n 1), .one (.pl (.i 0))]) m := by
  refine told_weak (tup3_weak (a' := .pl (.R false 3 (frRows []))) (fun d y h => nilR d y h) (fun d y h => h)) ?_
  refine told_seal k (bs.map .u8) (look_bytes hk) hlt ?_
  simp only [sealV, List.map_cons, List.map_nil, sealW, seal_bytes hn, sealL_pl]
  exact told_plain rfl ⟨rfl, rfl⟩
theorem feed_end {k n j c : Nat} {bs : List UInt8} {l : List FrD} {m : List (Nat × Ob)} {b : Bool} (hk : look m k = some ⟨b, bytesC bs⟩) (hn : n = bs.length) (hj : look m j = some ⟨true, frsC l⟩) (hc : c = l.length) (hne : (j = k) = False) (hlt : k < 500000 := by decide) (hlj : j < 500000 := by decide) : Told (feedV (0, l, bs)) (.tup [.one (.s j [] c 3), .one (.s k [] n 1), .one (.pl (.i 0))]) m := by
  refine told_seal k (bs.map .u8) (look_bytes hk) hlt ?_
  simp only [sealV, List.map_cons, List.map_nil, sealW, seal_bytes hn, sealL_pl, sealL_sne hne]
  refine told_seal j (frP l) (look_seal_keep (of_eq_false hne) (by omega) hj) hlj ?_
  simp only [sealV, List.map_cons, List.map_nil, sealW, fr_seal hc, sealL_pl]
  exact told_plain rfl ⟨rfl, rfl⟩
def FInv (all : List UInt8) (x : Nat × List FrD × List UInt8) : Prop := feedR x.1 x.2.1 x.2.2 = feedR all.length [] all ∧ x.2.2.length ≤ x.1 ∧ 4 * x.2.1.length + x.2.2.length ≤ all.length
section
variable {all bs : List UInt8} {k : Nat} {l : List FrD} {e : Int}
theorem feed_short (h : FInv all (k, l, bs)) (hs : bs.length < 4) : feedR all.length [] all = (0, l, bs) := by
  rw [← h.1]
  cases k with
  | zero => rfl
  | succ k => simp only [feedR, if_pos hs]
theorem feed_suc (h : FInv all (k, l, bs)) (hs : ¬ bs.length < 4) : k = (k - 1) + 1 := by
  have := h.2.1; simp only at this; omega
theorem feed_fault (h : FInv all (k, l, bs)) (hs : ¬ bs.length < 4) (hf : headFault bs = e) (he : e ≠ 0) : feedR all.length [] all = (e, [], []) := by
  rw [← h.1]
  show feedR k l bs = _
  rw [feed_suc h hs, feedR, if_neg hs, hf, if_neg he]
theorem feed_wait (h : FInv all (k, l, bs)) (hs : ¬ bs.length < 4) (hf : headFault bs = 0) (hn : bs.length < 4 + nOf bs) : feedR all.length [] all = (0, l, bs) := by
  rw [← h.1]
  show feedR k l bs = _
  rw [feed_suc h hs, feedR, if_neg hs, if_pos hf, if_pos hn]
theorem feed_next (h : FInv all (k, l, bs)) (hs : ¬ bs.length < 4) (hf : headFault bs = 0) (hn : ¬ bs.length < 4 + nOf bs) : FInv all (k - 1, l ++ [frOf bs], bs.drop (4 + nOf bs)) := by
  refine ⟨?_, ?_, ?_⟩
  · rw [← h.1]
    show feedR (k - 1) _ _ = feedR k l bs
    rw [feed_suc h hs, feedR, if_neg hs, if_pos hf, if_neg hn]; rfl
  · have := h.2.1; simp only [List.length_drop] at this ⊢; omega
  · have := h.2.2; simp only [List.length_drop, List.length_append, List.length_cons, List.length_nil] at this ⊢; omega
end
theorem nOf_lt (bs : List UInt8) : nOf bs < 65536 := by
  have h1 := (bs.getD 2 0).toNat_lt; have h2 := (bs.getD 3 0).toNat_lt; unfold nOf; omega
theorem n_shl {a b n : Nat} (ha : a < 256) (hb : b < 256) (h : 256 * a + b = n) : ior (ishl (a : Int) (UInt64.toNat 8)) (b : Int) = (n : Int) := by
  subst h
  have h1 : ishl (a : Int) (UInt64.toNat 8) = ((256 * a : Nat) : Int) := by
    have : UInt64.toNat 8 = 8 := rfl
    rw [this, ishl]
    show Go.RowKit.wrap64 ((a : Int) * 2 ^ (min 8 64)) = _
    rw [show (2 : Int) ^ (min 8 64) = 256 from rfl, w64 (by omega)]; omega
  rw [h1]
  show Go.RowKit.wrap64 _ = _
  have h2 : (BitVec.ofInt 64 ((256 * a : Nat) : Int) ||| BitVec.ofInt 64 (b : Int)).toNat = 256 * a + b := by
    rw [BitVec.toNat_or, BitVec.ofInt_natCast, BitVec.ofInt_natCast, BitVec.toNat_ofNat, BitVec.toNat_ofNat, Nat.mod_eq_of_lt (by omega), Nat.mod_eq_of_lt (by omega)]
    have := Nat.two_pow_add_eq_or_of_lt (i := 8) (b := b) (by omega) a
    rw [← this]
  rw [h2, w64 (by omega)]
theorem n_mul {a b n : Nat} (ha : a < 256) (hb : b < 256) (h : 256 * a + b = n) : Go.RowKit.wrap64 (Go.RowKit.wrap64 ((a : Int) * 256) + (b : Int)) = (n : Int) := by
  subst h
  rw [w64 (n := (a : Int) * 256) (by omega), w64 (by omega)]; omega
theorem feed_cases (bs : List UInt8) : bs.length < 4 ∨ (¬ bs.length < 4 ∧ kOf bs < 1) ∨ (¬ bs.length < 4 ∧ 5 < kOf bs) ∨ (¬ bs.length < 4 ∧ 1 ≤ kOf bs ∧ kOf bs ≤ 5 ∧ 900 < nOf bs) ∨ (¬ bs.length < 4 ∧ kOf bs = 5 ∧ 0 < nOf bs ∧ nOf bs ≤ 900) ∨ (¬ bs.length < 4 ∧ 1 ≤ kOf bs ∧ kOf bs < 5 ∧ nOf bs ≤ 900 ∧ bs.length < 4 + nOf bs) ∨ (¬ bs.length < 4 ∧ 1 ≤ kOf bs ∧ kOf bs < 5 ∧ nOf bs ≤ 900 ∧ ¬ bs.length < 4 + nOf bs) ∨ (¬ bs.length < 4 ∧ kOf bs = 5 ∧ nOf bs = 0) := by
  omega
theorem hf_kind {bs : List UInt8} (h : kOf bs < 1 ∨ 5 < kOf bs) : headFault bs = 2 := if_pos h
theorem hf_size {bs : List UInt8} (h1 : 1 ≤ kOf bs) (h2 : kOf bs ≤ 5) (h : 900 < nOf bs) : headFault bs = 1 := by
  unfold headFault; rw [if_neg (by omega), if_pos h]
theorem hf_form {bs : List UInt8} (h1 : kOf bs = 5) (h2 : 0 < nOf bs) (h : nOf bs ≤ 900) : headFault bs = 3 := by
  unfold headFault; rw [if_neg (by omega), if_neg (by omega), if_pos ⟨h1, h2⟩]
theorem hf_ok {bs : List UInt8} (h1 : 1 ≤ kOf bs) (h2 : kOf bs ≤ 5) (h : nOf bs ≤ 900) (h3 : kOf bs = 5 → nOf bs = 0) : headFault bs = 0 := by
  unfold headFault; rw [if_neg (by omega), if_neg (by omega), if_neg (fun h => by have := h3 h.1; omega)]
theorem rowG {bs : List UInt8} {i : Nat} {x : UInt8} (h : i < bs.length) (hx : bs.getD i 0 = x) : (byteRows bs).getD i [] = [.u8 x] := by rw [byteRows_get h, hx]
theorem wnat {a : Int} {n : Nat} (h : a = (n : Int)) (hn : n ≤ 9223372036854775807) : Go.RowKit.wrap64 a = (n : Int) := by subst h; exact w64 (by omega)
end Go.Sy
