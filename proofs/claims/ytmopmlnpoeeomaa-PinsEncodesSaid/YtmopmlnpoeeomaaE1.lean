/- The layer's words: symbolic values, symbolic memory, what they stand for. -/
import Derived.WalkKit
import Derived.ProofKit
set_option linter.unusedVariables false
set_option linter.unusedSimpArgs false
namespace Go.Sy

abbrev Path := List (Nat × Nat)
def poff : Path → Nat
  | [] => 0
  | x :: p => x.1 + poff p
def win {α : Type} (c : List α) (o n : Nat) : List α := (c.drop o).take n
def rd {α : Type} (c : List α) : Path → List α
  | [] => c
  | x :: p => win (rd c p) x.1 x.2
def upd {α : Type} (c : List α) (o n : Nat) (d : List α) : List α := c.take o ++ d ++ c.drop (o + n)
def wr {α : Type} (c : List α) : Path → List α → List α
  | [], d => d
  | x :: p, d => wr c p (upd (rd c p) x.1 x.2 d)
def psz (N : Nat) : Path → Nat
  | [] => N
  | x :: _ => x.2
def pok (N : Nat) : Path → Prop
  | [] => True
  | x :: p => pok N p ∧ x.1 + x.2 ≤ psz N p

theorem length_win {α : Type} (c : List α) (o n : Nat) (h : o + n ≤ c.length) : (win c o n).length = n := by
  simp [win]; omega

theorem win_win {α : Type} (c : List α) (o n o' n' : Nat) (h : o' + n' ≤ n) : win (win c o n) o' n' = win c (o + o') n' := by
  unfold win
  rw [List.drop_take, List.take_take, List.drop_drop, Nat.min_eq_left (by omega)]

theorem pok_le {N : Nat} : ∀ {p : Path}, pok N p → poff p + psz N p ≤ N
  | [], _ => by simp [poff, psz]
  | x :: p, h => by
    have := pok_le h.1
    have := h.2
    simp [poff, psz]; omega

theorem rd_eq {α : Type} (c : List α) : ∀ {p : Path}, pok c.length p → rd c p = win c (poff p) (psz c.length p)
  | [], _ => by simp [rd, poff, psz, win]
  | x :: p, h => by
    rw [rd, rd_eq c h.1, win_win _ _ _ _ _ h.2]
    simp [poff, psz, Nat.add_comm]

theorem length_rd {α : Type} (c : List α) {p : Path} (h : pok c.length p) : (rd c p).length = psz c.length p := by
  rw [rd_eq c h]; exact length_win _ _ _ (pok_le h)

theorem upd_win {α : Type} (c d : List α) (o n o' n' : Nat) (h : o + n ≤ c.length) (h' : o' + n' ≤ n) :
    upd c o n (upd (win c o n) o' n' d) = upd c (o + o') n' d := by
  unfold upd win
  have e1 : c.take o ++ ((c.drop o).take n).take o' = c.take (o + o') := by
    rw [List.take_take, Nat.min_eq_left (by omega), List.take_add]
  have e2 : ((c.drop o).take n).drop (o' + n') ++ c.drop (o + n) = c.drop (o + o' + n') := by
    rw [List.drop_take, List.drop_drop]
    have : c.drop (o + n) = (c.drop (o + (o' + n'))).drop (n - (o' + n')) := by rw [List.drop_drop]; congr 1; omega
    rw [this, List.take_append_drop]; congr 1; omega
  rw [← e1, ← e2]
  simp [List.append_assoc]

theorem wr_eq {α : Type} (c d : List α) : ∀ {p : Path}, pok c.length p → d.length = psz c.length p → wr c p d = upd c (poff p) (psz c.length p) d
  | [], _, h => by simp [wr, upd, poff, psz]
  | x :: p, h, hd => by
    have hp := pok_le h.1
    have h2 := h.2
    have hx : d.length = x.2 := by simpa [psz] using hd
    have hl : (upd (rd c p) x.1 x.2 d).length = psz c.length p := by
      have := length_rd c h.1
      simp [upd, this, hx]; omega
    rw [wr, wr_eq c _ h.1 hl, rd_eq c h.1, upd_win _ _ _ _ _ _ hp h2]
    simp [poff, psz, Nat.add_comm]

theorem length_wr {α : Type} (c d : List α) {p : Path} (h : pok c.length p) (hd : d.length = psz c.length p) : (wr c p d).length = c.length := by
  rw [wr_eq c d h hd]
  have := pok_le h
  simp [upd, hd]; omega

/-- a value without pointers into memory that may be written -/
inductive PL where
  | u8 (x : UInt8)
  | u32 (x : UInt32)
  | u64 (x : UInt64)
  | i (n : Int)
  | b (x : Bool)
  | str (s : List UInt8)
  | val (x : Value)
  | R (ex : Bool) (sz : Nat) (rows : List (List PL))
  | q (cells : List PL) (path : Path)
  | u

inductive L where
  | pl (x : PL)
  | p (k : Nat) (path : Path)
  | s (k : Nat) (path : Path) (len sz : Nat)
  | fn (f : Nat) (caps : List Nat)

inductive W where
  | one (l : L)
  | agg (cs : List L)

inductive V where
  | w (x : W)
  | tup (xs : List W)
  | any

def Scalar (y : Value) : Prop := (∀ cs, y ≠ .agg cs) ∧ ∀ vs, y ≠ .tuple vs

/-- what memory that is only read holds -/
abbrev Ro := Nat → Nat → Option Value

mutual
def PL.den (ro : Ro) : PL → Value → Prop
  | .u8 x, y => y = .int .u8 x.toNat
  | .u32 x, y => y = .int .u32 x.toNat
  | .u64 x, y => y = .int .u64 x.toNat
  | .i n, y => y = .int .i64 n
  | .b x, y => y = .bool x
  | .str s, y => y = .string ⟨s.toArray⟩ ∧ s.length ≤ maxLen
  | .val x, y => y = x ∧ Scalar x
  | .R ex sz rows, y => (y = .slice none 0 0 ∧ rows = []) ∨
      ∃ blk off cap, y = .slice (some ⟨blk, off, none⟩) rows.length cap ∧ rows.length ≤ cap ∧ cap ≤ maxLen ∧ (ex = true → cap = rows.length) ∧ PL.denRows ro blk sz rows off
  | .q cells path, y => ∃ blk off, y = .pointer (some ⟨blk, off + poff path, none⟩) ∧ PL.denAt ro blk cells off
  | .u, y => Scalar y
def PL.denAt (ro : Ro) (blk : Nat) : List PL → Nat → Prop
  | [], _ => True
  | c :: cs, off => (∃ y, ro blk off = some y ∧ PL.den ro c y) ∧ PL.denAt ro blk cs (off + 1)
def PL.denRows (ro : Ro) (blk sz : Nat) : List (List PL) → Nat → Prop
  | [], _ => True
  | r :: rs, off => r.length = sz ∧ PL.denAt ro blk r off ∧ PL.denRows ro blk sz rs (off + sz)
end

/-- where the named objects lie, how many cells their blocks have, what the rest holds -/
structure Va where
  at_ : Nat → Nat
  size : Nat → Nat
  ro : Ro

def L.den (d : Va) : L → Value → Prop
  | .pl x, y => x.den d.ro y
  | .p k path, y => y = .pointer (some ⟨d.at_ k, poff path, none⟩)
  | .s k path len sz, y => ∃ o cap, y = .slice (some ⟨d.at_ k, o, none⟩) len cap ∧ len ≤ cap ∧ cap ≤ maxLen ∧ (cap = 0 ∨ o = poff path) ∧ o + cap * sz ≤ d.size k
  | .fn f caps, y => y = .func (.func f) #[] (caps.map fun k => Value.pointer (some ⟨d.at_ k, 0, none⟩)).toArray

inductive All2 {α β : Type} (R : α → β → Prop) : List α → List β → Prop
  | nil : All2 R [] []
  | cons {a : α} {b : β} {l : List α} {m : List β} : R a b → All2 R l m → All2 R (a :: l) (b :: m)

def W.den (d : Va) : W → Value → Prop
  | .one l, y => l.den d y
  | .agg cs, y => ∃ vs : Array Value, y = .agg vs ∧ All2 (L.den d) cs vs.toList

def V.den (d : Va) : V → Value → Prop
  | .w x, y => x.den d y
  | .tup xs, y => ∃ vs : Array Value, y = .tuple vs ∧ All2 (W.den d) xs vs.toList
  | .any, _ => True

end Go.Sy
