/- The layer: arithmetic of values. -/
import Derived.Test.YtmopmlnpoeeomaaE2
set_option linter.unusedVariables false
set_option linter.unusedSimpArgs false
namespace Go.Sy
open Go.RowKit (wrap64)

def shl8 (x : UInt8) (c : Nat) : UInt8 := UInt8.ofNat (x.toNat * 2 ^ c)
def shl32 (x : UInt32) (c : Nat) : UInt32 := UInt32.ofNat (x.toNat * 2 ^ c)
def shl64 (x : UInt64) (c : Nat) : UInt64 := UInt64.ofNat (x.toNat * 2 ^ c)
def shr8 (x : UInt8) (c : Nat) : UInt8 := UInt8.ofNat (x.toNat / 2 ^ c)
def shr32 (x : UInt32) (c : Nat) : UInt32 := UInt32.ofNat (x.toNat / 2 ^ c)
def shr64 (x : UInt64) (c : Nat) : UInt64 := UInt64.ofNat (x.toNat / 2 ^ c)
def ishl (x : Int) (c : Nat) : Int := wrap64 (x * 2 ^ (min c 64))
def ishr (x : Int) (c : Nat) : Int := x.fdiv (2 ^ (min c 64))
def iand (x y : Int) : Int := wrap64 ((BitVec.ofInt 64 x &&& BitVec.ofInt 64 y).toNat)
def ior (x y : Int) : Int := wrap64 ((BitVec.ofInt 64 x ||| BitVec.ofInt 64 y).toNat)
def ixor (x y : Int) : Int := wrap64 ((BitVec.ofInt 64 x ^^^ BitVec.ofInt 64 y).toNat)
def iandNot (x y : Int) : Int := wrap64 ((BitVec.ofInt 64 x &&& ~~~ BitVec.ofInt 64 y).toNat)

/-- the number in a value -/
def PL.num : PL → Option Int
  | .u8 x => some x.toNat
  | .u32 x => some x.toNat
  | .u64 x => some x.toNat
  | .i n => some n
  | _ => none

def PL.kind : PL → IntKind
  | .u8 _ => .u8
  | .u32 _ => .u32
  | .u64 _ => .u64
  | _ => .i64

theorem PL.num_den {ro : Ro} {x : PL} {n : Int} {y : Value} (h : x.num = some n) (hd : x.den ro y) : y = .int x.kind n := by
  cases x <;> simp only [PL.num, Option.some.injEq] at h <;> first
    | (cases h; done)
    | (subst h; rw [PL.den] at hd; rw [hd]; rfl)

def shiftV (op : BinOp) (x : PL) (c : Int) : Option PL :=
  if 0 ≤ c then
    match op, x with
    | .shl, .u8 x => some (.u8 (shl8 x c.toNat))
    | .shl, .u32 x => some (.u32 (shl32 x c.toNat))
    | .shl, .u64 x => some (.u64 (shl64 x c.toNat))
    | .shl, .i x => some (.i (ishl x c.toNat))
    | .shr, .u8 x => some (.u8 (shr8 x c.toNat))
    | .shr, .u32 x => some (.u32 (shr32 x c.toNat))
    | .shr, .u64 x => some (.u64 (shr64 x c.toNat))
    | .shr, .i x => some (.i (ishr x c.toNat))
    | _, _ => none
  else none

theorem wrap_u8 (n : Int) : IntKind.u8.wrap n = n % 256 := by simp [IntKind.wrap, IntKind.bits, IntKind.signed]
theorem wrap_u32 (n : Int) : IntKind.u32.wrap n = n % 4294967296 := by simp [IntKind.wrap, IntKind.bits, IntKind.signed]
theorem wrap_u64 (n : Int) : IntKind.u64.wrap n = n % 18446744073709551616 := by simp [IntKind.wrap, IntKind.bits, IntKind.signed]

theorem fdiv_nat (x m : Nat) : (x : Int).fdiv (m : Int) = ((x / m : Nat) : Int) := by
  rw [Int.fdiv_eq_ediv_of_nonneg _ (by omega)]; rfl

theorem pow_cast (n : Nat) : (2 : Int) ^ n = ((2 ^ n : Nat) : Int) := by simp

theorem mul_pow_min (x b n : Nat) : (x * 2 ^ (min n b)) % 2 ^ b = (x * 2 ^ n) % 2 ^ b := by
  by_cases h : n ≤ b
  · rw [Nat.min_eq_left h]
  · rw [Nat.min_eq_right (by omega)]
    obtain ⟨k, rfl⟩ := Nat.exists_eq_add_of_le (Nat.le_of_not_le h)
    rw [Nat.pow_add, ← Nat.mul_assoc, Nat.mul_right_comm, Nat.mul_mod_left, Nat.mul_mod_left]

theorem div_pow_min (x b n : Nat) (hx : x < 2 ^ b) : x / 2 ^ (min n b) = x / 2 ^ n := by
  by_cases h : n ≤ b
  · rw [Nat.min_eq_left h]
  · rw [Nat.min_eq_right (by omega), Nat.div_eq_of_lt hx, Nat.div_eq_of_lt]
    exact Nat.lt_of_lt_of_le hx (Nat.pow_le_pow_right (by omega) (by omega))

theorem div_lt (x m b : Nat) (hx : x < b) : x / m < b := Nat.lt_of_le_of_lt (Nat.div_le_self _ _) hx

/-- the value itself, of a leaf that is plain -/
def PL.mk : PL → Value
  | .u8 x => .int .u8 x.toNat
  | .u32 x => .int .u32 x.toNat
  | .u64 x => .int .u64 x.toNat
  | .i n => .int .i64 n
  | .b x => .bool x
  | .str s => .string ⟨s.toArray⟩
  | _ => .nilIface

theorem shiftV_ok {P : Program} {op : BinOp} {x z : PL} {c : Int} {yk : IntKind} (h : shiftV op x c = some z) (ro : Ro) (w : World) :
    ∃ n, x.num = some n ∧ (Op.shift op x.kind n yk c).run P w = .ok z.mk w ∧ z.den ro z.mk := by
  unfold shiftV at h
  split at h
  case isFalse => cases h
  rename_i hc
  have hc' : ¬ c < 0 := by omega
  split at h <;> cases h <;> refine ⟨_, rfl, ?_, by rw [PL.den]; rfl⟩
  all_goals simp only [Op.shift, PL.kind, hc', if_false, PL.mk, Sem.run_pure]
  all_goals simp only [IntKind.bits, pow_cast, ← Int.natCast_mul, wrap_u8, wrap_u32, wrap_u64, fdiv_nat, shl8, shl32, shl64, shr8, shr32, shr64, ishl, ishr, IntWalk.i64_left,
    UInt8.toNat_ofNat', UInt32.toNat_ofNat', UInt64.toNat_ofNat']
  · rename_i x; congr 2; have := mul_pow_min x.toNat 8 c.toNat; omega
  · rename_i x; congr 2; have := mul_pow_min x.toNat 32 c.toNat; omega
  · rename_i x; congr 2; have := mul_pow_min x.toNat 64 c.toNat; omega
  · rename_i x; congr 2; have h := x.toNat_lt; have h2 := div_lt x.toNat (2 ^ c.toNat) _ h; rw [div_pow_min x.toNat 8 c.toNat h, Nat.mod_eq_of_lt h2]
  · rename_i x; congr 2; have h := x.toNat_lt; have h2 := div_lt x.toNat (2 ^ c.toNat) _ h; rw [div_pow_min x.toNat 32 c.toNat h, Nat.mod_eq_of_lt h2]
  · rename_i x; congr 2; have h := x.toNat_lt; have h2 := div_lt x.toNat (2 ^ c.toNat) _ h; rw [div_pow_min x.toNat 64 c.toNat h, Nat.mod_eq_of_lt h2]

def arithV (op : BinOp) (x y : PL) : Option PL :=
  match op, x, y with
  | .add, .u8 x, .u8 y => some (.u8 (x + y))
  | .add, .u32 x, .u32 y => some (.u32 (x + y))
  | .add, .u64 x, .u64 y => some (.u64 (x + y))
  | .add, .i x, .i y => some (.i (wrap64 (x + y)))
  | .sub, .u8 x, .u8 y => some (.u8 (x - y))
  | .sub, .u32 x, .u32 y => some (.u32 (x - y))
  | .sub, .u64 x, .u64 y => some (.u64 (x - y))
  | .sub, .i x, .i y => some (.i (wrap64 (x - y)))
  | .mul, .u8 x, .u8 y => some (.u8 (x * y))
  | .mul, .u32 x, .u32 y => some (.u32 (x * y))
  | .mul, .u64 x, .u64 y => some (.u64 (x * y))
  | .mul, .i x, .i y => some (.i (wrap64 (x * y)))
  | .quo, .u8 x, .u8 y => if y = 0 then none else some (.u8 (x / y))
  | .quo, .u32 x, .u32 y => if y = 0 then none else some (.u32 (x / y))
  | .quo, .u64 x, .u64 y => if y = 0 then none else some (.u64 (x / y))
  | .quo, .i x, .i y => if y = 0 then none else some (.i (wrap64 (x.tdiv y)))
  | .rem, .u8 x, .u8 y => if y = 0 then none else some (.u8 (x % y))
  | .rem, .u32 x, .u32 y => if y = 0 then none else some (.u32 (x % y))
  | .rem, .u64 x, .u64 y => if y = 0 then none else some (.u64 (x % y))
  | .rem, .i x, .i y => if y = 0 then none else some (.i (x.tmod y))
  | .and, .u8 x, .u8 y => some (.u8 (x &&& y))
  | .and, .u32 x, .u32 y => some (.u32 (x &&& y))
  | .and, .u64 x, .u64 y => some (.u64 (x &&& y))
  | .and, .i x, .i y => some (.i (iand x y))
  | .or, .u8 x, .u8 y => some (.u8 (x ||| y))
  | .or, .u32 x, .u32 y => some (.u32 (x ||| y))
  | .or, .u64 x, .u64 y => some (.u64 (x ||| y))
  | .or, .i x, .i y => some (.i (ior x y))
  | .xor, .u8 x, .u8 y => some (.u8 (x ^^^ y))
  | .xor, .u32 x, .u32 y => some (.u32 (x ^^^ y))
  | .xor, .u64 x, .u64 y => some (.u64 (x ^^^ y))
  | .xor, .i x, .i y => some (.i (ixor x y))
  | .andNot, .u8 x, .u8 y => some (.u8 (x &&& ~~~y))
  | .andNot, .u32 x, .u32 y => some (.u32 (x &&& ~~~y))
  | .andNot, .u64 x, .u64 y => some (.u64 (x &&& ~~~y))
  | .andNot, .i x, .i y => some (.i (iandNot x y))
  | .eql, .u8 x, .u8 y => some (.b (decide (x = y)))
  | .eql, .u32 x, .u32 y => some (.b (decide (x = y)))
  | .eql, .u64 x, .u64 y => some (.b (decide (x = y)))
  | .eql, .i x, .i y => some (.b (decide (x = y)))
  | .neq, .u8 x, .u8 y => some (.b (!decide (x = y)))
  | .neq, .u32 x, .u32 y => some (.b (!decide (x = y)))
  | .neq, .u64 x, .u64 y => some (.b (!decide (x = y)))
  | .neq, .i x, .i y => some (.b (!decide (x = y)))
  | .lss, .u8 x, .u8 y => some (.b (decide (x < y)))
  | .lss, .u32 x, .u32 y => some (.b (decide (x < y)))
  | .lss, .u64 x, .u64 y => some (.b (decide (x < y)))
  | .lss, .i x, .i y => some (.b (decide (x < y)))
  | .leq, .u8 x, .u8 y => some (.b (decide (x ≤ y)))
  | .leq, .u32 x, .u32 y => some (.b (decide (x ≤ y)))
  | .leq, .u64 x, .u64 y => some (.b (decide (x ≤ y)))
  | .leq, .i x, .i y => some (.b (decide (x ≤ y)))
  | .gtr, .u8 x, .u8 y => some (.b (decide (y < x)))
  | .gtr, .u32 x, .u32 y => some (.b (decide (y < x)))
  | .gtr, .u64 x, .u64 y => some (.b (decide (y < x)))
  | .gtr, .i x, .i y => some (.b (decide (y < x)))
  | .geq, .u8 x, .u8 y => some (.b (decide (y ≤ x)))
  | .geq, .u32 x, .u32 y => some (.b (decide (y ≤ x)))
  | .geq, .u64 x, .u64 y => some (.b (decide (y ≤ x)))
  | .geq, .i x, .i y => some (.b (decide (y ≤ x)))
  | _, _, _ => none

theorem bv8 (x : UInt8) : BitVec.ofInt 8 (x.toNat : Int) = x.toBitVec := by rw [BitVec.ofInt_natCast]; exact BitVec.ofNat_toNat _ _
theorem bv32 (x : UInt32) : BitVec.ofInt 32 (x.toNat : Int) = x.toBitVec := by rw [BitVec.ofInt_natCast]; exact BitVec.ofNat_toNat _ _
theorem bv64 (x : UInt64) : BitVec.ofInt 64 (x.toNat : Int) = x.toBitVec := by rw [BitVec.ofInt_natCast]; exact BitVec.ofNat_toNat _ _

theorem u8_ne {y : UInt8} (h : ¬ y = 0) : ¬ (y.toNat : Int) = 0 := fun e => h (UInt8.toNat_inj.1 (by simpa using e))
theorem u32_ne {y : UInt32} (h : ¬ y = 0) : ¬ (y.toNat : Int) = 0 := fun e => h (UInt32.toNat_inj.1 (by simpa using e))
theorem u64_ne {y : UInt64} (h : ¬ y = 0) : ¬ (y.toNat : Int) = 0 := fun e => h (UInt64.toNat_inj.1 (by simpa using e))

theorem sub_8 (x y : UInt8) : ((x.toNat : Int) - (y.toNat : Int)) % 256 = ((x - y).toNat : Int) := by
  have h1 := x.toNat_lt; have h2 := y.toNat_lt
  rw [UInt8.toNat_sub]; omega
theorem quo_8 (x y : UInt8) : ((x.toNat : Int).tdiv (y.toNat : Int)) % 256 = ((x / y).toNat : Int) := by
  have h1 := x.toNat_lt
  have h2 := div_lt x.toNat y.toNat _ h1
  rw [UInt8.toNat_div, Int.tdiv_eq_ediv_of_nonneg (by omega), ← Int.natCast_ediv]
  generalize x.toNat / y.toNat = z at *; omega
theorem rem_8 (x y : UInt8) : ((x.toNat : Int).tmod (y.toNat : Int)) = ((x % y).toNat : Int) := by
  rw [UInt8.toNat_mod, Int.tmod_eq_emod_of_nonneg (by omega), ← Int.natCast_emod]
theorem bit_8 (x : BitVec 8) : ((x.toNat : Nat) : Int) % 256 = (((UInt8.ofBitVec x).toNat : Nat) : Int) := by
  have h := x.isLt
  show ((x.toNat : Nat) : Int) % 256 = ((x.toNat : Nat) : Int); omega

theorem sub_32 (x y : UInt32) : ((x.toNat : Int) - (y.toNat : Int)) % 4294967296 = ((x - y).toNat : Int) := by
  have h1 := x.toNat_lt; have h2 := y.toNat_lt
  rw [UInt32.toNat_sub]; omega
theorem quo_32 (x y : UInt32) : ((x.toNat : Int).tdiv (y.toNat : Int)) % 4294967296 = ((x / y).toNat : Int) := by
  have h1 := x.toNat_lt
  have h2 := div_lt x.toNat y.toNat _ h1
  rw [UInt32.toNat_div, Int.tdiv_eq_ediv_of_nonneg (by omega), ← Int.natCast_ediv]
  generalize x.toNat / y.toNat = z at *; omega
theorem rem_32 (x y : UInt32) : ((x.toNat : Int).tmod (y.toNat : Int)) = ((x % y).toNat : Int) := by
  rw [UInt32.toNat_mod, Int.tmod_eq_emod_of_nonneg (by omega), ← Int.natCast_emod]
theorem bit_32 (x : BitVec 32) : ((x.toNat : Nat) : Int) % 4294967296 = (((UInt32.ofBitVec x).toNat : Nat) : Int) := by
  have h := x.isLt
  show ((x.toNat : Nat) : Int) % 4294967296 = ((x.toNat : Nat) : Int); omega

theorem sub_64 (x y : UInt64) : ((x.toNat : Int) - (y.toNat : Int)) % 18446744073709551616 = ((x - y).toNat : Int) := by
  have h1 := x.toNat_lt; have h2 := y.toNat_lt
  rw [UInt64.toNat_sub]; omega
theorem quo_64 (x y : UInt64) : ((x.toNat : Int).tdiv (y.toNat : Int)) % 18446744073709551616 = ((x / y).toNat : Int) := by
  have h1 := x.toNat_lt
  have h2 := div_lt x.toNat y.toNat _ h1
  rw [UInt64.toNat_div, Int.tdiv_eq_ediv_of_nonneg (by omega), ← Int.natCast_ediv]
  generalize x.toNat / y.toNat = z at *; omega
theorem rem_64 (x y : UInt64) : ((x.toNat : Int).tmod (y.toNat : Int)) = ((x % y).toNat : Int) := by
  rw [UInt64.toNat_mod, Int.tmod_eq_emod_of_nonneg (by omega), ← Int.natCast_emod]
theorem bit_64 (x : BitVec 64) : ((x.toNat : Nat) : Int) % 18446744073709551616 = (((UInt64.ofBitVec x).toNat : Nat) : Int) := by
  have h := x.isLt
  show ((x.toNat : Nat) : Int) % 18446744073709551616 = ((x.toNat : Nat) : Int); omega

def noShift : BinOp → Bool
  | .shl | .shr => false
  | _ => true

theorem arithV_ok {P : Program} {op : BinOp} {x y z : PL} (h : arithV op x y = some z) (ro : Ro) (w : World) (t : TypeId) :
    (binOp op t x.mk y.mk).run P w = .ok z.mk w ∧ z.den ro z.mk ∧ (∃ n, x.num = some n) ∧ (∃ n, y.num = some n) ∧ x.kind = y.kind := by
  unfold arithV at h
  split at h <;> first
    | (cases h; done)
    | (cases h; refine ⟨?_, by rw [PL.den]; rfl, ⟨_, rfl⟩, ⟨_, rfl⟩, rfl⟩)
    | (split at h <;> first
        | (cases h; done)
        | (rename_i hz; cases h; refine ⟨?_, by rw [PL.den]; rfl, ⟨_, rfl⟩, ⟨_, rfl⟩, rfl⟩))
  all_goals simp only [binOp, PL.mk, Op.intArith, Op.intDiv, Op.intBits, Op.intCmp, Sem.run_pure, ne_eq, not_true, if_false, IntKind.bits, IntWalk.i64_left, wrap_u8, wrap_u32, wrap_u64, bv8, bv32, bv64]
  all_goals try rw [if_neg (u8_ne ‹_›)]
  all_goals try rw [if_neg (u32_ne ‹_›)]
  all_goals try rw [if_neg (u64_ne ‹_›)]
  all_goals try rw [if_neg ‹_›]
  all_goals try simp only [Sem.run_pure, sub_8, sub_32, sub_64, quo_8, quo_32, quo_64, rem_8, rem_32, rem_64, bit_8, bit_32, bit_64]
  all_goals first
    | rfl
    | (congr 2; simp [UInt8.toNat_add, UInt32.toNat_add, UInt64.toNat_add]; done)
    | (congr 2; simp [UInt8.toNat_add, UInt32.toNat_add, UInt64.toNat_add, UInt8.toNat_mul, UInt32.toNat_mul, UInt64.toNat_mul, UInt8.toNat_sub, UInt32.toNat_sub, UInt64.toNat_sub]; omega)
    | (congr 2; rw [Bool.eq_iff_iff]; simp [UInt8.toNat_inj, UInt32.toNat_inj, UInt64.toNat_inj, UInt8.lt_iff_toNat_lt, UInt32.lt_iff_toNat_lt, UInt64.lt_iff_toNat_lt, UInt8.le_iff_toNat_le, UInt32.le_iff_toNat_le, UInt64.le_iff_toNat_le, Int.natCast_inj]; done)
    | (congr 2; rw [Bool.eq_iff_iff]; simp; rw [Int.natCast_inj, UInt8.toNat_inj])
    | (congr 2; rw [Bool.eq_iff_iff]; simp; rw [Int.natCast_inj, UInt32.toNat_inj])
    | (congr 2; rw [Bool.eq_iff_iff]; simp; rw [Int.natCast_inj, UInt64.toNat_inj])
end Go.Sy
