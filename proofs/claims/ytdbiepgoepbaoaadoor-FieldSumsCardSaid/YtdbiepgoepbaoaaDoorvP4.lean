/- Three words and three words; three words by two; below the prime. -/
import Derived.Test.YtdbiepgoepbaoaaDoorvP2
set_option linter.unusedVariables false
set_option linter.unusedSimpArgs false
namespace Go.Sy
def adS (x y c : UInt64) : UInt64 := UInt64.ofNat ((x.toNat + y.toNat + c.toNat) % 18446744073709551616)
def adC (x y c : UInt64) : UInt64 := UInt64.ofNat ((x.toNat + y.toNat + c.toNat) / 18446744073709551616)
theorem ad_val (x y : UInt64) {c : UInt64} (hc : c.toNat ≤ 1) : (adS x y c).toNat + (adC x y c).toNat * 18446744073709551616 = x.toNat + y.toNat + c.toNat ∧ (adC x y c).toNat ≤ 1 := by
  have hx := x.toNat_lt; have hy := y.toNat_lt
  simp only [adS, adC, UInt64.toNat_ofNat']
  omega
structure T3 where
  a : UInt64
  b : UInt64
  c : UInt64
def mx0 (x : UInt64) : UInt64 := x &&& 4294967295
def mx1 (x : UInt64) : UInt64 := shr64 x 32
def mulT (x y : UInt64) : UInt64 := mx1 x * mx0 y + shr64 (mx0 x * mx0 y) 32
def mulH (x y : UInt64) : UInt64 := mx1 x * mx1 y + shr64 (mulT x y) 32 + shr64 (mx0 (mulT x y) + mx0 x * mx1 y) 32
def stL (x y w k : UInt64) : UInt64 := adS (adS (x * y) w 0) k 0
def stK (x y w k : UInt64) : UInt64 := mulH x y + adC (x * y) w 0 + adC (adS (x * y) w 0) k 0
def k00 (a : T3) (r0 r1 : UInt64) := stK a.a r0 0 0
def k01 (a : T3) (r0 r1 : UInt64) := stK a.a r1 0 (k00 a r0 r1)
def w01 (a : T3) (r0 r1 : UInt64) := stL a.a r1 0 (k00 a r0 r1)
def k10 (a : T3) (r0 r1 : UInt64) := stK a.b r0 (w01 a r0 r1) 0
def w12 (a : T3) (r0 r1 : UInt64) := stL a.b r1 (k01 a r0 r1) (k10 a r0 r1)
def k11 (a : T3) (r0 r1 : UInt64) := stK a.b r1 (k01 a r0 r1) (k10 a r0 r1)
def k20 (a : T3) (r0 r1 : UInt64) := stK a.c r0 (w12 a r0 r1) 0
def q0 (a : T3) (r0 r1 : UInt64) := stL a.a r0 0 0
def q1 (a : T3) (r0 r1 : UInt64) := stL a.b r0 (w01 a r0 r1) 0
def q2 (a : T3) (r0 r1 : UInt64) := stL a.c r0 (w12 a r0 r1) 0
def q3 (a : T3) (r0 r1 : UInt64) := stL a.c r1 (k11 a r0 r1) (k20 a r0 r1)
end Go.Sy

