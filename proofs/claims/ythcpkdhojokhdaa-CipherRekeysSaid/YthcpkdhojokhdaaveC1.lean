/- Walks: words turned; four words mixed. -/
import Derived.Test.YthcpkdhojokhdaaveT
import Derived.Test.YthcpkdhojokhdaaveE2
set_option linter.unusedVariables false
set_option linter.unusedSimpArgs false
namespace Go.Sy
open Go.Proofs
attribute [local irreducible] atCall HT runOps runD onC onE onO onG goV goA goS onSt onGuard
@[go_sem] theorem sz80 : Try.prog.cellsOf 80 = 1 := by kernel_rfl
@[go_sem] theorem bo80 : Try.prog.bytesOf 80 = 8 := by kernel_rfl
attribute [go_sem] Try.underlying80
def rot32 (x : UInt32) (k : Nat) : UInt32 := shl32 x k ||| shr32 x (32 - k)
set_option maxHeartbeats 400000 in
theorem rotl_16 (x : UInt32) :
 Ct Try.prog 65 [.w (.one (.pl (.u32 x))), .w (.one (.pl (.i 16)))] (fun v m => v = .w (.one (.pl (.u32 (rot32 x 16))))) := by
 have h1 : UInt64.ofNat ((16 : Int) % 18446744073709551616).toNat &&& 31 = 16 := rfl
 have h2 : (32 : UInt64) - 16 = 16 := rfl
 have h3 : UInt64.toNat 16 = 16 := rfl
 have h4 : UInt64.toNat 16 = 16 := rfl
 have F0 := And.intro h1 <| And.intro h2 <| And.intro h3 <| h4
 refine Ct.k Try.func65 rfl Try.ntmps65 (congrArg Array.toList Try.results65) (by simp) fun w0 ro => ?_
 refine top_k fun zZ zhZ => ?_
 iterate 8 first
  | (refine sr_k fun zK zhK => ?_; simp only [go_sem, rot32, F0]; (repeat' (first | apply And.intro | intro _)))
  | refine zhK _ ?_
  | refine ret_k ?_
  | (refine zhZ _ _ ?_; simp only [go_sem, rot32, F0]; (all_goals rfl))
set_option maxHeartbeats 400000 in
theorem left_16 (x : UInt32) :
 Ct Try.prog 66 [.w (.one (.pl (.u32 x))), .w (.one (.pl (.i 16)))] (fun v m => v = .w (.one (.pl (.u32 (rot32 x 16))))) := by
 have h1 : Go.RowKit.wrap64 16 = 16 := w64 (by decide)
 refine Ct.k Try.func66 rfl Try.ntmps66 (congrArg Array.toList Try.results66) (by simp) fun w0 ro => ?_
 refine top_k fun zZ zhZ => ?_
 refine sr_k fun zK zhK => ?_
 simp only [go_sem, h1, rot32]
 repeat' (first | apply And.intro | intro _)
 refine zhK _ ?_
 refine sd_k (id := 1) [5, 6, 7, 8, 9, 10, 11, 12, 4] [0, 0, 3, 0, 0, 16, 56, 127, 255] [] mixed (by kernel_rfl) (by simp only [go_sem]) fun zK zhK => ?_
 simp only [go_sem, h1, rot32]
 repeat' (first | apply And.intro | intro _)
 refine zhK _ _ trivial ?_
 refine ret_k ?_
 refine zhZ _ _ ?_
 simp only [go_sem, h1, rot32]
 all_goals rfl
set_option maxHeartbeats 400000 in
theorem rotl_12 (x : UInt32) :
 Ct Try.prog 65 [.w (.one (.pl (.u32 x))), .w (.one (.pl (.i 12)))] (fun v m => v = .w (.one (.pl (.u32 (rot32 x 12))))) := by
 have h1 : UInt64.ofNat ((12 : Int) % 18446744073709551616).toNat &&& 31 = 12 := rfl
 have h2 : (32 : UInt64) - 12 = 20 := rfl
 have h3 : UInt64.toNat 12 = 12 := rfl
 have h4 : UInt64.toNat 20 = 20 := rfl
 have F0 := And.intro h1 <| And.intro h2 <| And.intro h3 <| h4
 refine Ct.k Try.func65 rfl Try.ntmps65 (congrArg Array.toList Try.results65) (by simp) fun w0 ro => ?_
 refine top_k fun zZ zhZ => ?_
 iterate 8 first
  | (refine sr_k fun zK zhK => ?_; simp only [go_sem, rot32, F0]; (repeat' (first | apply And.intro | intro _)))
  | refine zhK _ ?_
  | refine ret_k ?_
  | (refine zhZ _ _ ?_; simp only [go_sem, rot32, F0]; (all_goals rfl))
set_option maxHeartbeats 400000 in
theorem left_12 (x : UInt32) :
 Ct Try.prog 66 [.w (.one (.pl (.u32 x))), .w (.one (.pl (.i 12)))] (fun v m => v = .w (.one (.pl (.u32 (rot32 x 12))))) := by
 have h1 : Go.RowKit.wrap64 20 = 20 := w64 (by decide)
 refine Ct.k Try.func66 rfl Try.ntmps66 (congrArg Array.toList Try.results66) (by simp) fun w0 ro => ?_
 refine top_k fun zZ zhZ => ?_
 refine sr_k fun zK zhK => ?_
 simp only [go_sem, h1, rot32]
 repeat' (first | apply And.intro | intro _)
 refine zhK _ ?_
 refine sd_k (id := 1) [5, 6, 7, 8, 9, 10, 11, 12, 4] [0, 0, 3, 0, 0, 16, 56, 127, 255] [] mixed (by kernel_rfl) (by simp only [go_sem]) fun zK zhK => ?_
 simp only [go_sem, h1, rot32]
 repeat' (first | apply And.intro | intro _)
 refine zhK _ _ trivial ?_
 refine ret_k ?_
 refine zhZ _ _ ?_
 simp only [go_sem, h1, rot32]
 all_goals rfl
set_option maxHeartbeats 400000 in
theorem rotl_8 (x : UInt32) :
 Ct Try.prog 65 [.w (.one (.pl (.u32 x))), .w (.one (.pl (.i 8)))] (fun v m => v = .w (.one (.pl (.u32 (rot32 x 8))))) := by
 have h1 : UInt64.ofNat ((8 : Int) % 18446744073709551616).toNat &&& 31 = 8 := rfl
 have h2 : (32 : UInt64) - 8 = 24 := rfl
 have h3 : UInt64.toNat 8 = 8 := rfl
 have h4 : UInt64.toNat 24 = 24 := rfl
 have F0 := And.intro h1 <| And.intro h2 <| And.intro h3 <| h4
 refine Ct.k Try.func65 rfl Try.ntmps65 (congrArg Array.toList Try.results65) (by simp) fun w0 ro => ?_
 refine top_k fun zZ zhZ => ?_
 iterate 8 first
  | (refine sr_k fun zK zhK => ?_; simp only [go_sem, rot32, F0]; (repeat' (first | apply And.intro | intro _)))
  | refine zhK _ ?_
  | refine ret_k ?_
  | (refine zhZ _ _ ?_; simp only [go_sem, rot32, F0]; (all_goals rfl))
set_option maxHeartbeats 400000 in
theorem left_8 (x : UInt32) :
 Ct Try.prog 66 [.w (.one (.pl (.u32 x))), .w (.one (.pl (.i 8)))] (fun v m => v = .w (.one (.pl (.u32 (rot32 x 8))))) := by
 have h1 : Go.RowKit.wrap64 24 = 24 := w64 (by decide)
 refine Ct.k Try.func66 rfl Try.ntmps66 (congrArg Array.toList Try.results66) (by simp) fun w0 ro => ?_
 refine top_k fun zZ zhZ => ?_
 refine sr_k fun zK zhK => ?_
 simp only [go_sem, h1, rot32]
 repeat' (first | apply And.intro | intro _)
 refine zhK _ ?_
 refine sd_k (id := 1) [5, 6, 7, 8, 9, 10, 11, 12, 4] [0, 0, 3, 0, 0, 16, 56, 127, 255] [] mixed (by kernel_rfl) (by simp only [go_sem]) fun zK zhK => ?_
 simp only [go_sem, h1, rot32]
 repeat' (first | apply And.intro | intro _)
 refine zhK _ _ trivial ?_
 refine ret_k ?_
 refine zhZ _ _ ?_
 simp only [go_sem, h1, rot32]
 all_goals rfl
set_option maxHeartbeats 400000 in
theorem rotl_7 (x : UInt32) :
 Ct Try.prog 65 [.w (.one (.pl (.u32 x))), .w (.one (.pl (.i 7)))] (fun v m => v = .w (.one (.pl (.u32 (rot32 x 7))))) := by
 have h1 : UInt64.ofNat ((7 : Int) % 18446744073709551616).toNat &&& 31 = 7 := rfl
 have h2 : (32 : UInt64) - 7 = 25 := rfl
 have h3 : UInt64.toNat 7 = 7 := rfl
 have h4 : UInt64.toNat 25 = 25 := rfl
 have F0 := And.intro h1 <| And.intro h2 <| And.intro h3 <| h4
 refine Ct.k Try.func65 rfl Try.ntmps65 (congrArg Array.toList Try.results65) (by simp) fun w0 ro => ?_
 refine top_k fun zZ zhZ => ?_
 iterate 8 first
  | (refine sr_k fun zK zhK => ?_; simp only [go_sem, rot32, F0]; (repeat' (first | apply And.intro | intro _)))
  | refine zhK _ ?_
  | refine ret_k ?_
  | (refine zhZ _ _ ?_; simp only [go_sem, rot32, F0]; (all_goals rfl))
set_option maxHeartbeats 400000 in
theorem left_7 (x : UInt32) :
 Ct Try.prog 66 [.w (.one (.pl (.u32 x))), .w (.one (.pl (.i 7)))] (fun v m => v = .w (.one (.pl (.u32 (rot32 x 7))))) := by
 have h1 : Go.RowKit.wrap64 25 = 25 := w64 (by decide)
 refine Ct.k Try.func66 rfl Try.ntmps66 (congrArg Array.toList Try.results66) (by simp) fun w0 ro => ?_
 refine top_k fun zZ zhZ => ?_
 refine sr_k fun zK zhK => ?_
 simp only [go_sem, h1, rot32]
 repeat' (first | apply And.intro | intro _)
 refine zhK _ ?_
 refine sd_k (id := 1) [5, 6, 7, 8, 9, 10, 11, 12, 4] [0, 0, 3, 0, 0, 16, 56, 127, 255] [] mixed (by kernel_rfl) (by simp only [go_sem]) fun zK zhK => ?_
 simp only [go_sem, h1, rot32]
 repeat' (first | apply And.intro | intro _)
 refine zhK _ _ trivial ?_
 refine ret_k ?_
 refine zhZ _ _ ?_
 simp only [go_sem, h1, rot32]
 all_goals rfl
theorem rotl (x : UInt32) (k : Nat) (hk : k = 16 ∨ k = 12 ∨ k = 8 ∨ k = 7) : Ct Try.prog 65 [.w (.one (.pl (.u32 x))), .w (.one (.pl (.i (k : Int))))] (fun v m => v = .w (.one (.pl (.u32 (rot32 x k))))) := by
 rcases hk with rfl | rfl | rfl | rfl
 · exact rotl_16 x
 · exact rotl_12 x
 · exact rotl_8 x
 · exact rotl_7 x
theorem left (x : UInt32) (k : Nat) (hk : k = 16 ∨ k = 12 ∨ k = 8 ∨ k = 7) : Ct Try.prog 66 [.w (.one (.pl (.u32 x))), .w (.one (.pl (.i (k : Int))))] (fun v m => v = .w (.one (.pl (.u32 (rot32 x k))))) := by
 rcases hk with rfl | rfl | rfl | rfl
 · exact left_16 x
 · exact left_12 x
 · exact left_8 x
 · exact left_7 x
def wordL (l : List UInt8) : UInt32 := (l.getD 0 0).toUInt32 ||| shl32 (l.getD 1 0).toUInt32 8 ||| shl32 (l.getD 2 0).toUInt32 16 ||| shl32 (l.getD 3 0).toUInt32 24
set_option maxHeartbeats 400000 in
theorem word_ (l : List UInt8) (hl : 4 ≤ l.length) (ex : Bool) :
 Ct Try.prog 47 [.w (.one (.pl (.R ex 1 (byteRows l))))] (fun v m => v = .w (.one (.pl (.u32 (wordL l))))) := by
 skip
 have g0 : (byteRows l).getD 0 [] = [.u8 (l.getD 0 0)] := byteRows_get (by omega)
 have c0 : (0 : Int) < ((l.length : Nat) : Int) := by omega
 have g1 : (byteRows l).getD 1 [] = [.u8 (l.getD 1 0)] := byteRows_get (by omega)
 have c1 : (1 : Int) < ((l.length : Nat) : Int) := by omega
 have g2 : (byteRows l).getD 2 [] = [.u8 (l.getD 2 0)] := byteRows_get (by omega)
 have c2 : (2 : Int) < ((l.length : Nat) : Int) := by omega
 have g3 : (byteRows l).getD 3 [] = [.u8 (l.getD 3 0)] := byteRows_get (by omega)
 have c3 : (3 : Int) < ((l.length : Nat) : Int) := by omega
 have F0 := And.intro g0 <| And.intro g1 <| And.intro g2 <| And.intro g3 <| And.intro c0 <| And.intro c1 <| And.intro c2 <| c3
 refine Ct.k Try.func47 rfl Try.ntmps47 (congrArg Array.toList Try.results47) (by simp) fun w0 ro => ?_
 refine top_k fun zZ zhZ => ?_
 refine sr_k fun zK zhK => ?_
 simp only [go_sem, Int.toNat_one, wordL, F0]
 repeat' (first | apply And.intro | intro _)
 refine zhK _ ?_
 refine sd_k (id := 1) [3, 4, 5, 6, 7, 8, 9, 10, 11, 12, 13, 14, 15, 16, 17, 18, 19, 20, 21, 22, 23, 24, 2] [0, 1, 3, 7, 0, 16, 48, 112, 240, 511, 0, 1024, 3072, 7168, 15360, 32767, 0, 65536, 196608, 458752, 983040, 2097151, 4194303] [] mixed (by kernel_rfl) (by simp only [go_sem]) fun zK zhK => ?_
 simp only [go_sem, Int.toNat_one, wordL, F0]
 repeat' (first | apply And.intro | intro _)
 refine zhK _ _ trivial ?_
 refine ret_k ?_
 refine zhZ _ _ ?_
 simp only [go_sem, Int.toNat_one, wordL, F0]
 all_goals rfl
end Go.Sy

