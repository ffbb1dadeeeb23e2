/- Walks: a block squeezed in, as the document tells it. -/
import Derived.Test.YtcmcnfjdfcianaaDoorvqgB6
set_option linter.unusedVariables false
set_option linter.unusedSimpArgs false
namespace Go.Sy
namespace Bk
open Go.Proofs
attribute [local irreducible] atCall HT runOps runD onC onE onO onG goV goA goS onSt onGuard
theorem word_0 (b : List UInt8) (hb : b.length = 64) (r : Nat) (hr : r < 10) : CtM Tryd.prog 77 ([.w (.one (.pl (.i (r : Int)))), .w (.one (.pl (.i 0)))] ++ [500000].map fun k => .w (.one (.p k []))) [(500000, ⟨false, [.pl (.str b)]⟩)] (fun v m => v = .w (.one (.pl (.u32 (mixW b r 0)))) ∧ m = [(500000, ⟨false, [.pl (.str b)]⟩)]) := word_c b hb r 0 hr (by decide)
theorem word_1 (b : List UInt8) (hb : b.length = 64) (r : Nat) (hr : r < 10) : CtM Tryd.prog 77 ([.w (.one (.pl (.i (r : Int)))), .w (.one (.pl (.i 1)))] ++ [500000].map fun k => .w (.one (.p k []))) [(500000, ⟨false, [.pl (.str b)]⟩)] (fun v m => v = .w (.one (.pl (.u32 (mixW b r 1)))) ∧ m = [(500000, ⟨false, [.pl (.str b)]⟩)]) := word_c b hb r 1 hr (by decide)
theorem word_2 (b : List UInt8) (hb : b.length = 64) (r : Nat) (hr : r < 10) : CtM Tryd.prog 77 ([.w (.one (.pl (.i (r : Int)))), .w (.one (.pl (.i 2)))] ++ [500000].map fun k => .w (.one (.p k []))) [(500000, ⟨false, [.pl (.str b)]⟩)] (fun v m => v = .w (.one (.pl (.u32 (mixW b r 2)))) ∧ m = [(500000, ⟨false, [.pl (.str b)]⟩)]) := word_c b hb r 2 hr (by decide)
theorem word_3 (b : List UInt8) (hb : b.length = 64) (r : Nat) (hr : r < 10) : CtM Tryd.prog 77 ([.w (.one (.pl (.i (r : Int)))), .w (.one (.pl (.i 3)))] ++ [500000].map fun k => .w (.one (.p k []))) [(500000, ⟨false, [.pl (.str b)]⟩)] (fun v m => v = .w (.one (.pl (.u32 (mixW b r 3)))) ∧ m = [(500000, ⟨false, [.pl (.str b)]⟩)]) := word_c b hb r 3 hr (by decide)
theorem word_4 (b : List UInt8) (hb : b.length = 64) (r : Nat) (hr : r < 10) : CtM Tryd.prog 77 ([.w (.one (.pl (.i (r : Int)))), .w (.one (.pl (.i 4)))] ++ [500000].map fun k => .w (.one (.p k []))) [(500000, ⟨false, [.pl (.str b)]⟩)] (fun v m => v = .w (.one (.pl (.u32 (mixW b r 4)))) ∧ m = [(500000, ⟨false, [.pl (.str b)]⟩)]) := word_c b hb r 4 hr (by decide)
theorem word_5 (b : List UInt8) (hb : b.length = 64) (r : Nat) (hr : r < 10) : CtM Tryd.prog 77 ([.w (.one (.pl (.i (r : Int)))), .w (.one (.pl (.i 5)))] ++ [500000].map fun k => .w (.one (.p k []))) [(500000, ⟨false, [.pl (.str b)]⟩)] (fun v m => v = .w (.one (.pl (.u32 (mixW b r 5)))) ∧ m = [(500000, ⟨false, [.pl (.str b)]⟩)]) := word_c b hb r 5 hr (by decide)
theorem word_6 (b : List UInt8) (hb : b.length = 64) (r : Nat) (hr : r < 10) : CtM Tryd.prog 77 ([.w (.one (.pl (.i (r : Int)))), .w (.one (.pl (.i 6)))] ++ [500000].map fun k => .w (.one (.p k []))) [(500000, ⟨false, [.pl (.str b)]⟩)] (fun v m => v = .w (.one (.pl (.u32 (mixW b r 6)))) ∧ m = [(500000, ⟨false, [.pl (.str b)]⟩)]) := word_c b hb r 6 hr (by decide)
theorem word_7 (b : List UInt8) (hb : b.length = 64) (r : Nat) (hr : r < 10) : CtM Tryd.prog 77 ([.w (.one (.pl (.i (r : Int)))), .w (.one (.pl (.i 7)))] ++ [500000].map fun k => .w (.one (.p k []))) [(500000, ⟨false, [.pl (.str b)]⟩)] (fun v m => v = .w (.one (.pl (.u32 (mixW b r 7)))) ∧ m = [(500000, ⟨false, [.pl (.str b)]⟩)]) := word_c b hb r 7 hr (by decide)
theorem word_8 (b : List UInt8) (hb : b.length = 64) (r : Nat) (hr : r < 10) : CtM Tryd.prog 77 ([.w (.one (.pl (.i (r : Int)))), .w (.one (.pl (.i 8)))] ++ [500000].map fun k => .w (.one (.p k []))) [(500000, ⟨false, [.pl (.str b)]⟩)] (fun v m => v = .w (.one (.pl (.u32 (mixW b r 8)))) ∧ m = [(500000, ⟨false, [.pl (.str b)]⟩)]) := word_c b hb r 8 hr (by decide)
theorem word_9 (b : List UInt8) (hb : b.length = 64) (r : Nat) (hr : r < 10) : CtM Tryd.prog 77 ([.w (.one (.pl (.i (r : Int)))), .w (.one (.pl (.i 9)))] ++ [500000].map fun k => .w (.one (.p k []))) [(500000, ⟨false, [.pl (.str b)]⟩)] (fun v m => v = .w (.one (.pl (.u32 (mixW b r 9)))) ∧ m = [(500000, ⟨false, [.pl (.str b)]⟩)]) := word_c b hb r 9 hr (by decide)
theorem word_10 (b : List UInt8) (hb : b.length = 64) (r : Nat) (hr : r < 10) : CtM Tryd.prog 77 ([.w (.one (.pl (.i (r : Int)))), .w (.one (.pl (.i 10)))] ++ [500000].map fun k => .w (.one (.p k []))) [(500000, ⟨false, [.pl (.str b)]⟩)] (fun v m => v = .w (.one (.pl (.u32 (mixW b r 10)))) ∧ m = [(500000, ⟨false, [.pl (.str b)]⟩)]) := word_c b hb r 10 hr (by decide)
theorem word_11 (b : List UInt8) (hb : b.length = 64) (r : Nat) (hr : r < 10) : CtM Tryd.prog 77 ([.w (.one (.pl (.i (r : Int)))), .w (.one (.pl (.i 11)))] ++ [500000].map fun k => .w (.one (.p k []))) [(500000, ⟨false, [.pl (.str b)]⟩)] (fun v m => v = .w (.one (.pl (.u32 (mixW b r 11)))) ∧ m = [(500000, ⟨false, [.pl (.str b)]⟩)]) := word_c b hb r 11 hr (by decide)
theorem word_12 (b : List UInt8) (hb : b.length = 64) (r : Nat) (hr : r < 10) : CtM Tryd.prog 77 ([.w (.one (.pl (.i (r : Int)))), .w (.one (.pl (.i 12)))] ++ [500000].map fun k => .w (.one (.p k []))) [(500000, ⟨false, [.pl (.str b)]⟩)] (fun v m => v = .w (.one (.pl (.u32 (mixW b r 12)))) ∧ m = [(500000, ⟨false, [.pl (.str b)]⟩)]) := word_c b hb r 12 hr (by decide)
theorem word_13 (b : List UInt8) (hb : b.length = 64) (r : Nat) (hr : r < 10) : CtM Tryd.prog 77 ([.w (.one (.pl (.i (r : Int)))), .w (.one (.pl (.i 13)))] ++ [500000].map fun k => .w (.one (.p k []))) [(500000, ⟨false, [.pl (.str b)]⟩)] (fun v m => v = .w (.one (.pl (.u32 (mixW b r 13)))) ∧ m = [(500000, ⟨false, [.pl (.str b)]⟩)]) := word_c b hb r 13 hr (by decide)
theorem word_14 (b : List UInt8) (hb : b.length = 64) (r : Nat) (hr : r < 10) : CtM Tryd.prog 77 ([.w (.one (.pl (.i (r : Int)))), .w (.one (.pl (.i 14)))] ++ [500000].map fun k => .w (.one (.p k []))) [(500000, ⟨false, [.pl (.str b)]⟩)] (fun v m => v = .w (.one (.pl (.u32 (mixW b r 14)))) ∧ m = [(500000, ⟨false, [.pl (.str b)]⟩)]) := word_c b hb r 14 hr (by decide)
theorem word_15 (b : List UInt8) (hb : b.length = 64) (r : Nat) (hr : r < 10) : CtM Tryd.prog 77 ([.w (.one (.pl (.i (r : Int)))), .w (.one (.pl (.i 15)))] ++ [500000].map fun k => .w (.one (.p k []))) [(500000, ⟨false, [.pl (.str b)]⟩)] (fun v m => v = .w (.one (.pl (.u32 (mixW b r 15)))) ∧ m = [(500000, ⟨false, [.pl (.str b)]⟩)]) := word_c b hb r 15 hr (by decide)
set_option maxHeartbeats 8000000 in
set_option maxRecDepth 100000 in
theorem squeezed_ (h0 h1 h2 h3 h4 h5 h6 h7 : UInt32) (b : List UInt8) (hb : b.length = 64) (len : Nat) (hl : len ≤ 1073741824) (last : Bool) :
 CtM Tryd.prog 59 [.w (.agg [.pl (.u32 h0), .pl (.u32 h1), .pl (.u32 h2), .pl (.u32 h3), .pl (.u32 h4), .pl (.u32 h5), .pl (.u32 h6), .pl (.u32 h7)]), .w (.one (.pl (.str b))), .w (.one (.pl (.i ((len : Nat) : Int)))), .w (.one (.pl (.b last)))] [(1000001, ⟨false, [.pl (.u32 1779033703), .pl (.u32 3144134277), .pl (.u32 1013904242), .pl (.u32 2773480762), .pl (.u32 1359893119), .pl (.u32 2600822924), .pl (.u32 528734635), .pl (.u32 1541459225)]⟩)] (Told (fun v m => v = .w (.agg (soakB ⟨h0, h1, h2, h3, h4, h5, h6, h7⟩ b len last).ls) ∧ m = [])) := by
 have hcv : UInt32.ofNat (((len : Nat) : Int) % 4294967296).toNat = UInt32.ofNat len := by
  rw [show (((len : Nat) : Int) % 4294967296).toNat = len from by omega]
 refine CtM.k Tryd.func59 rfl Tryd.ntmps59 (congrArg Array.toList Tryd.results59) (by simp) fun w0 ro may fx => ?_
 refine sr_k fun zK1 zhK1 => ?_
 simp only [go_sem, hb, hcv, Int.toNat_one, Int.reduceTMod, Int.reduceTDiv, Int.mul_zero]
 repeat' (first | apply And.intro | intro _)
 refine zhK1 _ ?_
 refine sr_k fun zK2 zhK2 => ?_
 simp only [go_sem, hb, hcv, Int.toNat_one, Int.reduceTMod, Int.reduceTDiv, Int.mul_zero]
 repeat' (first | apply And.intro | intro _)
 refine zhK2 _ ?_
 refine seq_k fun zN3 zM3 zhN3 zhM3 => ?_
 refine sr_k fun zK4 zhK4 => ?_
 simp only [go_sem, hb, hcv, Int.toNat_one, Int.reduceTMod, Int.reduceTDiv, Int.mul_zero]
 repeat' (first | apply And.intro | intro _)
 refine zhK4 _ ?_
 refine block_k fun zB5 zbn5 zbx5 zbr5 zbi5 => ?_
 refine rounds_k 9 ?_
 refine rnd_k fun zN7 zM7 zhN7 zhM7 => ?_
 refine sr_k fun zK8 zhK8 => ?_
 simp only [go_sem, hb, hcv, Int.toNat_one, Int.reduceTMod, Int.reduceTDiv, Int.mul_zero]
 repeat' (first | apply And.intro | intro _)
 refine zhK8 _ ?_
 refine seq_k fun zN9 zM9 zhN9 zhM9 => ?_
 refine condT_k (by first | rfl | (simp [go_sem, hb, hcv, Int.toNat_one, Int.reduceTMod, Int.reduceTDiv, Int.mul_zero]; done)) ?_
 refine skip_k ?_
 refine zhN9 _ ?_
 refine seq_k fun zN10 zM10 zhN10 zhM10 => ?_
 refine block_k fun zB11 zbn11 zbx11 zbr11 zbi11 => ?_
 refine sr_k fun zK12 zhK12 => ?_
 simp only [go_sem, hb, hcv, Int.toNat_one, Int.reduceTMod, Int.reduceTDiv, Int.mul_zero]
 repeat' (first | apply And.intro | intro _)
 refine zhK12 _ ?_
 refine draw_k (id := 5) [21, 22, 23, 24, 25, 26, 27, 28, 29, 30, 31, 32, 33, 34, 35, 36, 37, 38, 39] [0, 1, 0, 4, 0, 16, 48, 0, 128, 0, 512, 1536, 0, 4096, 12288, 3, 36367, 101903, 112, 524287, 1048575] [(4, 17), (5, 17), (6, 17), (7, 17), (8, 17), (12, 17), (13, 17), (14, 17), (17, 18)] mixed (by kernel_rfl) (by simp only [go_sem]) fun zK13 zhK13 => ?_
 simp only [go_sem, hb, hcv, Int.toNat_one, Int.reduceTMod, Int.reduceTDiv, Int.mul_zero]
 repeat' (first | apply And.intro | intro _)
 refine zhK13 _ _ ?_ ?_
 · first | trivial | (simp only [go_sem]; done) | (simp only [go_sem]; simp; done) | (simp only [go_sem]; simp; simp only [go_sem])
 refine zbn11 _ ?_
 refine zhN10 _ ?_
 refine region_k fun zK14 zhK14 => ?_
 simp only [go_sem, hb, hcv, Int.toNat_one, Int.reduceTMod, Int.reduceTDiv, Int.mul_zero]
 repeat' (first | apply And.intro | intro _)
 refine zhK14 _ ?_
 refine zhN7 _ ?_
 refine rnd_forget [10, 19, 20, 21, 22, 23, 24, 25, 26, 27, 28, 29, 30, 31, 32, 33, 34, 35, 36, 37, 38, 39, 40] ?_
 simp only [go_sem, St.forget, fgt]
 refine rnd_k fun zN15 zM15 zhN15 zhM15 => ?_
 refine sr_k fun zK16 zhK16 => ?_
 simp only [go_sem, hb, hcv, Int.toNat_one, Int.reduceTMod, Int.reduceTDiv, Int.mul_zero]
 repeat' (first | apply And.intro | intro _)
 refine zhK16 _ ?_
 refine seq_k fun zN17 zM17 zhN17 zhM17 => ?_
 refine condT_k (by first | rfl | (simp [go_sem, hb, hcv, Int.toNat_one, Int.reduceTMod, Int.reduceTDiv, Int.mul_zero]; done)) ?_
 refine skip_k ?_
 refine zhN17 _ ?_
 refine seq_k fun zN18 zM18 zhN18 zhM18 => ?_
 refine block_k fun zB19 zbn19 zbx19 zbr19 zbi19 => ?_
 refine sr_k fun zK20 zhK20 => ?_
 simp only [go_sem, hb, hcv, Int.toNat_one, Int.reduceTMod, Int.reduceTDiv, Int.mul_zero]
 repeat' (first | apply And.intro | intro _)
 refine zhK20 _ ?_
 refine draw_k (id := 5) [21, 22, 23, 24, 25, 26, 27, 28, 29, 30, 31, 32, 33, 34, 35, 36, 37, 38, 39] [0, 1, 0, 4, 0, 16, 48, 0, 128, 0, 512, 1536, 0, 4096, 12288, 3, 36367, 101903, 112, 524287, 1048575] [(4, 17), (5, 17), (6, 17), (7, 17), (8, 17), (12, 17), (13, 17), (14, 17), (17, 18)] mixed (by kernel_rfl) (by simp only [go_sem]) fun zK21 zhK21 => ?_
 simp only [go_sem, hb, hcv, Int.toNat_one, Int.reduceTMod, Int.reduceTDiv, Int.mul_zero]
 repeat' (first | apply And.intro | intro _)
 refine zhK21 _ _ ?_ ?_
 · first | trivial | (simp only [go_sem]; done) | (simp only [go_sem]; simp; done) | (simp only [go_sem]; simp; simp only [go_sem])
 refine zbn19 _ ?_
 refine zhN18 _ ?_
 refine region_k fun zK22 zhK22 => ?_
 simp only [go_sem, hb, hcv, Int.toNat_one, Int.reduceTMod, Int.reduceTDiv, Int.mul_zero]
 repeat' (first | apply And.intro | intro _)
 refine zhK22 _ ?_
 refine zhN15 _ ?_
 refine rnd_forget [10, 19, 20, 21, 22, 23, 24, 25, 26, 27, 28, 29, 30, 31, 32, 33, 34, 35, 36, 37, 38, 39, 40] ?_
 simp only [go_sem, St.forget, fgt]
 refine rnd_k fun zN23 zM23 zhN23 zhM23 => ?_
 refine sr_k fun zK24 zhK24 => ?_
 simp only [go_sem, hb, hcv, Int.toNat_one, Int.reduceTMod, Int.reduceTDiv, Int.mul_zero]
 repeat' (first | apply And.intro | intro _)
 refine zhK24 _ ?_
 refine seq_k fun zN25 zM25 zhN25 zhM25 => ?_
 refine condT_k (by first | rfl | (simp [go_sem, hb, hcv, Int.toNat_one, Int.reduceTMod, Int.reduceTDiv, Int.mul_zero]; done)) ?_
 refine skip_k ?_
 refine zhN25 _ ?_
 refine seq_k fun zN26 zM26 zhN26 zhM26 => ?_
 refine block_k fun zB27 zbn27 zbx27 zbr27 zbi27 => ?_
 refine sr_k fun zK28 zhK28 => ?_
 simp only [go_sem, hb, hcv, Int.toNat_one, Int.reduceTMod, Int.reduceTDiv, Int.mul_zero]
 repeat' (first | apply And.intro | intro _)
 refine zhK28 _ ?_
 refine draw_k (id := 5) [21, 22, 23, 24, 25, 26, 27, 28, 29, 30, 31, 32, 33, 34, 35, 36, 37, 38, 39] [0, 1, 0, 4, 0, 16, 48, 0, 128, 0, 512, 1536, 0, 4096, 12288, 3, 36367, 101903, 112, 524287, 1048575] [(4, 17), (5, 17), (6, 17), (7, 17), (8, 17), (12, 17), (13, 17), (14, 17), (17, 18)] mixed (by kernel_rfl) (by simp only [go_sem]) fun zK29 zhK29 => ?_
 simp only [go_sem, hb, hcv, Int.toNat_one, Int.reduceTMod, Int.reduceTDiv, Int.mul_zero]
 repeat' (first | apply And.intro | intro _)
 refine zhK29 _ _ ?_ ?_
 · first | trivial | (simp only [go_sem]; done) | (simp only [go_sem]; simp; done) | (simp only [go_sem]; simp; simp only [go_sem])
 refine zbn27 _ ?_
 refine zhN26 _ ?_
 refine region_k fun zK30 zhK30 => ?_
 simp only [go_sem, hb, hcv, Int.toNat_one, Int.reduceTMod, Int.reduceTDiv, Int.mul_zero]
 repeat' (first | apply And.intro | intro _)
 refine zhK30 _ ?_
 refine zhN23 _ ?_
 refine rnd_forget [10, 19, 20, 21, 22, 23, 24, 25, 26, 27, 28, 29, 30, 31, 32, 33, 34, 35, 36, 37, 38, 39, 40] ?_
 simp only [go_sem, St.forget, fgt]
 refine rnd_k fun zN31 zM31 zhN31 zhM31 => ?_
 refine sr_k fun zK32 zhK32 => ?_
 simp only [go_sem, hb, hcv, Int.toNat_one, Int.reduceTMod, Int.reduceTDiv, Int.mul_zero]
 repeat' (first | apply And.intro | intro _)
 refine zhK32 _ ?_
 refine seq_k fun zN33 zM33 zhN33 zhM33 => ?_
 refine condT_k (by first | rfl | (simp [go_sem, hb, hcv, Int.toNat_one, Int.reduceTMod, Int.reduceTDiv, Int.mul_zero]; done)) ?_
 refine skip_k ?_
 refine zhN33 _ ?_
 refine seq_k fun zN34 zM34 zhN34 zhM34 => ?_
 refine block_k fun zB35 zbn35 zbx35 zbr35 zbi35 => ?_
 refine sr_k fun zK36 zhK36 => ?_
 simp only [go_sem, hb, hcv, Int.toNat_one, Int.reduceTMod, Int.reduceTDiv, Int.mul_zero]
 repeat' (first | apply And.intro | intro _)
 refine zhK36 _ ?_
 refine draw_k (id := 5) [21, 22, 23, 24, 25, 26, 27, 28, 29, 30, 31, 32, 33, 34, 35, 36, 37, 38, 39] [0, 1, 0, 4, 0, 16, 48, 0, 128, 0, 512, 1536, 0, 4096, 12288, 3, 36367, 101903, 112, 524287, 1048575] [(4, 17), (5, 17), (6, 17), (7, 17), (8, 17), (12, 17), (13, 17), (14, 17), (17, 18)] mixed (by kernel_rfl) (by simp only [go_sem]) fun zK37 zhK37 => ?_
 simp only [go_sem, hb, hcv, Int.toNat_one, Int.reduceTMod, Int.reduceTDiv, Int.mul_zero]
 repeat' (first | apply And.intro | intro _)
 refine zhK37 _ _ ?_ ?_
 · first | trivial | (simp only [go_sem]; done) | (simp only [go_sem]; simp; done) | (simp only [go_sem]; simp; simp only [go_sem])
 refine zbn35 _ ?_
 refine zhN34 _ ?_
 refine region_k fun zK38 zhK38 => ?_
 simp only [go_sem, hb, hcv, Int.toNat_one, Int.reduceTMod, Int.reduceTDiv, Int.mul_zero]
 repeat' (first | apply And.intro | intro _)
 refine zhK38 _ ?_
 refine zhN31 _ ?_
 refine rnd_forget [10, 19, 20, 21, 22, 23, 24, 25, 26, 27, 28, 29, 30, 31, 32, 33, 34, 35, 36, 37, 38, 39, 40] ?_
 simp only [go_sem, St.forget, fgt]
 refine rnd_k fun zN39 zM39 zhN39 zhM39 => ?_
 refine sr_k fun zK40 zhK40 => ?_
 simp only [go_sem, hb, hcv, Int.toNat_one, Int.reduceTMod, Int.reduceTDiv, Int.mul_zero]
 repeat' (first | apply And.intro | intro _)
 refine zhK40 _ ?_
 refine seq_k fun zN41 zM41 zhN41 zhM41 => ?_
 refine condT_k (by first | rfl | (simp [go_sem, hb, hcv, Int.toNat_one, Int.reduceTMod, Int.reduceTDiv, Int.mul_zero]; done)) ?_
 refine skip_k ?_
 refine zhN41 _ ?_
 refine seq_k fun zN42 zM42 zhN42 zhM42 => ?_
 refine block_k fun zB43 zbn43 zbx43 zbr43 zbi43 => ?_
 refine sr_k fun zK44 zhK44 => ?_
 simp only [go_sem, hb, hcv, Int.toNat_one, Int.reduceTMod, Int.reduceTDiv, Int.mul_zero]
 repeat' (first | apply And.intro | intro _)
 refine zhK44 _ ?_
 refine draw_k (id := 5) [21, 22, 23, 24, 25, 26, 27, 28, 29, 30, 31, 32, 33, 34, 35, 36, 37, 38, 39] [0, 1, 0, 4, 0, 16, 48, 0, 128, 0, 512, 1536, 0, 4096, 12288, 3, 36367, 101903, 112, 524287, 1048575] [(4, 17), (5, 17), (6, 17), (7, 17), (8, 17), (12, 17), (13, 17), (14, 17), (17, 18)] mixed (by kernel_rfl) (by simp only [go_sem]) fun zK45 zhK45 => ?_
 simp only [go_sem, hb, hcv, Int.toNat_one, Int.reduceTMod, Int.reduceTDiv, Int.mul_zero]
 repeat' (first | apply And.intro | intro _)
 refine zhK45 _ _ ?_ ?_
 · first | trivial | (simp only [go_sem]; done) | (simp only [go_sem]; simp; done) | (simp only [go_sem]; simp; simp only [go_sem])
 refine zbn43 _ ?_
 refine zhN42 _ ?_
 refine region_k fun zK46 zhK46 => ?_
 simp only [go_sem, hb, hcv, Int.toNat_one, Int.reduceTMod, Int.reduceTDiv, Int.mul_zero]
 repeat' (first | apply And.intro | intro _)
 refine zhK46 _ ?_
 refine zhN39 _ ?_
 refine rnd_forget [10, 19, 20, 21, 22, 23, 24, 25, 26, 27, 28, 29, 30, 31, 32, 33, 34, 35, 36, 37, 38, 39, 40] ?_
 simp only [go_sem, St.forget, fgt]
 refine rnd_k fun zN47 zM47 zhN47 zhM47 => ?_
 refine sr_k fun zK48 zhK48 => ?_
 simp only [go_sem, hb, hcv, Int.toNat_one, Int.reduceTMod, Int.reduceTDiv, Int.mul_zero]
 repeat' (first | apply And.intro | intro _)
 refine zhK48 _ ?_
 refine seq_k fun zN49 zM49 zhN49 zhM49 => ?_
 refine condT_k (by first | rfl | (simp [go_sem, hb, hcv, Int.toNat_one, Int.reduceTMod, Int.reduceTDiv, Int.mul_zero]; done)) ?_
 refine skip_k ?_
 refine zhN49 _ ?_
 refine seq_k fun zN50 zM50 zhN50 zhM50 => ?_
 refine block_k fun zB51 zbn51 zbx51 zbr51 zbi51 => ?_
 refine sr_k fun zK52 zhK52 => ?_
 simp only [go_sem, hb, hcv, Int.toNat_one, Int.reduceTMod, Int.reduceTDiv, Int.mul_zero]
 repeat' (first | apply And.intro | intro _)
 refine zhK52 _ ?_
 refine draw_k (id := 5) [21, 22, 23, 24, 25, 26, 27, 28, 29, 30, 31, 32, 33, 34, 35, 36, 37, 38, 39] [0, 1, 0, 4, 0, 16, 48, 0, 128, 0, 512, 1536, 0, 4096, 12288, 3, 36367, 101903, 112, 524287, 1048575] [(4, 17), (5, 17), (6, 17), (7, 17), (8, 17), (12, 17), (13, 17), (14, 17), (17, 18)] mixed (by kernel_rfl) (by simp only [go_sem]) fun zK53 zhK53 => ?_
 simp only [go_sem, hb, hcv, Int.toNat_one, Int.reduceTMod, Int.reduceTDiv, Int.mul_zero]
 repeat' (first | apply And.intro | intro _)
 refine zhK53 _ _ ?_ ?_
 · first | trivial | (simp only [go_sem]; done) | (simp only [go_sem]; simp; done) | (simp only [go_sem]; simp; simp only [go_sem])
 refine zbn51 _ ?_
 refine zhN50 _ ?_
 refine region_k fun zK54 zhK54 => ?_
 simp only [go_sem, hb, hcv, Int.toNat_one, Int.reduceTMod, Int.reduceTDiv, Int.mul_zero]
 repeat' (first | apply And.intro | intro _)
 refine zhK54 _ ?_
 refine zhN47 _ ?_
 refine rnd_forget [10, 19, 20, 21, 22, 23, 24, 25, 26, 27, 28, 29, 30, 31, 32, 33, 34, 35, 36, 37, 38, 39, 40] ?_
 simp only [go_sem, St.forget, fgt]
 refine rnd_k fun zN55 zM55 zhN55 zhM55 => ?_
 refine sr_k fun zK56 zhK56 => ?_
 simp only [go_sem, hb, hcv, Int.toNat_one, Int.reduceTMod, Int.reduceTDiv, Int.mul_zero]
 repeat' (first | apply And.intro | intro _)
 refine zhK56 _ ?_
 refine seq_k fun zN57 zM57 zhN57 zhM57 => ?_
 refine condT_k (by first | rfl | (simp [go_sem, hb, hcv, Int.toNat_one, Int.reduceTMod, Int.reduceTDiv, Int.mul_zero]; done)) ?_
 refine skip_k ?_
 refine zhN57 _ ?_
 refine seq_k fun zN58 zM58 zhN58 zhM58 => ?_
 refine block_k fun zB59 zbn59 zbx59 zbr59 zbi59 => ?_
 refine sr_k fun zK60 zhK60 => ?_
 simp only [go_sem, hb, hcv, Int.toNat_one, Int.reduceTMod, Int.reduceTDiv, Int.mul_zero]
 repeat' (first | apply And.intro | intro _)
 refine zhK60 _ ?_
 refine draw_k (id := 5) [21, 22, 23, 24, 25, 26, 27, 28, 29, 30, 31, 32, 33, 34, 35, 36, 37, 38, 39] [0, 1, 0, 4, 0, 16, 48, 0, 128, 0, 512, 1536, 0, 4096, 12288, 3, 36367, 101903, 112, 524287, 1048575] [(4, 17), (5, 17), (6, 17), (7, 17), (8, 17), (12, 17), (13, 17), (14, 17), (17, 18)] mixed (by kernel_rfl) (by simp only [go_sem]) fun zK61 zhK61 => ?_
 simp only [go_sem, hb, hcv, Int.toNat_one, Int.reduceTMod, Int.reduceTDiv, Int.mul_zero]
 repeat' (first | apply And.intro | intro _)
 refine zhK61 _ _ ?_ ?_
 · first | trivial | (simp only [go_sem]; done) | (simp only [go_sem]; simp; done) | (simp only [go_sem]; simp; simp only [go_sem])
 refine zbn59 _ ?_
 refine zhN58 _ ?_
 refine region_k fun zK62 zhK62 => ?_
 simp only [go_sem, hb, hcv, Int.toNat_one, Int.reduceTMod, Int.reduceTDiv, Int.mul_zero]
 repeat' (first | apply And.intro | intro _)
 refine zhK62 _ ?_
 refine zhN55 _ ?_
 refine rnd_forget [10, 19, 20, 21, 22, 23, 24, 25, 26, 27, 28, 29, 30, 31, 32, 33, 34, 35, 36, 37, 38, 39, 40] ?_
 simp only [go_sem, St.forget, fgt]
 refine rnd_k fun zN63 zM63 zhN63 zhM63 => ?_
 refine sr_k fun zK64 zhK64 => ?_
 simp only [go_sem, hb, hcv, Int.toNat_one, Int.reduceTMod, Int.reduceTDiv, Int.mul_zero]
 repeat' (first | apply And.intro | intro _)
 refine zhK64 _ ?_
 refine seq_k fun zN65 zM65 zhN65 zhM65 => ?_
 refine condT_k (by first | rfl | (simp [go_sem, hb, hcv, Int.toNat_one, Int.reduceTMod, Int.reduceTDiv, Int.mul_zero]; done)) ?_
 refine skip_k ?_
 refine zhN65 _ ?_
 refine seq_k fun zN66 zM66 zhN66 zhM66 => ?_
 refine block_k fun zB67 zbn67 zbx67 zbr67 zbi67 => ?_
 refine sr_k fun zK68 zhK68 => ?_
 simp only [go_sem, hb, hcv, Int.toNat_one, Int.reduceTMod, Int.reduceTDiv, Int.mul_zero]
 repeat' (first | apply And.intro | intro _)
 refine zhK68 _ ?_
 refine draw_k (id := 5) [21, 22, 23, 24, 25, 26, 27, 28, 29, 30, 31, 32, 33, 34, 35, 36, 37, 38, 39] [0, 1, 0, 4, 0, 16, 48, 0, 128, 0, 512, 1536, 0, 4096, 12288, 3, 36367, 101903, 112, 524287, 1048575] [(4, 17), (5, 17), (6, 17), (7, 17), (8, 17), (12, 17), (13, 17), (14, 17), (17, 18)] mixed (by kernel_rfl) (by simp only [go_sem]) fun zK69 zhK69 => ?_
 simp only [go_sem, hb, hcv, Int.toNat_one, Int.reduceTMod, Int.reduceTDiv, Int.mul_zero]
 repeat' (first | apply And.intro | intro _)
 refine zhK69 _ _ ?_ ?_
 · first | trivial | (simp only [go_sem]; done) | (simp only [go_sem]; simp; done) | (simp only [go_sem]; simp; simp only [go_sem])
 refine zbn67 _ ?_
 refine zhN66 _ ?_
 refine region_k fun zK70 zhK70 => ?_
 simp only [go_sem, hb, hcv, Int.toNat_one, Int.reduceTMod, Int.reduceTDiv, Int.mul_zero]
 repeat' (first | apply And.intro | intro _)
 refine zhK70 _ ?_
 refine zhN63 _ ?_
 refine rnd_forget [10, 19, 20, 21, 22, 23, 24, 25, 26, 27, 28, 29, 30, 31, 32, 33, 34, 35, 36, 37, 38, 39, 40] ?_
 simp only [go_sem, St.forget, fgt]
 refine rnd_k fun zN71 zM71 zhN71 zhM71 => ?_
 refine sr_k fun zK72 zhK72 => ?_
 simp only [go_sem, hb, hcv, Int.toNat_one, Int.reduceTMod, Int.reduceTDiv, Int.mul_zero]
 repeat' (first | apply And.intro | intro _)
 refine zhK72 _ ?_
 refine seq_k fun zN73 zM73 zhN73 zhM73 => ?_
 refine condF_k (by first | rfl | (simp [go_sem, hb, hcv, Int.toNat_one, Int.reduceTMod, Int.reduceTDiv, Int.mul_zero]; done)) ?_
 refine exit_k ?_
 refine zhM73 _ _ ?_
 refine zhM71 _ _ ?_
 refine zbx5 _ ?_
 refine zhN3 _ ?_
 refine sr_k fun zK74 zhK74 => ?_
 simp only [go_sem, hb, hcv, Int.toNat_one, Int.reduceTMod, Int.reduceTDiv, Int.mul_zero]
 repeat' (first | apply And.intro | intro _)
 refine zhK74 _ ?_
 refine join_k [9, 8, 5, 4] (fun w => ⟨[(9, .w (.one (.p 9 []))), (8, .w (.one (.p 8 []))), (5, .w (.one (.p 5 []))), (4, .w (.one (.p 4 [])))], [(9, ⟨false, w.ls⟩), (8, ⟨false, [.pl (.u32 0), .pl (.u32 0), .pl (.u32 0), .pl (.u32 0), .pl (.u32 0), .pl (.u32 0), .pl (.u32 0), .pl (.u32 0)]⟩), (5, ⟨false, [.pl (.str b)]⟩), (4, ⟨false, [.pl (.u32 h0), .pl (.u32 h1), .pl (.u32 h2), .pl (.u32 h3), .pl (.u32 h4), .pl (.u32 h5), .pl (.u32 h6), .pl (.u32 h7)]⟩), (1000001, ⟨false, [.pl (.u32 1779033703), .pl (.u32 3144134277), .pl (.u32 1013904242), .pl (.u32 2773480762), .pl (.u32 1359893119), .pl (.u32 2600822924), .pl (.u32 528734635), .pl (.u32 1541459225)]⟩)]⟩) (fun w => iniW ⟨h0, h1, h2, h3, h4, h5, h6, h7⟩ len last = w) (fun zN75 zM75 zhN75 zhM75 => ?_) (fun Wi hW => ?_)
 · skip
   refine sr_k fun zK76 zhK76 => ?_
   simp only [go_sem, hb, hcv, Int.toNat_one, Int.reduceTMod, Int.reduceTDiv, Int.mul_zero]
   repeat' (first | apply And.intro | intro _)
   refine zhK76 _ ?_
   refine cond_k rfl (fun hc => ?_) (fun hc => ?_)
   · try simp only [go_sem, hb, hcv, Int.toNat_one, Int.reduceTMod, Int.reduceTDiv, Int.mul_zero] at hc
     subst hc
     all_goals
      refine region_k fun zK77 zhK77 => ?_
      simp only [go_sem, hb, hcv, Int.toNat_one, Int.reduceTMod, Int.reduceTDiv, Int.mul_zero]
      repeat' (first | apply And.intro | intro _)
      refine zhK77 _ ?_
      refine zhN75 _ rfl _ ?_
      (simp only [keepE_mk, kept_nil, kept_cons, List.contains_cons, List.contains_nil, Nat.reduceBEq, beq_self_eq_true, Bool.or_false, Bool.or_true, Bool.true_or, Bool.false_or, Bool.false_eq_true, reduceIte]; rfl)
   · try simp only [go_sem, hb, hcv, Int.toNat_one, Int.reduceTMod, Int.reduceTDiv, Int.mul_zero] at hc
     subst hc
     all_goals
      refine skip_k ?_
      refine zhN75 _ rfl _ ?_
      (simp only [keepE_mk, kept_nil, kept_cons, List.contains_cons, List.contains_nil, Nat.reduceBEq, beq_self_eq_true, Bool.or_false, Bool.or_true, Bool.true_or, Bool.false_or, Bool.false_eq_true, reduceIte]; rfl)
 · skip
   refine sr_k fun zK78 zhK78 => ?_
   simp only [go_sem, hb, hcv, Int.toNat_one, Int.reduceTMod, Int.reduceTDiv, Int.mul_zero]
   repeat' (first | apply And.intro | intro _)
   refine zhK78 _ ?_
   refine seq_k fun zN79 zM79 zhN79 zhM79 => ?_
   refine sr_k fun zK80 zhK80 => ?_
   simp only [go_sem, hb, hcv, Int.toNat_one, Int.reduceTMod, Int.reduceTDiv, Int.mul_zero]
   repeat' (first | apply And.intro | intro _)
   refine zhK80 _ ?_
   refine block_k fun zB81 zbn81 zbx81 zbr81 zbi81 => ?_
   refine ht_dropE [0, 1, 2, 3, 5, 10, 18, 19, 20, 21, 22, 23, 24, 25, 26, 27, 28, 29, 30, 31, 32, 33, 34, 35, 36, 37, 38, 39, 40, 41, 42, 43, 44, 45, 46, 47, 48, 49, 50, 51, 52, 53, 54, 55, 56] ?_
   simp only [dropE_mk, fgt_nil, fgt_cons, List.contains_cons, List.contains_nil, Nat.reduceBEq, beq_self_eq_true, Bool.or_false, Bool.or_true, Bool.true_or, Bool.false_or, Bool.false_eq_true, reduceIte]
   refine loop_k (fun y => [(57, .w (.one (.pl (.i ((y.1 : Nat) : Int)))))]) (fun y => [(9, ⟨false, (roundB b y.1 Wi).ls⟩)]) (fun y => 10 - y.1) (⟨0, Nat.zero_le _⟩ : {y : Nat // y ≤ 10}) ?_ ?_ ?_
   · (simp only [go_sem, leX, List.cons_append, List.nil_append]; try simp)
   · (simp only [roundB, go_sem, leX, List.cons_append, List.nil_append]; first | done | rfl | (rw [← hW]; simp [roundB, iniW, W16.ls, leX, look]; done))
   intro ⟨k, hk9⟩ zN82 zM82 zhN82 zhM82
   simp only [List.cons_append, List.nil_append]
   rcases Nat.lt_or_ge k 10 with hlt | hge
   · have hcq : ((k : Nat) : Int) < 10 := by omega
     have hs1 : Go.RowKit.wrap64 (((k : Nat) : Int) + 1) = ((k + 1 : Nat) : Int) := wnat (by omega) (by omega)
     obtain ⟨w, hw⟩ : ∃ w, roundB b k Wi = w := ⟨_, rfl⟩
     obtain ⟨x0, x1, x2, x3, x4, x5, x6, x7, x8, x9, x10, x11, x12, x13, x14, x15⟩ := w
     obtain ⟨y0, hm0⟩ : ∃ y, mixW b k 0 = y := ⟨_, rfl⟩
     obtain ⟨y1, hm1⟩ : ∃ y, mixW b k 1 = y := ⟨_, rfl⟩
     obtain ⟨y2, hm2⟩ : ∃ y, mixW b k 2 = y := ⟨_, rfl⟩
     obtain ⟨y3, hm3⟩ : ∃ y, mixW b k 3 = y := ⟨_, rfl⟩
     obtain ⟨y4, hm4⟩ : ∃ y, mixW b k 4 = y := ⟨_, rfl⟩
     obtain ⟨y5, hm5⟩ : ∃ y, mixW b k 5 = y := ⟨_, rfl⟩
     obtain ⟨y6, hm6⟩ : ∃ y, mixW b k 6 = y := ⟨_, rfl⟩
     obtain ⟨y7, hm7⟩ : ∃ y, mixW b k 7 = y := ⟨_, rfl⟩
     obtain ⟨y8, hm8⟩ : ∃ y, mixW b k 8 = y := ⟨_, rfl⟩
     obtain ⟨y9, hm9⟩ : ∃ y, mixW b k 9 = y := ⟨_, rfl⟩
     obtain ⟨y10, hm10⟩ : ∃ y, mixW b k 10 = y := ⟨_, rfl⟩
     obtain ⟨y11, hm11⟩ : ∃ y, mixW b k 11 = y := ⟨_, rfl⟩
     obtain ⟨y12, hm12⟩ : ∃ y, mixW b k 12 = y := ⟨_, rfl⟩
     obtain ⟨y13, hm13⟩ : ∃ y, mixW b k 13 = y := ⟨_, rfl⟩
     obtain ⟨y14, hm14⟩ : ∃ y, mixW b k 14 = y := ⟨_, rfl⟩
     obtain ⟨y15, hm15⟩ : ∃ y, mixW b k 15 = y := ⟨_, rfl⟩
     obtain ⟨j0a1, hj0a1⟩ : ∃ z, x0 + (x4 + y0) = z := ⟨_, rfl⟩
     obtain ⟨j0d1, hj0d1⟩ : ∃ z, rot32 (x12 ^^^ j0a1) 16 = z := ⟨_, rfl⟩
     obtain ⟨j0c1, hj0c1⟩ : ∃ z, x8 + j0d1 = z := ⟨_, rfl⟩
     obtain ⟨j0b1, hj0b1⟩ : ∃ z, rot32 (x4 ^^^ j0c1) 20 = z := ⟨_, rfl⟩
     obtain ⟨j0a2, hj0a2⟩ : ∃ z, j0a1 + (j0b1 + y1) = z := ⟨_, rfl⟩
     obtain ⟨j0d2, hj0d2⟩ : ∃ z, rot32 (j0d1 ^^^ j0a2) 24 = z := ⟨_, rfl⟩
     obtain ⟨j0c2, hj0c2⟩ : ∃ z, j0c1 + j0d2 = z := ⟨_, rfl⟩
     obtain ⟨j0b2, hj0b2⟩ : ∃ z, rot32 (j0b1 ^^^ j0c2) 25 = z := ⟨_, rfl⟩
     have hmA0 : mA x0 x4 x8 x12 y0 y1 = j0a2 := by simp only [mA, mB, mC, mD, ma1, mb1, mc1, md1, hj0a1, hj0d1, hj0c1, hj0b1, hj0a2, hj0d2, hj0c2, hj0b2]
     have hmB0 : mB x0 x4 x8 x12 y0 y1 = j0b2 := by simp only [mA, mB, mC, mD, ma1, mb1, mc1, md1, hj0a1, hj0d1, hj0c1, hj0b1, hj0a2, hj0d2, hj0c2, hj0b2]
     have hmC0 : mC x0 x4 x8 x12 y0 y1 = j0c2 := by simp only [mA, mB, mC, mD, ma1, mb1, mc1, md1, hj0a1, hj0d1, hj0c1, hj0b1, hj0a2, hj0d2, hj0c2, hj0b2]
     have hmD0 : mD x0 x4 x8 x12 y0 y1 = j0d2 := by simp only [mA, mB, mC, mD, ma1, mb1, mc1, md1, hj0a1, hj0d1, hj0c1, hj0b1, hj0a2, hj0d2, hj0c2, hj0b2]
     obtain ⟨j1a1, hj1a1⟩ : ∃ z, x1 + (x5 + y2) = z := ⟨_, rfl⟩
     obtain ⟨j1d1, hj1d1⟩ : ∃ z, rot32 (x13 ^^^ j1a1) 16 = z := ⟨_, rfl⟩
     obtain ⟨j1c1, hj1c1⟩ : ∃ z, x9 + j1d1 = z := ⟨_, rfl⟩
     obtain ⟨j1b1, hj1b1⟩ : ∃ z, rot32 (x5 ^^^ j1c1) 20 = z := ⟨_, rfl⟩
     obtain ⟨j1a2, hj1a2⟩ : ∃ z, j1a1 + (j1b1 + y3) = z := ⟨_, rfl⟩
     obtain ⟨j1d2, hj1d2⟩ : ∃ z, rot32 (j1d1 ^^^ j1a2) 24 = z := ⟨_, rfl⟩
     obtain ⟨j1c2, hj1c2⟩ : ∃ z, j1c1 + j1d2 = z := ⟨_, rfl⟩
     obtain ⟨j1b2, hj1b2⟩ : ∃ z, rot32 (j1b1 ^^^ j1c2) 25 = z := ⟨_, rfl⟩
     have hmA1 : mA x1 x5 x9 x13 y2 y3 = j1a2 := by simp only [mA, mB, mC, mD, ma1, mb1, mc1, md1, hj1a1, hj1d1, hj1c1, hj1b1, hj1a2, hj1d2, hj1c2, hj1b2]
     have hmB1 : mB x1 x5 x9 x13 y2 y3 = j1b2 := by simp only [mA, mB, mC, mD, ma1, mb1, mc1, md1, hj1a1, hj1d1, hj1c1, hj1b1, hj1a2, hj1d2, hj1c2, hj1b2]
     have hmC1 : mC x1 x5 x9 x13 y2 y3 = j1c2 := by simp only [mA, mB, mC, mD, ma1, mb1, mc1, md1, hj1a1, hj1d1, hj1c1, hj1b1, hj1a2, hj1d2, hj1c2, hj1b2]
     have hmD1 : mD x1 x5 x9 x13 y2 y3 = j1d2 := by simp only [mA, mB, mC, mD, ma1, mb1, mc1, md1, hj1a1, hj1d1, hj1c1, hj1b1, hj1a2, hj1d2, hj1c2, hj1b2]
     obtain ⟨j2a1, hj2a1⟩ : ∃ z, x2 + (x6 + y4) = z := ⟨_, rfl⟩
     obtain ⟨j2d1, hj2d1⟩ : ∃ z, rot32 (x14 ^^^ j2a1) 16 = z := ⟨_, rfl⟩
     obtain ⟨j2c1, hj2c1⟩ : ∃ z, x10 + j2d1 = z := ⟨_, rfl⟩
     obtain ⟨j2b1, hj2b1⟩ : ∃ z, rot32 (x6 ^^^ j2c1) 20 = z := ⟨_, rfl⟩
     obtain ⟨j2a2, hj2a2⟩ : ∃ z, j2a1 + (j2b1 + y5) = z := ⟨_, rfl⟩
     obtain ⟨j2d2, hj2d2⟩ : ∃ z, rot32 (j2d1 ^^^ j2a2) 24 = z := ⟨_, rfl⟩
     obtain ⟨j2c2, hj2c2⟩ : ∃ z, j2c1 + j2d2 = z := ⟨_, rfl⟩
     obtain ⟨j2b2, hj2b2⟩ : ∃ z, rot32 (j2b1 ^^^ j2c2) 25 = z := ⟨_, rfl⟩
     have hmA2 : mA x2 x6 x10 x14 y4 y5 = j2a2 := by simp only [mA, mB, mC, mD, ma1, mb1, mc1, md1, hj2a1, hj2d1, hj2c1, hj2b1, hj2a2, hj2d2, hj2c2, hj2b2]
     have hmB2 : mB x2 x6 x10 x14 y4 y5 = j2b2 := by simp only [mA, mB, mC, mD, ma1, mb1, mc1, md1, hj2a1, hj2d1, hj2c1, hj2b1, hj2a2, hj2d2, hj2c2, hj2b2]
     have hmC2 : mC x2 x6 x10 x14 y4 y5 = j2c2 := by simp only [mA, mB, mC, mD, ma1, mb1, mc1, md1, hj2a1, hj2d1, hj2c1, hj2b1, hj2a2, hj2d2, hj2c2, hj2b2]
     have hmD2 : mD x2 x6 x10 x14 y4 y5 = j2d2 := by simp only [mA, mB, mC, mD, ma1, mb1, mc1, md1, hj2a1, hj2d1, hj2c1, hj2b1, hj2a2, hj2d2, hj2c2, hj2b2]
     obtain ⟨j3a1, hj3a1⟩ : ∃ z, x3 + (x7 + y6) = z := ⟨_, rfl⟩
     obtain ⟨j3d1, hj3d1⟩ : ∃ z, rot32 (x15 ^^^ j3a1) 16 = z := ⟨_, rfl⟩
     obtain ⟨j3c1, hj3c1⟩ : ∃ z, x11 + j3d1 = z := ⟨_, rfl⟩
     obtain ⟨j3b1, hj3b1⟩ : ∃ z, rot32 (x7 ^^^ j3c1) 20 = z := ⟨_, rfl⟩
     obtain ⟨j3a2, hj3a2⟩ : ∃ z, j3a1 + (j3b1 + y7) = z := ⟨_, rfl⟩
     obtain ⟨j3d2, hj3d2⟩ : ∃ z, rot32 (j3d1 ^^^ j3a2) 24 = z := ⟨_, rfl⟩
     obtain ⟨j3c2, hj3c2⟩ : ∃ z, j3c1 + j3d2 = z := ⟨_, rfl⟩
     obtain ⟨j3b2, hj3b2⟩ : ∃ z, rot32 (j3b1 ^^^ j3c2) 25 = z := ⟨_, rfl⟩
     have hmA3 : mA x3 x7 x11 x15 y6 y7 = j3a2 := by simp only [mA, mB, mC, mD, ma1, mb1, mc1, md1, hj3a1, hj3d1, hj3c1, hj3b1, hj3a2, hj3d2, hj3c2, hj3b2]
     have hmB3 : mB x3 x7 x11 x15 y6 y7 = j3b2 := by simp only [mA, mB, mC, mD, ma1, mb1, mc1, md1, hj3a1, hj3d1, hj3c1, hj3b1, hj3a2, hj3d2, hj3c2, hj3b2]
     have hmC3 : mC x3 x7 x11 x15 y6 y7 = j3c2 := by simp only [mA, mB, mC, mD, ma1, mb1, mc1, md1, hj3a1, hj3d1, hj3c1, hj3b1, hj3a2, hj3d2, hj3c2, hj3b2]
     have hmD3 : mD x3 x7 x11 x15 y6 y7 = j3d2 := by simp only [mA, mB, mC, mD, ma1, mb1, mc1, md1, hj3a1, hj3d1, hj3c1, hj3b1, hj3a2, hj3d2, hj3c2, hj3b2]
     obtain ⟨j4a1, hj4a1⟩ : ∃ z, j0a2 + (j1b2 + y8) = z := ⟨_, rfl⟩
     obtain ⟨j4d1, hj4d1⟩ : ∃ z, rot32 (j3d2 ^^^ j4a1) 16 = z := ⟨_, rfl⟩
     obtain ⟨j4c1, hj4c1⟩ : ∃ z, j2c2 + j4d1 = z := ⟨_, rfl⟩
     obtain ⟨j4b1, hj4b1⟩ : ∃ z, rot32 (j1b2 ^^^ j4c1) 20 = z := ⟨_, rfl⟩
     obtain ⟨j4a2, hj4a2⟩ : ∃ z, j4a1 + (j4b1 + y9) = z := ⟨_, rfl⟩
     obtain ⟨j4d2, hj4d2⟩ : ∃ z, rot32 (j4d1 ^^^ j4a2) 24 = z := ⟨_, rfl⟩
     obtain ⟨j4c2, hj4c2⟩ : ∃ z, j4c1 + j4d2 = z := ⟨_, rfl⟩
     obtain ⟨j4b2, hj4b2⟩ : ∃ z, rot32 (j4b1 ^^^ j4c2) 25 = z := ⟨_, rfl⟩
     have hmA4 : mA j0a2 j1b2 j2c2 j3d2 y8 y9 = j4a2 := by simp only [mA, mB, mC, mD, ma1, mb1, mc1, md1, hj4a1, hj4d1, hj4c1, hj4b1, hj4a2, hj4d2, hj4c2, hj4b2]
     have hmB4 : mB j0a2 j1b2 j2c2 j3d2 y8 y9 = j4b2 := by simp only [mA, mB, mC, mD, ma1, mb1, mc1, md1, hj4a1, hj4d1, hj4c1, hj4b1, hj4a2, hj4d2, hj4c2, hj4b2]
     have hmC4 : mC j0a2 j1b2 j2c2 j3d2 y8 y9 = j4c2 := by simp only [mA, mB, mC, mD, ma1, mb1, mc1, md1, hj4a1, hj4d1, hj4c1, hj4b1, hj4a2, hj4d2, hj4c2, hj4b2]
     have hmD4 : mD j0a2 j1b2 j2c2 j3d2 y8 y9 = j4d2 := by simp only [mA, mB, mC, mD, ma1, mb1, mc1, md1, hj4a1, hj4d1, hj4c1, hj4b1, hj4a2, hj4d2, hj4c2, hj4b2]
     obtain ⟨j5a1, hj5a1⟩ : ∃ z, j1a2 + (j2b2 + y10) = z := ⟨_, rfl⟩
     obtain ⟨j5d1, hj5d1⟩ : ∃ z, rot32 (j0d2 ^^^ j5a1) 16 = z := ⟨_, rfl⟩
     obtain ⟨j5c1, hj5c1⟩ : ∃ z, j3c2 + j5d1 = z := ⟨_, rfl⟩
     obtain ⟨j5b1, hj5b1⟩ : ∃ z, rot32 (j2b2 ^^^ j5c1) 20 = z := ⟨_, rfl⟩
     obtain ⟨j5a2, hj5a2⟩ : ∃ z, j5a1 + (j5b1 + y11) = z := ⟨_, rfl⟩
     obtain ⟨j5d2, hj5d2⟩ : ∃ z, rot32 (j5d1 ^^^ j5a2) 24 = z := ⟨_, rfl⟩
     obtain ⟨j5c2, hj5c2⟩ : ∃ z, j5c1 + j5d2 = z := ⟨_, rfl⟩
     obtain ⟨j5b2, hj5b2⟩ : ∃ z, rot32 (j5b1 ^^^ j5c2) 25 = z := ⟨_, rfl⟩
     have hmA5 : mA j1a2 j2b2 j3c2 j0d2 y10 y11 = j5a2 := by simp only [mA, mB, mC, mD, ma1, mb1, mc1, md1, hj5a1, hj5d1, hj5c1, hj5b1, hj5a2, hj5d2, hj5c2, hj5b2]
     have hmB5 : mB j1a2 j2b2 j3c2 j0d2 y10 y11 = j5b2 := by simp only [mA, mB, mC, mD, ma1, mb1, mc1, md1, hj5a1, hj5d1, hj5c1, hj5b1, hj5a2, hj5d2, hj5c2, hj5b2]
     have hmC5 : mC j1a2 j2b2 j3c2 j0d2 y10 y11 = j5c2 := by simp only [mA, mB, mC, mD, ma1, mb1, mc1, md1, hj5a1, hj5d1, hj5c1, hj5b1, hj5a2, hj5d2, hj5c2, hj5b2]
     have hmD5 : mD j1a2 j2b2 j3c2 j0d2 y10 y11 = j5d2 := by simp only [mA, mB, mC, mD, ma1, mb1, mc1, md1, hj5a1, hj5d1, hj5c1, hj5b1, hj5a2, hj5d2, hj5c2, hj5b2]
     obtain ⟨j6a1, hj6a1⟩ : ∃ z, j2a2 + (j3b2 + y12) = z := ⟨_, rfl⟩
     obtain ⟨j6d1, hj6d1⟩ : ∃ z, rot32 (j1d2 ^^^ j6a1) 16 = z := ⟨_, rfl⟩
     obtain ⟨j6c1, hj6c1⟩ : ∃ z, j0c2 + j6d1 = z := ⟨_, rfl⟩
     obtain ⟨j6b1, hj6b1⟩ : ∃ z, rot32 (j3b2 ^^^ j6c1) 20 = z := ⟨_, rfl⟩
     obtain ⟨j6a2, hj6a2⟩ : ∃ z, j6a1 + (j6b1 + y13) = z := ⟨_, rfl⟩
     obtain ⟨j6d2, hj6d2⟩ : ∃ z, rot32 (j6d1 ^^^ j6a2) 24 = z := ⟨_, rfl⟩
     obtain ⟨j6c2, hj6c2⟩ : ∃ z, j6c1 + j6d2 = z := ⟨_, rfl⟩
     obtain ⟨j6b2, hj6b2⟩ : ∃ z, rot32 (j6b1 ^^^ j6c2) 25 = z := ⟨_, rfl⟩
     have hmA6 : mA j2a2 j3b2 j0c2 j1d2 y12 y13 = j6a2 := by simp only [mA, mB, mC, mD, ma1, mb1, mc1, md1, hj6a1, hj6d1, hj6c1, hj6b1, hj6a2, hj6d2, hj6c2, hj6b2]
     have hmB6 : mB j2a2 j3b2 j0c2 j1d2 y12 y13 = j6b2 := by simp only [mA, mB, mC, mD, ma1, mb1, mc1, md1, hj6a1, hj6d1, hj6c1, hj6b1, hj6a2, hj6d2, hj6c2, hj6b2]
     have hmC6 : mC j2a2 j3b2 j0c2 j1d2 y12 y13 = j6c2 := by simp only [mA, mB, mC, mD, ma1, mb1, mc1, md1, hj6a1, hj6d1, hj6c1, hj6b1, hj6a2, hj6d2, hj6c2, hj6b2]
     have hmD6 : mD j2a2 j3b2 j0c2 j1d2 y12 y13 = j6d2 := by simp only [mA, mB, mC, mD, ma1, mb1, mc1, md1, hj6a1, hj6d1, hj6c1, hj6b1, hj6a2, hj6d2, hj6c2, hj6b2]
     obtain ⟨j7a1, hj7a1⟩ : ∃ z, j3a2 + (j0b2 + y14) = z := ⟨_, rfl⟩
     obtain ⟨j7d1, hj7d1⟩ : ∃ z, rot32 (j2d2 ^^^ j7a1) 16 = z := ⟨_, rfl⟩
     obtain ⟨j7c1, hj7c1⟩ : ∃ z, j1c2 + j7d1 = z := ⟨_, rfl⟩
     obtain ⟨j7b1, hj7b1⟩ : ∃ z, rot32 (j0b2 ^^^ j7c1) 20 = z := ⟨_, rfl⟩
     obtain ⟨j7a2, hj7a2⟩ : ∃ z, j7a1 + (j7b1 + y15) = z := ⟨_, rfl⟩
     obtain ⟨j7d2, hj7d2⟩ : ∃ z, rot32 (j7d1 ^^^ j7a2) 24 = z := ⟨_, rfl⟩
     obtain ⟨j7c2, hj7c2⟩ : ∃ z, j7c1 + j7d2 = z := ⟨_, rfl⟩
     obtain ⟨j7b2, hj7b2⟩ : ∃ z, rot32 (j7b1 ^^^ j7c2) 25 = z := ⟨_, rfl⟩
     have hmA7 : mA j3a2 j0b2 j1c2 j2d2 y14 y15 = j7a2 := by simp only [mA, mB, mC, mD, ma1, mb1, mc1, md1, hj7a1, hj7d1, hj7c1, hj7b1, hj7a2, hj7d2, hj7c2, hj7b2]
     have hmB7 : mB j3a2 j0b2 j1c2 j2d2 y14 y15 = j7b2 := by simp only [mA, mB, mC, mD, ma1, mb1, mc1, md1, hj7a1, hj7d1, hj7c1, hj7b1, hj7a2, hj7d2, hj7c2, hj7b2]
     have hmC7 : mC j3a2 j0b2 j1c2 j2d2 y14 y15 = j7c2 := by simp only [mA, mB, mC, mD, ma1, mb1, mc1, md1, hj7a1, hj7d1, hj7c1, hj7b1, hj7a2, hj7d2, hj7c2, hj7b2]
     have hmD7 : mD j3a2 j0b2 j1c2 j2d2 y14 y15 = j7d2 := by simp only [mA, mB, mC, mD, ma1, mb1, mc1, md1, hj7a1, hj7d1, hj7c1, hj7b1, hj7a2, hj7d2, hj7c2, hj7b2]
     simp only [hw, W16.ls]
     refine sr_k fun zK83 zhK83 => ?_
     simp only [go_sem, hb, hcv, Int.toNat_one, Int.reduceTMod, Int.reduceTDiv, Int.mul_zero, hcq, hs1, W16.ls, W16.sh, W16.unsh]
     repeat' (first | apply And.intro | intro _)
     refine zhK83 _ ?_
     refine seq_k fun zN84 zM84 zhN84 zhM84 => ?_
     refine condT_k (by first | rfl | (simp [go_sem, hb, hcv, Int.toNat_one, Int.reduceTMod, Int.reduceTDiv, Int.mul_zero, hcq, hs1, W16.ls, W16.sh, W16.unsh]; done)) ?_
     refine skip_k ?_
     refine zhN84 _ ?_
     refine seq_k fun zN85 zM85 zhN85 zhM85 => ?_
     refine block_k fun zB86 zbn86 zbx86 zbr86 zbi86 => ?_
     refine sr_k fun zK87 zhK87 => ?_
     simp only [go_sem, hb, hcv, Int.toNat_one, Int.reduceTMod, Int.reduceTDiv, Int.mul_zero, hcq, hs1, W16.ls, W16.sh, W16.unsh]
     repeat' (first | apply And.intro | intro _)
     refine zhK87 _ ?_
     refine sr_k fun zK88 zhK88 => ?_
     simp only [go_sem, hb, hcv, Int.toNat_one, Int.reduceTMod, Int.reduceTDiv, Int.mul_zero, hcq, hs1, W16.ls, W16.sh, W16.unsh]
     repeat' (first | apply And.intro | intro _)
     refine zhK88 _ ?_
     refine block_k fun zB89 zbn89 zbx89 zbr89 zbi89 => ?_
     refine rounds_k 3 ?_
     refine rnd_k fun zN91 zM91 zhN91 zhM91 => ?_
     refine sr_k fun zK92 zhK92 => ?_
     simp only [go_sem, hb, hcv, Int.toNat_one, Int.reduceTMod, Int.reduceTDiv, Int.mul_zero, hcq, hs1, W16.ls, W16.sh, W16.unsh]
     repeat' (first | apply And.intro | intro _)
     refine zhK92 _ ?_
     refine seq_k fun zN93 zM93 zhN93 zhM93 => ?_
     refine condT_k (by first | rfl | (simp [go_sem, hb, hcv, Int.toNat_one, Int.reduceTMod, Int.reduceTDiv, Int.mul_zero, hcq, hs1, W16.ls, W16.sh, W16.unsh]; done)) ?_
     refine skip_k ?_
     refine zhN93 _ ?_
     refine seq_k fun zN94 zM94 zhN94 zhM94 => ?_
     refine block_k fun zB95 zbn95 zbx95 zbr95 zbi95 => ?_
     refine sr_k fun zK96 zhK96 => ?_
     simp only [go_sem, hb, hcv, Int.toNat_one, Int.reduceTMod, Int.reduceTDiv, Int.mul_zero, hcq, hs1, W16.ls, W16.sh, W16.unsh]
     repeat' (first | apply And.intro | intro _)
     refine zhK96 _ ?_
     refine sr_k fun zK97 zhK97 => ?_
     simp only [go_sem, hb, hcv, Int.toNat_one, Int.reduceTMod, Int.reduceTDiv, Int.mul_zero, hcq, hs1, W16.ls, W16.sh, W16.unsh]
     repeat' (first | apply And.intro | intro _)
     all_goals refine call_view (fun k => k) (fun _ _ => rfl) (by first | rfl | (simp only [go_sem, hb, hcv, Int.toNat_one, Int.reduceTMod, Int.reduceTDiv, Int.mul_zero, hcq, hs1, W16.ls, W16.sh, W16.unsh] <;> rfl)) ((shifted_0 x0 x1 x2 x3 x4 x5 x6 x7 x8 x9 x10 x11 x12 x13 x14 x15).plain fun _ _ h => h) ?_
     all_goals (rintro v m ⟨hR, hm⟩; subst hR; subst hm)
     all_goals refine And.intro (by first | rfl | simp only [go_sem, hb, hcv, Int.toNat_one, Int.reduceTMod, Int.reduceTDiv, Int.mul_zero, hcq, hs1, W16.ls, W16.sh, W16.unsh]) (And.intro (by first | rfl | simp only [go_sem, hb, hcv, Int.toNat_one, Int.reduceTMod, Int.reduceTDiv, Int.mul_zero, hcq, hs1, W16.ls, W16.sh, W16.unsh]) ?_)
     all_goals simp only [go_sem, hb, hcv, Int.toNat_one, Int.reduceTMod, Int.reduceTDiv, Int.mul_zero, hcq, hs1, W16.ls, W16.sh, W16.unsh]
     all_goals repeat' (first | apply And.intro | intro _)
     refine zhK97 _ ?_
     refine seq_k fun zN98 zM98 zhN98 zhM98 => ?_
     refine sr_k fun zK99 zhK99 => ?_
     simp only [go_sem, hb, hcv, Int.toNat_one, Int.reduceTMod, Int.reduceTDiv, Int.mul_zero, hcq, hs1, W16.ls, W16.sh, W16.unsh]
     repeat' (first | apply And.intro | intro _)
     refine zhK99 _ ?_
     refine block_k fun zB100 zbn100 zbx100 zbr100 zbi100 => ?_
     refine rounds_k 5 ?_
     refine rnd_k fun zN102 zM102 zhN102 zhM102 => ?_
     refine sr_k fun zK103 zhK103 => ?_
     simp only [go_sem, hb, hcv, Int.toNat_one, Int.reduceTMod, Int.reduceTDiv, Int.mul_zero, hcq, hs1, W16.ls, W16.sh, W16.unsh, hm0, hm1, hj0a1, hj0d1, hj0c1, hj0b1, hj0a2, hj0d2, hj0c2, hj0b2]
     repeat' (first | apply And.intro | intro _)
     refine zhK103 _ ?_
     refine seq_k fun zN104 zM104 zhN104 zhM104 => ?_
     refine condT_k (by first | rfl | (simp [go_sem, hb, hcv, Int.toNat_one, Int.reduceTMod, Int.reduceTDiv, Int.mul_zero, hcq, hs1, W16.ls, W16.sh, W16.unsh, hm0, hm1, hj0a1, hj0d1, hj0c1, hj0b1, hj0a2, hj0d2, hj0c2, hj0b2]; done)) ?_
     refine skip_k ?_
     refine zhN104 _ ?_
     refine seq_k fun zN105 zM105 zhN105 zhM105 => ?_
     refine block_k fun zB106 zbn106 zbx106 zbr106 zbi106 => ?_
     refine sr_k fun zK107 zhK107 => ?_
     simp only [go_sem, hb, hcv, Int.toNat_one, Int.reduceTMod, Int.reduceTDiv, Int.mul_zero, hcq, hs1, W16.ls, W16.sh, W16.unsh, hm0, hm1, hj0a1, hj0d1, hj0c1, hj0b1, hj0a2, hj0d2, hj0c2, hj0b2]
     repeat' (first | apply And.intro | intro _)
     refine zhK107 _ ?_
     refine sr_k fun zK108 zhK108 => ?_
     simp only [go_sem, hb, hcv, Int.toNat_one, Int.reduceTMod, Int.reduceTDiv, Int.mul_zero, hcq, hs1, W16.ls, W16.sh, W16.unsh, hm0, hm1, hj0a1, hj0d1, hj0c1, hj0b1, hj0a2, hj0d2, hj0c2, hj0b2]
     repeat' (first | apply And.intro | intro _)
     all_goals (refine call_fn (caps := [5]) false [(500000, 5)] (fun k => k) ?_ ?_ (fun _ _ => rfl) ?_ (by decide) ?_ (word_0 b hb k hlt) ?_; iterate 4 (focus (first | rfl | (simp only [go_sem, hb, hcv, Int.toNat_one, Int.reduceTMod, Int.reduceTDiv, Int.mul_zero, hcq, hs1, W16.ls, W16.sh, W16.unsh, hm0, hm1, hj0a1, hj0d1, hj0c1, hj0b1, hj0a2, hj0d2, hj0c2, hj0b2] <;> first | done | rfl | simp))))
     all_goals (rintro v m ⟨hR, hm⟩; subst hR; subst hm)
     all_goals (refine And.intro ?_ (And.intro ?_ (And.intro ?_ ?_)); iterate 3 (focus (first | rfl | (simp only [go_sem, hb, hcv, Int.toNat_one, Int.reduceTMod, Int.reduceTDiv, Int.mul_zero, hcq, hs1, W16.ls, W16.sh, W16.unsh, hm0, hm1, hj0a1, hj0d1, hj0c1, hj0b1, hj0a2, hj0d2, hj0c2, hj0b2]; done) | (simp [go_sem, look, hb, hcv, Int.toNat_one, Int.reduceTMod, Int.reduceTDiv, Int.mul_zero, hcq, hs1, W16.ls, W16.sh, W16.unsh, hm0, hm1, hj0a1, hj0d1, hj0c1, hj0b1, hj0a2, hj0d2, hj0c2, hj0b2]; done))))
     all_goals (try simp only [go_sem, hb, hcv, Int.toNat_one, Int.reduceTMod, Int.reduceTDiv, Int.mul_zero, hcq, hs1, W16.ls, W16.sh, W16.unsh, hm0, hm1, hj0a1, hj0d1, hj0c1, hj0b1, hj0a2, hj0d2, hj0c2, hj0b2])
     all_goals (try simp only [go_sem, hb, hcv, Int.toNat_one, Int.reduceTMod, Int.reduceTDiv, Int.mul_zero, hcq, hs1, W16.ls, W16.sh, W16.unsh, hm0, hm1, hj0a1, hj0d1, hj0c1, hj0b1, hj0a2, hj0d2, hj0c2, hj0b2])
     all_goals repeat' (first | apply And.intro | intro _)
     all_goals (refine call_fn (caps := [5]) false [(500000, 5)] (fun k => k) ?_ ?_ (fun _ _ => rfl) ?_ (by decide) ?_ (word_1 b hb k hlt) ?_; iterate 4 (focus (first | rfl | (simp only [go_sem, hb, hcv, Int.toNat_one, Int.reduceTMod, Int.reduceTDiv, Int.mul_zero, hcq, hs1, W16.ls, W16.sh, W16.unsh, hm0, hm1, hj0a1, hj0d1, hj0c1, hj0b1, hj0a2, hj0d2, hj0c2, hj0b2] <;> first | done | rfl | simp))))
     all_goals (rintro v m ⟨hR, hm⟩; subst hR; subst hm)
     all_goals (refine And.intro ?_ (And.intro ?_ (And.intro ?_ ?_)); iterate 3 (focus (first | rfl | (simp only [go_sem, hb, hcv, Int.toNat_one, Int.reduceTMod, Int.reduceTDiv, Int.mul_zero, hcq, hs1, W16.ls, W16.sh, W16.unsh, hm0, hm1, hj0a1, hj0d1, hj0c1, hj0b1, hj0a2, hj0d2, hj0c2, hj0b2]; done) | (simp [go_sem, look, hb, hcv, Int.toNat_one, Int.reduceTMod, Int.reduceTDiv, Int.mul_zero, hcq, hs1, W16.ls, W16.sh, W16.unsh, hm0, hm1, hj0a1, hj0d1, hj0c1, hj0b1, hj0a2, hj0d2, hj0c2, hj0b2]; done))))
     all_goals (try simp only [go_sem, hb, hcv, Int.toNat_one, Int.reduceTMod, Int.reduceTDiv, Int.mul_zero, hcq, hs1, W16.ls, W16.sh, W16.unsh, hm0, hm1, hj0a1, hj0d1, hj0c1, hj0b1, hj0a2, hj0d2, hj0c2, hj0b2])
     all_goals (try simp only [go_sem, hb, hcv, Int.toNat_one, Int.reduceTMod, Int.reduceTDiv, Int.mul_zero, hcq, hs1, W16.ls, W16.sh, W16.unsh, hm0, hm1, hj0a1, hj0d1, hj0c1, hj0b1, hj0a2, hj0d2, hj0c2, hj0b2])
     all_goals repeat' (first | apply And.intro | intro _)
     refine zhK108 _ ?_
     refine sd_k (id := 22) [86, 87, 88, 89, 90, 91, 92, 93, 94, 95, 96, 97, 98] [0, 0, 3, 7, 0, 0, 48, 112, 0, 496, 1023, 0, 4095, 8191] [] mixed (by kernel_rfl) (by simp only [go_sem]) fun zK109 zhK109 => ?_
     simp only [go_sem, hb, hcv, Int.toNat_one, Int.reduceTMod, Int.reduceTDiv, Int.mul_zero, hcq, hs1, W16.ls, W16.sh, W16.unsh, hm0, hm1, hj0a1, hj0d1, hj0c1, hj0b1, hj0a2, hj0d2, hj0c2, hj0b2]
     repeat' (first | apply And.intro | intro _)
     refine zhK109 _ _ trivial ?_
     refine sd_k (id := 23) [99, 100, 101, 102, 103, 104, 105, 106, 107, 108, 109, 110, 111] [0, 0, 0, 6, 14, 0, 0, 96, 224, 510, 1022, 0, 4095, 8191] [] mixed (by kernel_rfl) (by simp only [go_sem]) fun zK110 zhK110 => ?_
     simp only [go_sem, hb, hcv, Int.toNat_one, Int.reduceTMod, Int.reduceTDiv, Int.mul_zero, hcq, hs1, W16.ls, W16.sh, W16.unsh, hm0, hm1, hj0a1, hj0d1, hj0c1, hj0b1, hj0a2, hj0d2, hj0c2, hj0b2]
     repeat' (first | apply And.intro | intro _)
     all_goals refine call_draw (fun k => k) _ [] (fun _ _ => rfl) (by first | rfl | (simp only [go_sem, hb, hcv, Int.toNat_one, Int.reduceTMod, Int.reduceTDiv, Int.mul_zero, hcq, hs1, W16.ls, W16.sh, W16.unsh, hm0, hm1, hj0a1, hj0d1, hj0c1, hj0b1, hj0a2, hj0d2, hj0c2, hj0b2] <;> rfl)) ((left_16 _).plain fun _ _ h => h) ?_ ?_
     all_goals try (refine And.intro ?_ (And.intro ?_ (And.intro ?_ ?_)) <;> first | rfl | simp only [go_sem])
     all_goals simp only [go_sem, hb, hcv, Int.toNat_one, Int.reduceTMod, Int.reduceTDiv, Int.mul_zero, hcq, hs1, W16.ls, W16.sh, W16.unsh, hm0, hm1, hj0a1, hj0d1, hj0c1, hj0b1, hj0a2, hj0d2, hj0c2, hj0b2]
     all_goals repeat' (first | apply And.intro | intro _)
     refine zhK110 _ _ trivial ?_
     refine sd_k (id := 24) [112, 113, 114, 115, 116, 117, 118, 119, 120, 121, 122] [0, 0, 3, 7, 0, 0, 48, 112, 255, 0, 1023, 2047] [] mixed (by kernel_rfl) (by simp only [go_sem]) fun zK111 zhK111 => ?_
     simp only [go_sem, hb, hcv, Int.toNat_one, Int.reduceTMod, Int.reduceTDiv, Int.mul_zero, hcq, hs1, W16.ls, W16.sh, W16.unsh, hm0, hm1, hj0a1, hj0d1, hj0c1, hj0b1, hj0a2, hj0d2, hj0c2, hj0b2]
     repeat' (first | apply And.intro | intro _)
     refine zhK111 _ _ trivial ?_
     refine sd_k (id := 25) [123, 124, 125, 126, 127, 128, 129, 130, 131, 132, 133, 134, 135] [0, 0, 0, 6, 14, 0, 0, 96, 224, 510, 1022, 0, 4095, 8191] [] mixed (by kernel_rfl) (by simp only [go_sem]) fun zK112 zhK112 => ?_
     simp only [go_sem, hb, hcv, Int.toNat_one, Int.reduceTMod, Int.reduceTDiv, Int.mul_zero, hcq, hs1, W16.ls, W16.sh, W16.unsh, hm0, hm1, hj0a1, hj0d1, hj0c1, hj0b1, hj0a2, hj0d2, hj0c2, hj0b2]
     repeat' (first | apply And.intro | intro _)
     all_goals refine call_draw (fun k => k) _ [] (fun _ _ => rfl) (by first | rfl | (simp only [go_sem, hb, hcv, Int.toNat_one, Int.reduceTMod, Int.reduceTDiv, Int.mul_zero, hcq, hs1, W16.ls, W16.sh, W16.unsh, hm0, hm1, hj0a1, hj0d1, hj0c1, hj0b1, hj0a2, hj0d2, hj0c2, hj0b2] <;> rfl)) ((left_20 _).plain fun _ _ h => h) ?_ ?_
     all_goals try (refine And.intro ?_ (And.intro ?_ (And.intro ?_ ?_)) <;> first | rfl | simp only [go_sem])
     all_goals simp only [go_sem, hb, hcv, Int.toNat_one, Int.reduceTMod, Int.reduceTDiv, Int.mul_zero, hcq, hs1, W16.ls, W16.sh, W16.unsh, hm0, hm1, hj0a1, hj0d1, hj0c1, hj0b1, hj0a2, hj0d2, hj0c2, hj0b2]
     all_goals repeat' (first | apply And.intro | intro _)
     refine zhK112 _ _ trivial ?_
     refine sd_k (id := 26) [136, 137, 138, 139, 140, 141, 142, 143, 144, 145, 146, 147, 148] [0, 0, 3, 7, 0, 0, 48, 112, 0, 496, 1023, 0, 4095, 8191] [] mixed (by kernel_rfl) (by simp only [go_sem]) fun zK113 zhK113 => ?_
     simp only [go_sem, hb, hcv, Int.toNat_one, Int.reduceTMod, Int.reduceTDiv, Int.mul_zero, hcq, hs1, W16.ls, W16.sh, W16.unsh, hm0, hm1, hj0a1, hj0d1, hj0c1, hj0b1, hj0a2, hj0d2, hj0c2, hj0b2]
     repeat' (first | apply And.intro | intro _)
     refine zhK113 _ _ trivial ?_
     refine sd_k (id := 27) [149, 150, 151, 152, 153, 154, 155, 156, 157, 158, 159, 160, 161] [0, 0, 0, 6, 14, 0, 0, 96, 224, 510, 1022, 0, 4095, 8191] [] mixed (by kernel_rfl) (by simp only [go_sem]) fun zK114 zhK114 => ?_
     simp only [go_sem, hb, hcv, Int.toNat_one, Int.reduceTMod, Int.reduceTDiv, Int.mul_zero, hcq, hs1, W16.ls, W16.sh, W16.unsh, hm0, hm1, hj0a1, hj0d1, hj0c1, hj0b1, hj0a2, hj0d2, hj0c2, hj0b2]
     repeat' (first | apply And.intro | intro _)
     all_goals refine call_draw (fun k => k) _ [] (fun _ _ => rfl) (by first | rfl | (simp only [go_sem, hb, hcv, Int.toNat_one, Int.reduceTMod, Int.reduceTDiv, Int.mul_zero, hcq, hs1, W16.ls, W16.sh, W16.unsh, hm0, hm1, hj0a1, hj0d1, hj0c1, hj0b1, hj0a2, hj0d2, hj0c2, hj0b2] <;> rfl)) ((left_24 _).plain fun _ _ h => h) ?_ ?_
     all_goals try (refine And.intro ?_ (And.intro ?_ (And.intro ?_ ?_)) <;> first | rfl | simp only [go_sem])
     all_goals simp only [go_sem, hb, hcv, Int.toNat_one, Int.reduceTMod, Int.reduceTDiv, Int.mul_zero, hcq, hs1, W16.ls, W16.sh, W16.unsh, hm0, hm1, hj0a1, hj0d1, hj0c1, hj0b1, hj0a2, hj0d2, hj0c2, hj0b2]
     all_goals repeat' (first | apply And.intro | intro _)
     refine zhK114 _ _ trivial ?_
     refine sd_k (id := 28) [162, 163, 164, 165, 166, 167, 168, 169, 170, 171, 172] [0, 0, 3, 7, 0, 0, 48, 112, 255, 0, 1023, 2047] [] mixed (by kernel_rfl) (by simp only [go_sem]) fun zK115 zhK115 => ?_
     simp only [go_sem, hb, hcv, Int.toNat_one, Int.reduceTMod, Int.reduceTDiv, Int.mul_zero, hcq, hs1, W16.ls, W16.sh, W16.unsh, hm0, hm1, hj0a1, hj0d1, hj0c1, hj0b1, hj0a2, hj0d2, hj0c2, hj0b2]
     repeat' (first | apply And.intro | intro _)
     refine zhK115 _ _ trivial ?_
     refine draw_k (id := 29) [173, 174, 175, 176, 177, 178, 179, 180, 181, 182, 183, 184, 185] [0, 0, 0, 6, 14, 0, 0, 96, 224, 510, 1022, 0, 4095, 8191] [] mixed (by kernel_rfl) (by simp only [go_sem]) fun zK116 zhK116 => ?_
     simp only [go_sem, hb, hcv, Int.toNat_one, Int.reduceTMod, Int.reduceTDiv, Int.mul_zero, hcq, hs1, W16.ls, W16.sh, W16.unsh, hm0, hm1, hj0a1, hj0d1, hj0c1, hj0b1, hj0a2, hj0d2, hj0c2, hj0b2]
     repeat' (first | apply And.intro | intro _)
     all_goals refine call_draw (fun k => k) _ [] (fun _ _ => rfl) (by first | rfl | (simp only [go_sem, hb, hcv, Int.toNat_one, Int.reduceTMod, Int.reduceTDiv, Int.mul_zero, hcq, hs1, W16.ls, W16.sh, W16.unsh, hm0, hm1, hj0a1, hj0d1, hj0c1, hj0b1, hj0a2, hj0d2, hj0c2, hj0b2] <;> rfl)) ((left_25 _).plain fun _ _ h => h) ?_ ?_
     all_goals try (refine And.intro ?_ (And.intro ?_ (And.intro ?_ ?_)) <;> first | rfl | simp only [go_sem])
     all_goals simp only [go_sem, hb, hcv, Int.toNat_one, Int.reduceTMod, Int.reduceTDiv, Int.mul_zero, hcq, hs1, W16.ls, W16.sh, W16.unsh, hm0, hm1, hj0a1, hj0d1, hj0c1, hj0b1, hj0a2, hj0d2, hj0c2, hj0b2]
     all_goals repeat' (first | apply And.intro | intro _)
     refine zhK116 _ _ trivial ?_
     refine zbn106 _ ?_
     refine zhN105 _ ?_
     refine region_k fun zK117 zhK117 => ?_
     simp only [go_sem, hb, hcv, Int.toNat_one, Int.reduceTMod, Int.reduceTDiv, Int.mul_zero, hcq, hs1, W16.ls, W16.sh, W16.unsh, hm0, hm1, hj0a1, hj0d1, hj0c1, hj0b1, hj0a2, hj0d2, hj0c2, hj0b2]
     repeat' (first | apply And.intro | intro _)
     refine zhK117 _ ?_
     refine zhN102 _ ?_
     refine rnd_forget [14, 15, 16, 67, 68, 69, 70, 71, 72, 73, 74, 75, 76, 77, 78, 79, 80, 81, 82, 83, 84, 85, 86, 87, 88, 89, 90, 91, 92, 93, 94, 95, 96, 97, 98, 99, 100, 101, 102, 103, 104, 105, 106, 107, 108, 109, 110, 111, 112, 113, 114, 115, 116, 117, 118, 119, 120, 121, 122, 123, 124, 125, 126, 127, 128, 129, 130, 131, 132, 133, 134, 135, 136, 137, 138, 139, 140, 141, 142, 143, 144, 145, 146, 147, 148, 149, 150, 151, 152, 153, 154, 155, 156, 157, 158, 159, 160, 161, 162, 163, 164, 165, 166, 167, 168, 169, 170, 171, 172, 173, 174, 175, 176, 177, 178, 179, 180, 181, 182, 183, 184, 185, 186] ?_
     simp only [go_sem, St.forget, fgt]
     refine rnd_k fun zN118 zM118 zhN118 zhM118 => ?_
     refine sr_k fun zK119 zhK119 => ?_
     simp only [go_sem, hb, hcv, Int.toNat_one, Int.reduceTMod, Int.reduceTDiv, Int.mul_zero, hcq, hs1, W16.ls, W16.sh, W16.unsh, hm2, hm3, hj1a1, hj1d1, hj1c1, hj1b1, hj1a2, hj1d2, hj1c2, hj1b2]
     repeat' (first | apply And.intro | intro _)
     refine zhK119 _ ?_
     refine seq_k fun zN120 zM120 zhN120 zhM120 => ?_
     refine condT_k (by first | rfl | (simp [go_sem, hb, hcv, Int.toNat_one, Int.reduceTMod, Int.reduceTDiv, Int.mul_zero, hcq, hs1, W16.ls, W16.sh, W16.unsh, hm2, hm3, hj1a1, hj1d1, hj1c1, hj1b1, hj1a2, hj1d2, hj1c2, hj1b2]; done)) ?_
     refine skip_k ?_
     refine zhN120 _ ?_
     refine seq_k fun zN121 zM121 zhN121 zhM121 => ?_
     refine block_k fun zB122 zbn122 zbx122 zbr122 zbi122 => ?_
     refine sr_k fun zK123 zhK123 => ?_
     simp only [go_sem, hb, hcv, Int.toNat_one, Int.reduceTMod, Int.reduceTDiv, Int.mul_zero, hcq, hs1, W16.ls, W16.sh, W16.unsh, hm2, hm3, hj1a1, hj1d1, hj1c1, hj1b1, hj1a2, hj1d2, hj1c2, hj1b2]
     repeat' (first | apply And.intro | intro _)
     refine zhK123 _ ?_
     refine sr_k fun zK124 zhK124 => ?_
     simp only [go_sem, hb, hcv, Int.toNat_one, Int.reduceTMod, Int.reduceTDiv, Int.mul_zero, hcq, hs1, W16.ls, W16.sh, W16.unsh, hm2, hm3, hj1a1, hj1d1, hj1c1, hj1b1, hj1a2, hj1d2, hj1c2, hj1b2]
     repeat' (first | apply And.intro | intro _)
     all_goals (refine call_fn (caps := [5]) false [(500000, 5)] (fun k => k) ?_ ?_ (fun _ _ => rfl) ?_ (by decide) ?_ (word_2 b hb k hlt) ?_; iterate 4 (focus (first | rfl | (simp only [go_sem, hb, hcv, Int.toNat_one, Int.reduceTMod, Int.reduceTDiv, Int.mul_zero, hcq, hs1, W16.ls, W16.sh, W16.unsh, hm2, hm3, hj1a1, hj1d1, hj1c1, hj1b1, hj1a2, hj1d2, hj1c2, hj1b2] <;> first | done | rfl | simp))))
     all_goals (rintro v m ⟨hR, hm⟩; subst hR; subst hm)
     all_goals (refine And.intro ?_ (And.intro ?_ (And.intro ?_ ?_)); iterate 3 (focus (first | rfl | (simp only [go_sem, hb, hcv, Int.toNat_one, Int.reduceTMod, Int.reduceTDiv, Int.mul_zero, hcq, hs1, W16.ls, W16.sh, W16.unsh, hm2, hm3, hj1a1, hj1d1, hj1c1, hj1b1, hj1a2, hj1d2, hj1c2, hj1b2]; done) | (simp [go_sem, look, hb, hcv, Int.toNat_one, Int.reduceTMod, Int.reduceTDiv, Int.mul_zero, hcq, hs1, W16.ls, W16.sh, W16.unsh, hm2, hm3, hj1a1, hj1d1, hj1c1, hj1b1, hj1a2, hj1d2, hj1c2, hj1b2]; done))))
     all_goals (try simp only [go_sem, hb, hcv, Int.toNat_one, Int.reduceTMod, Int.reduceTDiv, Int.mul_zero, hcq, hs1, W16.ls, W16.sh, W16.unsh, hm2, hm3, hj1a1, hj1d1, hj1c1, hj1b1, hj1a2, hj1d2, hj1c2, hj1b2])
     all_goals (try simp only [go_sem, hb, hcv, Int.toNat_one, Int.reduceTMod, Int.reduceTDiv, Int.mul_zero, hcq, hs1, W16.ls, W16.sh, W16.unsh, hm2, hm3, hj1a1, hj1d1, hj1c1, hj1b1, hj1a2, hj1d2, hj1c2, hj1b2])
     all_goals repeat' (first | apply And.intro | intro _)
     all_goals (refine call_fn (caps := [5]) false [(500000, 5)] (fun k => k) ?_ ?_ (fun _ _ => rfl) ?_ (by decide) ?_ (word_3 b hb k hlt) ?_; iterate 4 (focus (first | rfl | (simp only [go_sem, hb, hcv, Int.toNat_one, Int.reduceTMod, Int.reduceTDiv, Int.mul_zero, hcq, hs1, W16.ls, W16.sh, W16.unsh, hm2, hm3, hj1a1, hj1d1, hj1c1, hj1b1, hj1a2, hj1d2, hj1c2, hj1b2] <;> first | done | rfl | simp))))
     all_goals (rintro v m ⟨hR, hm⟩; subst hR; subst hm)
     all_goals (refine And.intro ?_ (And.intro ?_ (And.intro ?_ ?_)); iterate 3 (focus (first | rfl | (simp only [go_sem, hb, hcv, Int.toNat_one, Int.reduceTMod, Int.reduceTDiv, Int.mul_zero, hcq, hs1, W16.ls, W16.sh, W16.unsh, hm2, hm3, hj1a1, hj1d1, hj1c1, hj1b1, hj1a2, hj1d2, hj1c2, hj1b2]; done) | (simp [go_sem, look, hb, hcv, Int.toNat_one, Int.reduceTMod, Int.reduceTDiv, Int.mul_zero, hcq, hs1, W16.ls, W16.sh, W16.unsh, hm2, hm3, hj1a1, hj1d1, hj1c1, hj1b1, hj1a2, hj1d2, hj1c2, hj1b2]; done))))
     all_goals (try simp only [go_sem, hb, hcv, Int.toNat_one, Int.reduceTMod, Int.reduceTDiv, Int.mul_zero, hcq, hs1, W16.ls, W16.sh, W16.unsh, hm2, hm3, hj1a1, hj1d1, hj1c1, hj1b1, hj1a2, hj1d2, hj1c2, hj1b2])
     all_goals (try simp only [go_sem, hb, hcv, Int.toNat_one, Int.reduceTMod, Int.reduceTDiv, Int.mul_zero, hcq, hs1, W16.ls, W16.sh, W16.unsh, hm2, hm3, hj1a1, hj1d1, hj1c1, hj1b1, hj1a2, hj1d2, hj1c2, hj1b2])
     all_goals repeat' (first | apply And.intro | intro _)
     refine zhK124 _ ?_
     refine sd_k (id := 22) [86, 87, 88, 89, 90, 91, 92, 93, 94, 95, 96, 97, 98] [0, 0, 3, 7, 0, 0, 48, 112, 0, 496, 1023, 0, 4095, 8191] [] mixed (by kernel_rfl) (by simp only [go_sem]) fun zK125 zhK125 => ?_
     simp only [go_sem, hb, hcv, Int.toNat_one, Int.reduceTMod, Int.reduceTDiv, Int.mul_zero, hcq, hs1, W16.ls, W16.sh, W16.unsh, hm2, hm3, hj1a1, hj1d1, hj1c1, hj1b1, hj1a2, hj1d2, hj1c2, hj1b2]
     repeat' (first | apply And.intro | intro _)
     refine zhK125 _ _ trivial ?_
     refine sd_k (id := 23) [99, 100, 101, 102, 103, 104, 105, 106, 107, 108, 109, 110, 111] [0, 0, 0, 6, 14, 0, 0, 96, 224, 510, 1022, 0, 4095, 8191] [] mixed (by kernel_rfl) (by simp only [go_sem]) fun zK126 zhK126 => ?_
     simp only [go_sem, hb, hcv, Int.toNat_one, Int.reduceTMod, Int.reduceTDiv, Int.mul_zero, hcq, hs1, W16.ls, W16.sh, W16.unsh, hm2, hm3, hj1a1, hj1d1, hj1c1, hj1b1, hj1a2, hj1d2, hj1c2, hj1b2]
     repeat' (first | apply And.intro | intro _)
     all_goals refine call_draw (fun k => k) _ [] (fun _ _ => rfl) (by first | rfl | (simp only [go_sem, hb, hcv, Int.toNat_one, Int.reduceTMod, Int.reduceTDiv, Int.mul_zero, hcq, hs1, W16.ls, W16.sh, W16.unsh, hm2, hm3, hj1a1, hj1d1, hj1c1, hj1b1, hj1a2, hj1d2, hj1c2, hj1b2] <;> rfl)) ((left_16 _).plain fun _ _ h => h) ?_ ?_
     all_goals try (refine And.intro ?_ (And.intro ?_ (And.intro ?_ ?_)) <;> first | rfl | simp only [go_sem])
     all_goals simp only [go_sem, hb, hcv, Int.toNat_one, Int.reduceTMod, Int.reduceTDiv, Int.mul_zero, hcq, hs1, W16.ls, W16.sh, W16.unsh, hm2, hm3, hj1a1, hj1d1, hj1c1, hj1b1, hj1a2, hj1d2, hj1c2, hj1b2]
     all_goals repeat' (first | apply And.intro | intro _)
     refine zhK126 _ _ trivial ?_
     refine sd_k (id := 24) [112, 113, 114, 115, 116, 117, 118, 119, 120, 121, 122] [0, 0, 3, 7, 0, 0, 48, 112, 255, 0, 1023, 2047] [] mixed (by kernel_rfl) (by simp only [go_sem]) fun zK127 zhK127 => ?_
     simp only [go_sem, hb, hcv, Int.toNat_one, Int.reduceTMod, Int.reduceTDiv, Int.mul_zero, hcq, hs1, W16.ls, W16.sh, W16.unsh, hm2, hm3, hj1a1, hj1d1, hj1c1, hj1b1, hj1a2, hj1d2, hj1c2, hj1b2]
     repeat' (first | apply And.intro | intro _)
     refine zhK127 _ _ trivial ?_
     refine sd_k (id := 25) [123, 124, 125, 126, 127, 128, 129, 130, 131, 132, 133, 134, 135] [0, 0, 0, 6, 14, 0, 0, 96, 224, 510, 1022, 0, 4095, 8191] [] mixed (by kernel_rfl) (by simp only [go_sem]) fun zK128 zhK128 => ?_
     simp only [go_sem, hb, hcv, Int.toNat_one, Int.reduceTMod, Int.reduceTDiv, Int.mul_zero, hcq, hs1, W16.ls, W16.sh, W16.unsh, hm2, hm3, hj1a1, hj1d1, hj1c1, hj1b1, hj1a2, hj1d2, hj1c2, hj1b2]
     repeat' (first | apply And.intro | intro _)
     all_goals refine call_draw (fun k => k) _ [] (fun _ _ => rfl) (by first | rfl | (simp only [go_sem, hb, hcv, Int.toNat_one, Int.reduceTMod, Int.reduceTDiv, Int.mul_zero, hcq, hs1, W16.ls, W16.sh, W16.unsh, hm2, hm3, hj1a1, hj1d1, hj1c1, hj1b1, hj1a2, hj1d2, hj1c2, hj1b2] <;> rfl)) ((left_20 _).plain fun _ _ h => h) ?_ ?_
     all_goals try (refine And.intro ?_ (And.intro ?_ (And.intro ?_ ?_)) <;> first | rfl | simp only [go_sem])
     all_goals simp only [go_sem, hb, hcv, Int.toNat_one, Int.reduceTMod, Int.reduceTDiv, Int.mul_zero, hcq, hs1, W16.ls, W16.sh, W16.unsh, hm2, hm3, hj1a1, hj1d1, hj1c1, hj1b1, hj1a2, hj1d2, hj1c2, hj1b2]
     all_goals repeat' (first | apply And.intro | intro _)
     refine zhK128 _ _ trivial ?_
     refine sd_k (id := 26) [136, 137, 138, 139, 140, 141, 142, 143, 144, 145, 146, 147, 148] [0, 0, 3, 7, 0, 0, 48, 112, 0, 496, 1023, 0, 4095, 8191] [] mixed (by kernel_rfl) (by simp only [go_sem]) fun zK129 zhK129 => ?_
     simp only [go_sem, hb, hcv, Int.toNat_one, Int.reduceTMod, Int.reduceTDiv, Int.mul_zero, hcq, hs1, W16.ls, W16.sh, W16.unsh, hm2, hm3, hj1a1, hj1d1, hj1c1, hj1b1, hj1a2, hj1d2, hj1c2, hj1b2]
     repeat' (first | apply And.intro | intro _)
     refine zhK129 _ _ trivial ?_
     refine sd_k (id := 27) [149, 150, 151, 152, 153, 154, 155, 156, 157, 158, 159, 160, 161] [0, 0, 0, 6, 14, 0, 0, 96, 224, 510, 1022, 0, 4095, 8191] [] mixed (by kernel_rfl) (by simp only [go_sem]) fun zK130 zhK130 => ?_
     simp only [go_sem, hb, hcv, Int.toNat_one, Int.reduceTMod, Int.reduceTDiv, Int.mul_zero, hcq, hs1, W16.ls, W16.sh, W16.unsh, hm2, hm3, hj1a1, hj1d1, hj1c1, hj1b1, hj1a2, hj1d2, hj1c2, hj1b2]
     repeat' (first | apply And.intro | intro _)
     all_goals refine call_draw (fun k => k) _ [] (fun _ _ => rfl) (by first | rfl | (simp only [go_sem, hb, hcv, Int.toNat_one, Int.reduceTMod, Int.reduceTDiv, Int.mul_zero, hcq, hs1, W16.ls, W16.sh, W16.unsh, hm2, hm3, hj1a1, hj1d1, hj1c1, hj1b1, hj1a2, hj1d2, hj1c2, hj1b2] <;> rfl)) ((left_24 _).plain fun _ _ h => h) ?_ ?_
     all_goals try (refine And.intro ?_ (And.intro ?_ (And.intro ?_ ?_)) <;> first | rfl | simp only [go_sem])
     all_goals simp only [go_sem, hb, hcv, Int.toNat_one, Int.reduceTMod, Int.reduceTDiv, Int.mul_zero, hcq, hs1, W16.ls, W16.sh, W16.unsh, hm2, hm3, hj1a1, hj1d1, hj1c1, hj1b1, hj1a2, hj1d2, hj1c2, hj1b2]
     all_goals repeat' (first | apply And.intro | intro _)
     refine zhK130 _ _ trivial ?_
     refine sd_k (id := 28) [162, 163, 164, 165, 166, 167, 168, 169, 170, 171, 172] [0, 0, 3, 7, 0, 0, 48, 112, 255, 0, 1023, 2047] [] mixed (by kernel_rfl) (by simp only [go_sem]) fun zK131 zhK131 => ?_
     simp only [go_sem, hb, hcv, Int.toNat_one, Int.reduceTMod, Int.reduceTDiv, Int.mul_zero, hcq, hs1, W16.ls, W16.sh, W16.unsh, hm2, hm3, hj1a1, hj1d1, hj1c1, hj1b1, hj1a2, hj1d2, hj1c2, hj1b2]
     repeat' (first | apply And.intro | intro _)
     refine zhK131 _ _ trivial ?_
     refine draw_k (id := 29) [173, 174, 175, 176, 177, 178, 179, 180, 181, 182, 183, 184, 185] [0, 0, 0, 6, 14, 0, 0, 96, 224, 510, 1022, 0, 4095, 8191] [] mixed (by kernel_rfl) (by simp only [go_sem]) fun zK132 zhK132 => ?_
     simp only [go_sem, hb, hcv, Int.toNat_one, Int.reduceTMod, Int.reduceTDiv, Int.mul_zero, hcq, hs1, W16.ls, W16.sh, W16.unsh, hm2, hm3, hj1a1, hj1d1, hj1c1, hj1b1, hj1a2, hj1d2, hj1c2, hj1b2]
     repeat' (first | apply And.intro | intro _)
     all_goals refine call_draw (fun k => k) _ [] (fun _ _ => rfl) (by first | rfl | (simp only [go_sem, hb, hcv, Int.toNat_one, Int.reduceTMod, Int.reduceTDiv, Int.mul_zero, hcq, hs1, W16.ls, W16.sh, W16.unsh, hm2, hm3, hj1a1, hj1d1, hj1c1, hj1b1, hj1a2, hj1d2, hj1c2, hj1b2] <;> rfl)) ((left_25 _).plain fun _ _ h => h) ?_ ?_
     all_goals try (refine And.intro ?_ (And.intro ?_ (And.intro ?_ ?_)) <;> first | rfl | simp only [go_sem])
     all_goals simp only [go_sem, hb, hcv, Int.toNat_one, Int.reduceTMod, Int.reduceTDiv, Int.mul_zero, hcq, hs1, W16.ls, W16.sh, W16.unsh, hm2, hm3, hj1a1, hj1d1, hj1c1, hj1b1, hj1a2, hj1d2, hj1c2, hj1b2]
     all_goals repeat' (first | apply And.intro | intro _)
     refine zhK132 _ _ trivial ?_
     refine zbn122 _ ?_
     refine zhN121 _ ?_
     refine region_k fun zK133 zhK133 => ?_
     simp only [go_sem, hb, hcv, Int.toNat_one, Int.reduceTMod, Int.reduceTDiv, Int.mul_zero, hcq, hs1, W16.ls, W16.sh, W16.unsh, hm2, hm3, hj1a1, hj1d1, hj1c1, hj1b1, hj1a2, hj1d2, hj1c2, hj1b2]
     repeat' (first | apply And.intro | intro _)
     refine zhK133 _ ?_
     refine zhN118 _ ?_
     refine rnd_forget [14, 15, 16, 67, 68, 69, 70, 71, 72, 73, 74, 75, 76, 77, 78, 79, 80, 81, 82, 83, 84, 85, 86, 87, 88, 89, 90, 91, 92, 93, 94, 95, 96, 97, 98, 99, 100, 101, 102, 103, 104, 105, 106, 107, 108, 109, 110, 111, 112, 113, 114, 115, 116, 117, 118, 119, 120, 121, 122, 123, 124, 125, 126, 127, 128, 129, 130, 131, 132, 133, 134, 135, 136, 137, 138, 139, 140, 141, 142, 143, 144, 145, 146, 147, 148, 149, 150, 151, 152, 153, 154, 155, 156, 157, 158, 159, 160, 161, 162, 163, 164, 165, 166, 167, 168, 169, 170, 171, 172, 173, 174, 175, 176, 177, 178, 179, 180, 181, 182, 183, 184, 185, 186] ?_
     simp only [go_sem, St.forget, fgt]
     refine rnd_k fun zN134 zM134 zhN134 zhM134 => ?_
     refine sr_k fun zK135 zhK135 => ?_
     simp only [go_sem, hb, hcv, Int.toNat_one, Int.reduceTMod, Int.reduceTDiv, Int.mul_zero, hcq, hs1, W16.ls, W16.sh, W16.unsh, hm4, hm5, hj2a1, hj2d1, hj2c1, hj2b1, hj2a2, hj2d2, hj2c2, hj2b2]
     repeat' (first | apply And.intro | intro _)
     refine zhK135 _ ?_
     refine seq_k fun zN136 zM136 zhN136 zhM136 => ?_
     refine condT_k (by first | rfl | (simp [go_sem, hb, hcv, Int.toNat_one, Int.reduceTMod, Int.reduceTDiv, Int.mul_zero, hcq, hs1, W16.ls, W16.sh, W16.unsh, hm4, hm5, hj2a1, hj2d1, hj2c1, hj2b1, hj2a2, hj2d2, hj2c2, hj2b2]; done)) ?_
     refine skip_k ?_
     refine zhN136 _ ?_
     refine seq_k fun zN137 zM137 zhN137 zhM137 => ?_
     refine block_k fun zB138 zbn138 zbx138 zbr138 zbi138 => ?_
     refine sr_k fun zK139 zhK139 => ?_
     simp only [go_sem, hb, hcv, Int.toNat_one, Int.reduceTMod, Int.reduceTDiv, Int.mul_zero, hcq, hs1, W16.ls, W16.sh, W16.unsh, hm4, hm5, hj2a1, hj2d1, hj2c1, hj2b1, hj2a2, hj2d2, hj2c2, hj2b2]
     repeat' (first | apply And.intro | intro _)
     refine zhK139 _ ?_
     refine sr_k fun zK140 zhK140 => ?_
     simp only [go_sem, hb, hcv, Int.toNat_one, Int.reduceTMod, Int.reduceTDiv, Int.mul_zero, hcq, hs1, W16.ls, W16.sh, W16.unsh, hm4, hm5, hj2a1, hj2d1, hj2c1, hj2b1, hj2a2, hj2d2, hj2c2, hj2b2]
     repeat' (first | apply And.intro | intro _)
     all_goals (refine call_fn (caps := [5]) false [(500000, 5)] (fun k => k) ?_ ?_ (fun _ _ => rfl) ?_ (by decide) ?_ (word_4 b hb k hlt) ?_; iterate 4 (focus (first | rfl | (simp only [go_sem, hb, hcv, Int.toNat_one, Int.reduceTMod, Int.reduceTDiv, Int.mul_zero, hcq, hs1, W16.ls, W16.sh, W16.unsh, hm4, hm5, hj2a1, hj2d1, hj2c1, hj2b1, hj2a2, hj2d2, hj2c2, hj2b2] <;> first | done | rfl | simp))))
     all_goals (rintro v m ⟨hR, hm⟩; subst hR; subst hm)
     all_goals (refine And.intro ?_ (And.intro ?_ (And.intro ?_ ?_)); iterate 3 (focus (first | rfl | (simp only [go_sem, hb, hcv, Int.toNat_one, Int.reduceTMod, Int.reduceTDiv, Int.mul_zero, hcq, hs1, W16.ls, W16.sh, W16.unsh, hm4, hm5, hj2a1, hj2d1, hj2c1, hj2b1, hj2a2, hj2d2, hj2c2, hj2b2]; done) | (simp [go_sem, look, hb, hcv, Int.toNat_one, Int.reduceTMod, Int.reduceTDiv, Int.mul_zero, hcq, hs1, W16.ls, W16.sh, W16.unsh, hm4, hm5, hj2a1, hj2d1, hj2c1, hj2b1, hj2a2, hj2d2, hj2c2, hj2b2]; done))))
     all_goals (try simp only [go_sem, hb, hcv, Int.toNat_one, Int.reduceTMod, Int.reduceTDiv, Int.mul_zero, hcq, hs1, W16.ls, W16.sh, W16.unsh, hm4, hm5, hj2a1, hj2d1, hj2c1, hj2b1, hj2a2, hj2d2, hj2c2, hj2b2])
     all_goals (try simp only [go_sem, hb, hcv, Int.toNat_one, Int.reduceTMod, Int.reduceTDiv, Int.mul_zero, hcq, hs1, W16.ls, W16.sh, W16.unsh, hm4, hm5, hj2a1, hj2d1, hj2c1, hj2b1, hj2a2, hj2d2, hj2c2, hj2b2])
     all_goals repeat' (first | apply And.intro | intro _)
     all_goals (refine call_fn (caps := [5]) false [(500000, 5)] (fun k => k) ?_ ?_ (fun _ _ => rfl) ?_ (by decide) ?_ (word_5 b hb k hlt) ?_; iterate 4 (focus (first | rfl | (simp only [go_sem, hb, hcv, Int.toNat_one, Int.reduceTMod, Int.reduceTDiv, Int.mul_zero, hcq, hs1, W16.ls, W16.sh, W16.unsh, hm4, hm5, hj2a1, hj2d1, hj2c1, hj2b1, hj2a2, hj2d2, hj2c2, hj2b2] <;> first | done | rfl | simp))))
     all_goals (rintro v m ⟨hR, hm⟩; subst hR; subst hm)
     all_goals (refine And.intro ?_ (And.intro ?_ (And.intro ?_ ?_)); iterate 3 (focus (first | rfl | (simp only [go_sem, hb, hcv, Int.toNat_one, Int.reduceTMod, Int.reduceTDiv, Int.mul_zero, hcq, hs1, W16.ls, W16.sh, W16.unsh, hm4, hm5, hj2a1, hj2d1, hj2c1, hj2b1, hj2a2, hj2d2, hj2c2, hj2b2]; done) | (simp [go_sem, look, hb, hcv, Int.toNat_one, Int.reduceTMod, Int.reduceTDiv, Int.mul_zero, hcq, hs1, W16.ls, W16.sh, W16.unsh, hm4, hm5, hj2a1, hj2d1, hj2c1, hj2b1, hj2a2, hj2d2, hj2c2, hj2b2]; done))))
     all_goals (try simp only [go_sem, hb, hcv, Int.toNat_one, Int.reduceTMod, Int.reduceTDiv, Int.mul_zero, hcq, hs1, W16.ls, W16.sh, W16.unsh, hm4, hm5, hj2a1, hj2d1, hj2c1, hj2b1, hj2a2, hj2d2, hj2c2, hj2b2])
     all_goals (try simp only [go_sem, hb, hcv, Int.toNat_one, Int.reduceTMod, Int.reduceTDiv, Int.mul_zero, hcq, hs1, W16.ls, W16.sh, W16.unsh, hm4, hm5, hj2a1, hj2d1, hj2c1, hj2b1, hj2a2, hj2d2, hj2c2, hj2b2])
     all_goals repeat' (first | apply And.intro | intro _)
     refine zhK140 _ ?_
     refine sd_k (id := 22) [86, 87, 88, 89, 90, 91, 92, 93, 94, 95, 96, 97, 98] [0, 0, 3, 7, 0, 0, 48, 112, 0, 496, 1023, 0, 4095, 8191] [] mixed (by kernel_rfl) (by simp only [go_sem]) fun zK141 zhK141 => ?_
     simp only [go_sem, hb, hcv, Int.toNat_one, Int.reduceTMod, Int.reduceTDiv, Int.mul_zero, hcq, hs1, W16.ls, W16.sh, W16.unsh, hm4, hm5, hj2a1, hj2d1, hj2c1, hj2b1, hj2a2, hj2d2, hj2c2, hj2b2]
     repeat' (first | apply And.intro | intro _)
     refine zhK141 _ _ trivial ?_
     refine sd_k (id := 23) [99, 100, 101, 102, 103, 104, 105, 106, 107, 108, 109, 110, 111] [0, 0, 0, 6, 14, 0, 0, 96, 224, 510, 1022, 0, 4095, 8191] [] mixed (by kernel_rfl) (by simp only [go_sem]) fun zK142 zhK142 => ?_
     simp only [go_sem, hb, hcv, Int.toNat_one, Int.reduceTMod, Int.reduceTDiv, Int.mul_zero, hcq, hs1, W16.ls, W16.sh, W16.unsh, hm4, hm5, hj2a1, hj2d1, hj2c1, hj2b1, hj2a2, hj2d2, hj2c2, hj2b2]
     repeat' (first | apply And.intro | intro _)
     all_goals refine call_draw (fun k => k) _ [] (fun _ _ => rfl) (by first | rfl | (simp only [go_sem, hb, hcv, Int.toNat_one, Int.reduceTMod, Int.reduceTDiv, Int.mul_zero, hcq, hs1, W16.ls, W16.sh, W16.unsh, hm4, hm5, hj2a1, hj2d1, hj2c1, hj2b1, hj2a2, hj2d2, hj2c2, hj2b2] <;> rfl)) ((left_16 _).plain fun _ _ h => h) ?_ ?_
     all_goals try (refine And.intro ?_ (And.intro ?_ (And.intro ?_ ?_)) <;> first | rfl | simp only [go_sem])
     all_goals simp only [go_sem, hb, hcv, Int.toNat_one, Int.reduceTMod, Int.reduceTDiv, Int.mul_zero, hcq, hs1, W16.ls, W16.sh, W16.unsh, hm4, hm5, hj2a1, hj2d1, hj2c1, hj2b1, hj2a2, hj2d2, hj2c2, hj2b2]
     all_goals repeat' (first | apply And.intro | intro _)
     refine zhK142 _ _ trivial ?_
     refine sd_k (id := 24) [112, 113, 114, 115, 116, 117, 118, 119, 120, 121, 122] [0, 0, 3, 7, 0, 0, 48, 112, 255, 0, 1023, 2047] [] mixed (by kernel_rfl) (by simp only [go_sem]) fun zK143 zhK143 => ?_
     simp only [go_sem, hb, hcv, Int.toNat_one, Int.reduceTMod, Int.reduceTDiv, Int.mul_zero, hcq, hs1, W16.ls, W16.sh, W16.unsh, hm4, hm5, hj2a1, hj2d1, hj2c1, hj2b1, hj2a2, hj2d2, hj2c2, hj2b2]
     repeat' (first | apply And.intro | intro _)
     refine zhK143 _ _ trivial ?_
     refine sd_k (id := 25) [123, 124, 125, 126, 127, 128, 129, 130, 131, 132, 133, 134, 135] [0, 0, 0, 6, 14, 0, 0, 96, 224, 510, 1022, 0, 4095, 8191] [] mixed (by kernel_rfl) (by simp only [go_sem]) fun zK144 zhK144 => ?_
     simp only [go_sem, hb, hcv, Int.toNat_one, Int.reduceTMod, Int.reduceTDiv, Int.mul_zero, hcq, hs1, W16.ls, W16.sh, W16.unsh, hm4, hm5, hj2a1, hj2d1, hj2c1, hj2b1, hj2a2, hj2d2, hj2c2, hj2b2]
     repeat' (first | apply And.intro | intro _)
     all_goals refine call_draw (fun k => k) _ [] (fun _ _ => rfl) (by first | rfl | (simp only [go_sem, hb, hcv, Int.toNat_one, Int.reduceTMod, Int.reduceTDiv, Int.mul_zero, hcq, hs1, W16.ls, W16.sh, W16.unsh, hm4, hm5, hj2a1, hj2d1, hj2c1, hj2b1, hj2a2, hj2d2, hj2c2, hj2b2] <;> rfl)) ((left_20 _).plain fun _ _ h => h) ?_ ?_
     all_goals try (refine And.intro ?_ (And.intro ?_ (And.intro ?_ ?_)) <;> first | rfl | simp only [go_sem])
     all_goals simp only [go_sem, hb, hcv, Int.toNat_one, Int.reduceTMod, Int.reduceTDiv, Int.mul_zero, hcq, hs1, W16.ls, W16.sh, W16.unsh, hm4, hm5, hj2a1, hj2d1, hj2c1, hj2b1, hj2a2, hj2d2, hj2c2, hj2b2]
     all_goals repeat' (first | apply And.intro | intro _)
     refine zhK144 _ _ trivial ?_
     refine sd_k (id := 26) [136, 137, 138, 139, 140, 141, 142, 143, 144, 145, 146, 147, 148] [0, 0, 3, 7, 0, 0, 48, 112, 0, 496, 1023, 0, 4095, 8191] [] mixed (by kernel_rfl) (by simp only [go_sem]) fun zK145 zhK145 => ?_
     simp only [go_sem, hb, hcv, Int.toNat_one, Int.reduceTMod, Int.reduceTDiv, Int.mul_zero, hcq, hs1, W16.ls, W16.sh, W16.unsh, hm4, hm5, hj2a1, hj2d1, hj2c1, hj2b1, hj2a2, hj2d2, hj2c2, hj2b2]
     repeat' (first | apply And.intro | intro _)
     refine zhK145 _ _ trivial ?_
     refine sd_k (id := 27) [149, 150, 151, 152, 153, 154, 155, 156, 157, 158, 159, 160, 161] [0, 0, 0, 6, 14, 0, 0, 96, 224, 510, 1022, 0, 4095, 8191] [] mixed (by kernel_rfl) (by simp only [go_sem]) fun zK146 zhK146 => ?_
     simp only [go_sem, hb, hcv, Int.toNat_one, Int.reduceTMod, Int.reduceTDiv, Int.mul_zero, hcq, hs1, W16.ls, W16.sh, W16.unsh, hm4, hm5, hj2a1, hj2d1, hj2c1, hj2b1, hj2a2, hj2d2, hj2c2, hj2b2]
     repeat' (first | apply And.intro | intro _)
     all_goals refine call_draw (fun k => k) _ [] (fun _ _ => rfl) (by first | rfl | (simp only [go_sem, hb, hcv, Int.toNat_one, Int.reduceTMod, Int.reduceTDiv, Int.mul_zero, hcq, hs1, W16.ls, W16.sh, W16.unsh, hm4, hm5, hj2a1, hj2d1, hj2c1, hj2b1, hj2a2, hj2d2, hj2c2, hj2b2] <;> rfl)) ((left_24 _).plain fun _ _ h => h) ?_ ?_
     all_goals try (refine And.intro ?_ (And.intro ?_ (And.intro ?_ ?_)) <;> first | rfl | simp only [go_sem])
     all_goals simp only [go_sem, hb, hcv, Int.toNat_one, Int.reduceTMod, Int.reduceTDiv, Int.mul_zero, hcq, hs1, W16.ls, W16.sh, W16.unsh, hm4, hm5, hj2a1, hj2d1, hj2c1, hj2b1, hj2a2, hj2d2, hj2c2, hj2b2]
     all_goals repeat' (first | apply And.intro | intro _)
     refine zhK146 _ _ trivial ?_
     refine sd_k (id := 28) [162, 163, 164, 165, 166, 167, 168, 169, 170, 171, 172] [0, 0, 3, 7, 0, 0, 48, 112, 255, 0, 1023, 2047] [] mixed (by kernel_rfl) (by simp only [go_sem]) fun zK147 zhK147 => ?_
     simp only [go_sem, hb, hcv, Int.toNat_one, Int.reduceTMod, Int.reduceTDiv, Int.mul_zero, hcq, hs1, W16.ls, W16.sh, W16.unsh, hm4, hm5, hj2a1, hj2d1, hj2c1, hj2b1, hj2a2, hj2d2, hj2c2, hj2b2]
     repeat' (first | apply And.intro | intro _)
     refine zhK147 _ _ trivial ?_
     refine draw_k (id := 29) [173, 174, 175, 176, 177, 178, 179, 180, 181, 182, 183, 184, 185] [0, 0, 0, 6, 14, 0, 0, 96, 224, 510, 1022, 0, 4095, 8191] [] mixed (by kernel_rfl) (by simp only [go_sem]) fun zK148 zhK148 => ?_
     simp only [go_sem, hb, hcv, Int.toNat_one, Int.reduceTMod, Int.reduceTDiv, Int.mul_zero, hcq, hs1, W16.ls, W16.sh, W16.unsh, hm4, hm5, hj2a1, hj2d1, hj2c1, hj2b1, hj2a2, hj2d2, hj2c2, hj2b2]
     repeat' (first | apply And.intro | intro _)
     all_goals refine call_draw (fun k => k) _ [] (fun _ _ => rfl) (by first | rfl | (simp only [go_sem, hb, hcv, Int.toNat_one, Int.reduceTMod, Int.reduceTDiv, Int.mul_zero, hcq, hs1, W16.ls, W16.sh, W16.unsh, hm4, hm5, hj2a1, hj2d1, hj2c1, hj2b1, hj2a2, hj2d2, hj2c2, hj2b2] <;> rfl)) ((left_25 _).plain fun _ _ h => h) ?_ ?_
     all_goals try (refine And.intro ?_ (And.intro ?_ (And.intro ?_ ?_)) <;> first | rfl | simp only [go_sem])
     all_goals simp only [go_sem, hb, hcv, Int.toNat_one, Int.reduceTMod, Int.reduceTDiv, Int.mul_zero, hcq, hs1, W16.ls, W16.sh, W16.unsh, hm4, hm5, hj2a1, hj2d1, hj2c1, hj2b1, hj2a2, hj2d2, hj2c2, hj2b2]
     all_goals repeat' (first | apply And.intro | intro _)
     refine zhK148 _ _ trivial ?_
     refine zbn138 _ ?_
     refine zhN137 _ ?_
     refine region_k fun zK149 zhK149 => ?_
     simp only [go_sem, hb, hcv, Int.toNat_one, Int.reduceTMod, Int.reduceTDiv, Int.mul_zero, hcq, hs1, W16.ls, W16.sh, W16.unsh, hm4, hm5, hj2a1, hj2d1, hj2c1, hj2b1, hj2a2, hj2d2, hj2c2, hj2b2]
     repeat' (first | apply And.intro | intro _)
     refine zhK149 _ ?_
     refine zhN134 _ ?_
     refine rnd_forget [14, 15, 16, 67, 68, 69, 70, 71, 72, 73, 74, 75, 76, 77, 78, 79, 80, 81, 82, 83, 84, 85, 86, 87, 88, 89, 90, 91, 92, 93, 94, 95, 96, 97, 98, 99, 100, 101, 102, 103, 104, 105, 106, 107, 108, 109, 110, 111, 112, 113, 114, 115, 116, 117, 118, 119, 120, 121, 122, 123, 124, 125, 126, 127, 128, 129, 130, 131, 132, 133, 134, 135, 136, 137, 138, 139, 140, 141, 142, 143, 144, 145, 146, 147, 148, 149, 150, 151, 152, 153, 154, 155, 156, 157, 158, 159, 160, 161, 162, 163, 164, 165, 166, 167, 168, 169, 170, 171, 172, 173, 174, 175, 176, 177, 178, 179, 180, 181, 182, 183, 184, 185, 186] ?_
     simp only [go_sem, St.forget, fgt]
     refine rnd_k fun zN150 zM150 zhN150 zhM150 => ?_
     refine sr_k fun zK151 zhK151 => ?_
     simp only [go_sem, hb, hcv, Int.toNat_one, Int.reduceTMod, Int.reduceTDiv, Int.mul_zero, hcq, hs1, W16.ls, W16.sh, W16.unsh, hm6, hm7, hj3a1, hj3d1, hj3c1, hj3b1, hj3a2, hj3d2, hj3c2, hj3b2]
     repeat' (first | apply And.intro | intro _)
     refine zhK151 _ ?_
     refine seq_k fun zN152 zM152 zhN152 zhM152 => ?_
     refine condT_k (by first | rfl | (simp [go_sem, hb, hcv, Int.toNat_one, Int.reduceTMod, Int.reduceTDiv, Int.mul_zero, hcq, hs1, W16.ls, W16.sh, W16.unsh, hm6, hm7, hj3a1, hj3d1, hj3c1, hj3b1, hj3a2, hj3d2, hj3c2, hj3b2]; done)) ?_
     refine skip_k ?_
     refine zhN152 _ ?_
     refine seq_k fun zN153 zM153 zhN153 zhM153 => ?_
     refine block_k fun zB154 zbn154 zbx154 zbr154 zbi154 => ?_
     refine sr_k fun zK155 zhK155 => ?_
     simp only [go_sem, hb, hcv, Int.toNat_one, Int.reduceTMod, Int.reduceTDiv, Int.mul_zero, hcq, hs1, W16.ls, W16.sh, W16.unsh, hm6, hm7, hj3a1, hj3d1, hj3c1, hj3b1, hj3a2, hj3d2, hj3c2, hj3b2]
     repeat' (first | apply And.intro | intro _)
     refine zhK155 _ ?_
     refine sr_k fun zK156 zhK156 => ?_
     simp only [go_sem, hb, hcv, Int.toNat_one, Int.reduceTMod, Int.reduceTDiv, Int.mul_zero, hcq, hs1, W16.ls, W16.sh, W16.unsh, hm6, hm7, hj3a1, hj3d1, hj3c1, hj3b1, hj3a2, hj3d2, hj3c2, hj3b2]
     repeat' (first | apply And.intro | intro _)
     all_goals (refine call_fn (caps := [5]) false [(500000, 5)] (fun k => k) ?_ ?_ (fun _ _ => rfl) ?_ (by decide) ?_ (word_6 b hb k hlt) ?_; iterate 4 (focus (first | rfl | (simp only [go_sem, hb, hcv, Int.toNat_one, Int.reduceTMod, Int.reduceTDiv, Int.mul_zero, hcq, hs1, W16.ls, W16.sh, W16.unsh, hm6, hm7, hj3a1, hj3d1, hj3c1, hj3b1, hj3a2, hj3d2, hj3c2, hj3b2] <;> first | done | rfl | simp))))
     all_goals (rintro v m ⟨hR, hm⟩; subst hR; subst hm)
     all_goals (refine And.intro ?_ (And.intro ?_ (And.intro ?_ ?_)); iterate 3 (focus (first | rfl | (simp only [go_sem, hb, hcv, Int.toNat_one, Int.reduceTMod, Int.reduceTDiv, Int.mul_zero, hcq, hs1, W16.ls, W16.sh, W16.unsh, hm6, hm7, hj3a1, hj3d1, hj3c1, hj3b1, hj3a2, hj3d2, hj3c2, hj3b2]; done) | (simp [go_sem, look, hb, hcv, Int.toNat_one, Int.reduceTMod, Int.reduceTDiv, Int.mul_zero, hcq, hs1, W16.ls, W16.sh, W16.unsh, hm6, hm7, hj3a1, hj3d1, hj3c1, hj3b1, hj3a2, hj3d2, hj3c2, hj3b2]; done))))
     all_goals (try simp only [go_sem, hb, hcv, Int.toNat_one, Int.reduceTMod, Int.reduceTDiv, Int.mul_zero, hcq, hs1, W16.ls, W16.sh, W16.unsh, hm6, hm7, hj3a1, hj3d1, hj3c1, hj3b1, hj3a2, hj3d2, hj3c2, hj3b2])
     all_goals (try simp only [go_sem, hb, hcv, Int.toNat_one, Int.reduceTMod, Int.reduceTDiv, Int.mul_zero, hcq, hs1, W16.ls, W16.sh, W16.unsh, hm6, hm7, hj3a1, hj3d1, hj3c1, hj3b1, hj3a2, hj3d2, hj3c2, hj3b2])
     all_goals repeat' (first | apply And.intro | intro _)
     all_goals (refine call_fn (caps := [5]) false [(500000, 5)] (fun k => k) ?_ ?_ (fun _ _ => rfl) ?_ (by decide) ?_ (word_7 b hb k hlt) ?_; iterate 4 (focus (first | rfl | (simp only [go_sem, hb, hcv, Int.toNat_one, Int.reduceTMod, Int.reduceTDiv, Int.mul_zero, hcq, hs1, W16.ls, W16.sh, W16.unsh, hm6, hm7, hj3a1, hj3d1, hj3c1, hj3b1, hj3a2, hj3d2, hj3c2, hj3b2] <;> first | done | rfl | simp))))
     all_goals (rintro v m ⟨hR, hm⟩; subst hR; subst hm)
     all_goals (refine And.intro ?_ (And.intro ?_ (And.intro ?_ ?_)); iterate 3 (focus (first | rfl | (simp only [go_sem, hb, hcv, Int.toNat_one, Int.reduceTMod, Int.reduceTDiv, Int.mul_zero, hcq, hs1, W16.ls, W16.sh, W16.unsh, hm6, hm7, hj3a1, hj3d1, hj3c1, hj3b1, hj3a2, hj3d2, hj3c2, hj3b2]; done) | (simp [go_sem, look, hb, hcv, Int.toNat_one, Int.reduceTMod, Int.reduceTDiv, Int.mul_zero, hcq, hs1, W16.ls, W16.sh, W16.unsh, hm6, hm7, hj3a1, hj3d1, hj3c1, hj3b1, hj3a2, hj3d2, hj3c2, hj3b2]; done))))
     all_goals (try simp only [go_sem, hb, hcv, Int.toNat_one, Int.reduceTMod, Int.reduceTDiv, Int.mul_zero, hcq, hs1, W16.ls, W16.sh, W16.unsh, hm6, hm7, hj3a1, hj3d1, hj3c1, hj3b1, hj3a2, hj3d2, hj3c2, hj3b2])
     all_goals (try simp only [go_sem, hb, hcv, Int.toNat_one, Int.reduceTMod, Int.reduceTDiv, Int.mul_zero, hcq, hs1, W16.ls, W16.sh, W16.unsh, hm6, hm7, hj3a1, hj3d1, hj3c1, hj3b1, hj3a2, hj3d2, hj3c2, hj3b2])
     all_goals repeat' (first | apply And.intro | intro _)
     refine zhK156 _ ?_
     refine sd_k (id := 22) [86, 87, 88, 89, 90, 91, 92, 93, 94, 95, 96, 97, 98] [0, 0, 3, 7, 0, 0, 48, 112, 0, 496, 1023, 0, 4095, 8191] [] mixed (by kernel_rfl) (by simp only [go_sem]) fun zK157 zhK157 => ?_
     simp only [go_sem, hb, hcv, Int.toNat_one, Int.reduceTMod, Int.reduceTDiv, Int.mul_zero, hcq, hs1, W16.ls, W16.sh, W16.unsh, hm6, hm7, hj3a1, hj3d1, hj3c1, hj3b1, hj3a2, hj3d2, hj3c2, hj3b2]
     repeat' (first | apply And.intro | intro _)
     refine zhK157 _ _ trivial ?_
     refine sd_k (id := 23) [99, 100, 101, 102, 103, 104, 105, 106, 107, 108, 109, 110, 111] [0, 0, 0, 6, 14, 0, 0, 96, 224, 510, 1022, 0, 4095, 8191] [] mixed (by kernel_rfl) (by simp only [go_sem]) fun zK158 zhK158 => ?_
     simp only [go_sem, hb, hcv, Int.toNat_one, Int.reduceTMod, Int.reduceTDiv, Int.mul_zero, hcq, hs1, W16.ls, W16.sh, W16.unsh, hm6, hm7, hj3a1, hj3d1, hj3c1, hj3b1, hj3a2, hj3d2, hj3c2, hj3b2]
     repeat' (first | apply And.intro | intro _)
     all_goals refine call_draw (fun k => k) _ [] (fun _ _ => rfl) (by first | rfl | (simp only [go_sem, hb, hcv, Int.toNat_one, Int.reduceTMod, Int.reduceTDiv, Int.mul_zero, hcq, hs1, W16.ls, W16.sh, W16.unsh, hm6, hm7, hj3a1, hj3d1, hj3c1, hj3b1, hj3a2, hj3d2, hj3c2, hj3b2] <;> rfl)) ((left_16 _).plain fun _ _ h => h) ?_ ?_
     all_goals try (refine And.intro ?_ (And.intro ?_ (And.intro ?_ ?_)) <;> first | rfl | simp only [go_sem])
     all_goals simp only [go_sem, hb, hcv, Int.toNat_one, Int.reduceTMod, Int.reduceTDiv, Int.mul_zero, hcq, hs1, W16.ls, W16.sh, W16.unsh, hm6, hm7, hj3a1, hj3d1, hj3c1, hj3b1, hj3a2, hj3d2, hj3c2, hj3b2]
     all_goals repeat' (first | apply And.intro | intro _)
     refine zhK158 _ _ trivial ?_
     refine sd_k (id := 24) [112, 113, 114, 115, 116, 117, 118, 119, 120, 121, 122] [0, 0, 3, 7, 0, 0, 48, 112, 255, 0, 1023, 2047] [] mixed (by kernel_rfl) (by simp only [go_sem]) fun zK159 zhK159 => ?_
     simp only [go_sem, hb, hcv, Int.toNat_one, Int.reduceTMod, Int.reduceTDiv, Int.mul_zero, hcq, hs1, W16.ls, W16.sh, W16.unsh, hm6, hm7, hj3a1, hj3d1, hj3c1, hj3b1, hj3a2, hj3d2, hj3c2, hj3b2]
     repeat' (first | apply And.intro | intro _)
     refine zhK159 _ _ trivial ?_
     refine sd_k (id := 25) [123, 124, 125, 126, 127, 128, 129, 130, 131, 132, 133, 134, 135] [0, 0, 0, 6, 14, 0, 0, 96, 224, 510, 1022, 0, 4095, 8191] [] mixed (by kernel_rfl) (by simp only [go_sem]) fun zK160 zhK160 => ?_
     simp only [go_sem, hb, hcv, Int.toNat_one, Int.reduceTMod, Int.reduceTDiv, Int.mul_zero, hcq, hs1, W16.ls, W16.sh, W16.unsh, hm6, hm7, hj3a1, hj3d1, hj3c1, hj3b1, hj3a2, hj3d2, hj3c2, hj3b2]
     repeat' (first | apply And.intro | intro _)
     all_goals refine call_draw (fun k => k) _ [] (fun _ _ => rfl) (by first | rfl | (simp only [go_sem, hb, hcv, Int.toNat_one, Int.reduceTMod, Int.reduceTDiv, Int.mul_zero, hcq, hs1, W16.ls, W16.sh, W16.unsh, hm6, hm7, hj3a1, hj3d1, hj3c1, hj3b1, hj3a2, hj3d2, hj3c2, hj3b2] <;> rfl)) ((left_20 _).plain fun _ _ h => h) ?_ ?_
     all_goals try (refine And.intro ?_ (And.intro ?_ (And.intro ?_ ?_)) <;> first | rfl | simp only [go_sem])
     all_goals simp only [go_sem, hb, hcv, Int.toNat_one, Int.reduceTMod, Int.reduceTDiv, Int.mul_zero, hcq, hs1, W16.ls, W16.sh, W16.unsh, hm6, hm7, hj3a1, hj3d1, hj3c1, hj3b1, hj3a2, hj3d2, hj3c2, hj3b2]
     all_goals repeat' (first | apply And.intro | intro _)
     refine zhK160 _ _ trivial ?_
     refine sd_k (id := 26) [136, 137, 138, 139, 140, 141, 142, 143, 144, 145, 146, 147, 148] [0, 0, 3, 7, 0, 0, 48, 112, 0, 496, 1023, 0, 4095, 8191] [] mixed (by kernel_rfl) (by simp only [go_sem]) fun zK161 zhK161 => ?_
     simp only [go_sem, hb, hcv, Int.toNat_one, Int.reduceTMod, Int.reduceTDiv, Int.mul_zero, hcq, hs1, W16.ls, W16.sh, W16.unsh, hm6, hm7, hj3a1, hj3d1, hj3c1, hj3b1, hj3a2, hj3d2, hj3c2, hj3b2]
     repeat' (first | apply And.intro | intro _)
     refine zhK161 _ _ trivial ?_
     refine sd_k (id := 27) [149, 150, 151, 152, 153, 154, 155, 156, 157, 158, 159, 160, 161] [0, 0, 0, 6, 14, 0, 0, 96, 224, 510, 1022, 0, 4095, 8191] [] mixed (by kernel_rfl) (by simp only [go_sem]) fun zK162 zhK162 => ?_
     simp only [go_sem, hb, hcv, Int.toNat_one, Int.reduceTMod, Int.reduceTDiv, Int.mul_zero, hcq, hs1, W16.ls, W16.sh, W16.unsh, hm6, hm7, hj3a1, hj3d1, hj3c1, hj3b1, hj3a2, hj3d2, hj3c2, hj3b2]
     repeat' (first | apply And.intro | intro _)
     all_goals refine call_draw (fun k => k) _ [] (fun _ _ => rfl) (by first | rfl | (simp only [go_sem, hb, hcv, Int.toNat_one, Int.reduceTMod, Int.reduceTDiv, Int.mul_zero, hcq, hs1, W16.ls, W16.sh, W16.unsh, hm6, hm7, hj3a1, hj3d1, hj3c1, hj3b1, hj3a2, hj3d2, hj3c2, hj3b2] <;> rfl)) ((left_24 _).plain fun _ _ h => h) ?_ ?_
     all_goals try (refine And.intro ?_ (And.intro ?_ (And.intro ?_ ?_)) <;> first | rfl | simp only [go_sem])
     all_goals simp only [go_sem, hb, hcv, Int.toNat_one, Int.reduceTMod, Int.reduceTDiv, Int.mul_zero, hcq, hs1, W16.ls, W16.sh, W16.unsh, hm6, hm7, hj3a1, hj3d1, hj3c1, hj3b1, hj3a2, hj3d2, hj3c2, hj3b2]
     all_goals repeat' (first | apply And.intro | intro _)
     refine zhK162 _ _ trivial ?_
     refine sd_k (id := 28) [162, 163, 164, 165, 166, 167, 168, 169, 170, 171, 172] [0, 0, 3, 7, 0, 0, 48, 112, 255, 0, 1023, 2047] [] mixed (by kernel_rfl) (by simp only [go_sem]) fun zK163 zhK163 => ?_
     simp only [go_sem, hb, hcv, Int.toNat_one, Int.reduceTMod, Int.reduceTDiv, Int.mul_zero, hcq, hs1, W16.ls, W16.sh, W16.unsh, hm6, hm7, hj3a1, hj3d1, hj3c1, hj3b1, hj3a2, hj3d2, hj3c2, hj3b2]
     repeat' (first | apply And.intro | intro _)
     refine zhK163 _ _ trivial ?_
     refine draw_k (id := 29) [173, 174, 175, 176, 177, 178, 179, 180, 181, 182, 183, 184, 185] [0, 0, 0, 6, 14, 0, 0, 96, 224, 510, 1022, 0, 4095, 8191] [] mixed (by kernel_rfl) (by simp only [go_sem]) fun zK164 zhK164 => ?_
     simp only [go_sem, hb, hcv, Int.toNat_one, Int.reduceTMod, Int.reduceTDiv, Int.mul_zero, hcq, hs1, W16.ls, W16.sh, W16.unsh, hm6, hm7, hj3a1, hj3d1, hj3c1, hj3b1, hj3a2, hj3d2, hj3c2, hj3b2]
     repeat' (first | apply And.intro | intro _)
     all_goals refine call_draw (fun k => k) _ [] (fun _ _ => rfl) (by first | rfl | (simp only [go_sem, hb, hcv, Int.toNat_one, Int.reduceTMod, Int.reduceTDiv, Int.mul_zero, hcq, hs1, W16.ls, W16.sh, W16.unsh, hm6, hm7, hj3a1, hj3d1, hj3c1, hj3b1, hj3a2, hj3d2, hj3c2, hj3b2] <;> rfl)) ((left_25 _).plain fun _ _ h => h) ?_ ?_
     all_goals try (refine And.intro ?_ (And.intro ?_ (And.intro ?_ ?_)) <;> first | rfl | simp only [go_sem])
     all_goals simp only [go_sem, hb, hcv, Int.toNat_one, Int.reduceTMod, Int.reduceTDiv, Int.mul_zero, hcq, hs1, W16.ls, W16.sh, W16.unsh, hm6, hm7, hj3a1, hj3d1, hj3c1, hj3b1, hj3a2, hj3d2, hj3c2, hj3b2]
     all_goals repeat' (first | apply And.intro | intro _)
     refine zhK164 _ _ trivial ?_
     refine zbn154 _ ?_
     refine zhN153 _ ?_
     refine region_k fun zK165 zhK165 => ?_
     simp only [go_sem, hb, hcv, Int.toNat_one, Int.reduceTMod, Int.reduceTDiv, Int.mul_zero, hcq, hs1, W16.ls, W16.sh, W16.unsh, hm6, hm7, hj3a1, hj3d1, hj3c1, hj3b1, hj3a2, hj3d2, hj3c2, hj3b2]
     repeat' (first | apply And.intro | intro _)
     refine zhK165 _ ?_
     refine zhN150 _ ?_
     refine rnd_forget [14, 15, 16, 67, 68, 69, 70, 71, 72, 73, 74, 75, 76, 77, 78, 79, 80, 81, 82, 83, 84, 85, 86, 87, 88, 89, 90, 91, 92, 93, 94, 95, 96, 97, 98, 99, 100, 101, 102, 103, 104, 105, 106, 107, 108, 109, 110, 111, 112, 113, 114, 115, 116, 117, 118, 119, 120, 121, 122, 123, 124, 125, 126, 127, 128, 129, 130, 131, 132, 133, 134, 135, 136, 137, 138, 139, 140, 141, 142, 143, 144, 145, 146, 147, 148, 149, 150, 151, 152, 153, 154, 155, 156, 157, 158, 159, 160, 161, 162, 163, 164, 165, 166, 167, 168, 169, 170, 171, 172, 173, 174, 175, 176, 177, 178, 179, 180, 181, 182, 183, 184, 185, 186] ?_
     simp only [go_sem, St.forget, fgt]
     refine rnd_k fun zN166 zM166 zhN166 zhM166 => ?_
     refine sr_k fun zK167 zhK167 => ?_
     simp only [go_sem, hb, hcv, Int.toNat_one, Int.reduceTMod, Int.reduceTDiv, Int.mul_zero, hcq, hs1, W16.ls, W16.sh, W16.unsh]
     repeat' (first | apply And.intro | intro _)
     refine zhK167 _ ?_
     refine seq_k fun zN168 zM168 zhN168 zhM168 => ?_
     refine condF_k (by first | rfl | (simp [go_sem, hb, hcv, Int.toNat_one, Int.reduceTMod, Int.reduceTDiv, Int.mul_zero, hcq, hs1, W16.ls, W16.sh, W16.unsh]; done)) ?_
     refine exit_k ?_
     refine zhM168 _ _ ?_
     refine zhM166 _ _ ?_
     refine zbx100 _ ?_
     refine zhN98 _ ?_
     refine region_k fun zK169 zhK169 => ?_
     simp only [go_sem, hb, hcv, Int.toNat_one, Int.reduceTMod, Int.reduceTDiv, Int.mul_zero, hcq, hs1, W16.ls, W16.sh, W16.unsh]
     repeat' (first | apply And.intro | intro _)
     all_goals refine call_view (fun k => k) (fun _ _ => rfl) (by first | rfl | (simp only [go_sem, hb, hcv, Int.toNat_one, Int.reduceTMod, Int.reduceTDiv, Int.mul_zero, hcq, hs1, W16.ls, W16.sh, W16.unsh] <;> rfl)) ((shifted_0 j0a2 j1a2 j2a2 j3a2 j0b2 j1b2 j2b2 j3b2 j0c2 j1c2 j2c2 j3c2 j0d2 j1d2 j2d2 j3d2).plain fun _ _ h => h) ?_
     all_goals (rintro v m ⟨hR, hm⟩; subst hR; subst hm)
     all_goals refine And.intro (by first | rfl | simp only [go_sem, hb, hcv, Int.toNat_one, Int.reduceTMod, Int.reduceTDiv, Int.mul_zero, hcq, hs1, W16.ls, W16.sh, W16.unsh]) (And.intro (by first | rfl | simp only [go_sem, hb, hcv, Int.toNat_one, Int.reduceTMod, Int.reduceTDiv, Int.mul_zero, hcq, hs1, W16.ls, W16.sh, W16.unsh]) ?_)
     all_goals simp only [go_sem, hb, hcv, Int.toNat_one, Int.reduceTMod, Int.reduceTDiv, Int.mul_zero, hcq, hs1, W16.ls, W16.sh, W16.unsh]
     all_goals repeat' (first | apply And.intro | intro _)
     refine zhK169 _ ?_
     refine zbn95 _ ?_
     refine zhN94 _ ?_
     refine region_k fun zK170 zhK170 => ?_
     simp only [go_sem, hb, hcv, Int.toNat_one, Int.reduceTMod, Int.reduceTDiv, Int.mul_zero, hcq, hs1, W16.ls, W16.sh, W16.unsh]
     repeat' (first | apply And.intro | intro _)
     refine zhK170 _ ?_
     refine zhN91 _ ?_
     refine rnd_forget [13, 14, 15, 16, 61, 62, 63, 64, 65, 66, 67, 68, 69, 70, 71, 72, 73, 74, 75, 76, 77, 78, 79, 80, 81, 82, 83, 84, 85, 86, 87, 88, 89, 90, 91, 92, 93, 94, 95, 96, 97, 98, 99, 100, 101, 102, 103, 104, 105, 106, 107, 108, 109, 110, 111, 112, 113, 114, 115, 116, 117, 118, 119, 120, 121, 122, 123, 124, 125, 126, 127, 128, 129, 130, 131, 132, 133, 134, 135, 136, 137, 138, 139, 140, 141, 142, 143, 144, 145, 146, 147, 148, 149, 150, 151, 152, 153, 154, 155, 156, 157, 158, 159, 160, 161, 162, 163, 164, 165, 166, 167, 168, 169, 170, 171, 172, 173, 174, 175, 176, 177, 178, 179, 180, 181, 182, 183, 184, 185, 186, 187, 188, 189, 190, 191] ?_
     simp only [go_sem, St.forget, fgt]
     refine rnd_k fun zN171 zM171 zhN171 zhM171 => ?_
     refine sr_k fun zK172 zhK172 => ?_
     simp only [go_sem, hb, hcv, Int.toNat_one, Int.reduceTMod, Int.reduceTDiv, Int.mul_zero, hcq, hs1, W16.ls, W16.sh, W16.unsh]
     repeat' (first | apply And.intro | intro _)
     refine zhK172 _ ?_
     refine seq_k fun zN173 zM173 zhN173 zhM173 => ?_
     refine condT_k (by first | rfl | (simp [go_sem, hb, hcv, Int.toNat_one, Int.reduceTMod, Int.reduceTDiv, Int.mul_zero, hcq, hs1, W16.ls, W16.sh, W16.unsh]; done)) ?_
     refine skip_k ?_
     refine zhN173 _ ?_
     refine seq_k fun zN174 zM174 zhN174 zhM174 => ?_
     refine block_k fun zB175 zbn175 zbx175 zbr175 zbi175 => ?_
     refine sr_k fun zK176 zhK176 => ?_
     simp only [go_sem, hb, hcv, Int.toNat_one, Int.reduceTMod, Int.reduceTDiv, Int.mul_zero, hcq, hs1, W16.ls, W16.sh, W16.unsh]
     repeat' (first | apply And.intro | intro _)
     refine zhK176 _ ?_
     refine sr_k fun zK177 zhK177 => ?_
     simp only [go_sem, hb, hcv, Int.toNat_one, Int.reduceTMod, Int.reduceTDiv, Int.mul_zero, hcq, hs1, W16.ls, W16.sh, W16.unsh]
     repeat' (first | apply And.intro | intro _)
     all_goals refine call_view (fun k => k) (fun _ _ => rfl) (by first | rfl | (simp only [go_sem, hb, hcv, Int.toNat_one, Int.reduceTMod, Int.reduceTDiv, Int.mul_zero, hcq, hs1, W16.ls, W16.sh, W16.unsh] <;> rfl)) ((shifted_1 j0a2 j1a2 j2a2 j3a2 j0b2 j1b2 j2b2 j3b2 j0c2 j1c2 j2c2 j3c2 j0d2 j1d2 j2d2 j3d2).plain fun _ _ h => h) ?_
     all_goals (rintro v m ⟨hR, hm⟩; subst hR; subst hm)
     all_goals refine And.intro (by first | rfl | simp only [go_sem, hb, hcv, Int.toNat_one, Int.reduceTMod, Int.reduceTDiv, Int.mul_zero, hcq, hs1, W16.ls, W16.sh, W16.unsh]) (And.intro (by first | rfl | simp only [go_sem, hb, hcv, Int.toNat_one, Int.reduceTMod, Int.reduceTDiv, Int.mul_zero, hcq, hs1, W16.ls, W16.sh, W16.unsh]) ?_)
     all_goals simp only [go_sem, hb, hcv, Int.toNat_one, Int.reduceTMod, Int.reduceTDiv, Int.mul_zero, hcq, hs1, W16.ls, W16.sh, W16.unsh]
     all_goals repeat' (first | apply And.intro | intro _)
     refine zhK177 _ ?_
     refine seq_k fun zN178 zM178 zhN178 zhM178 => ?_
     refine sr_k fun zK179 zhK179 => ?_
     simp only [go_sem, hb, hcv, Int.toNat_one, Int.reduceTMod, Int.reduceTDiv, Int.mul_zero, hcq, hs1, W16.ls, W16.sh, W16.unsh]
     repeat' (first | apply And.intro | intro _)
     refine zhK179 _ ?_
     refine block_k fun zB180 zbn180 zbx180 zbr180 zbi180 => ?_
     refine rounds_k 5 ?_
     refine rnd_k fun zN182 zM182 zhN182 zhM182 => ?_
     refine sr_k fun zK183 zhK183 => ?_
     simp only [go_sem, hb, hcv, Int.toNat_one, Int.reduceTMod, Int.reduceTDiv, Int.mul_zero, hcq, hs1, W16.ls, W16.sh, W16.unsh, hm8, hm9, hj4a1, hj4d1, hj4c1, hj4b1, hj4a2, hj4d2, hj4c2, hj4b2]
     repeat' (first | apply And.intro | intro _)
     refine zhK183 _ ?_
     refine seq_k fun zN184 zM184 zhN184 zhM184 => ?_
     refine condT_k (by first | rfl | (simp [go_sem, hb, hcv, Int.toNat_one, Int.reduceTMod, Int.reduceTDiv, Int.mul_zero, hcq, hs1, W16.ls, W16.sh, W16.unsh, hm8, hm9, hj4a1, hj4d1, hj4c1, hj4b1, hj4a2, hj4d2, hj4c2, hj4b2]; done)) ?_
     refine skip_k ?_
     refine zhN184 _ ?_
     refine seq_k fun zN185 zM185 zhN185 zhM185 => ?_
     refine block_k fun zB186 zbn186 zbx186 zbr186 zbi186 => ?_
     refine sr_k fun zK187 zhK187 => ?_
     simp only [go_sem, hb, hcv, Int.toNat_one, Int.reduceTMod, Int.reduceTDiv, Int.mul_zero, hcq, hs1, W16.ls, W16.sh, W16.unsh, hm8, hm9, hj4a1, hj4d1, hj4c1, hj4b1, hj4a2, hj4d2, hj4c2, hj4b2]
     repeat' (first | apply And.intro | intro _)
     refine zhK187 _ ?_
     refine sr_k fun zK188 zhK188 => ?_
     simp only [go_sem, hb, hcv, Int.toNat_one, Int.reduceTMod, Int.reduceTDiv, Int.mul_zero, hcq, hs1, W16.ls, W16.sh, W16.unsh, hm8, hm9, hj4a1, hj4d1, hj4c1, hj4b1, hj4a2, hj4d2, hj4c2, hj4b2]
     repeat' (first | apply And.intro | intro _)
     all_goals (refine call_fn (caps := [5]) false [(500000, 5)] (fun k => k) ?_ ?_ (fun _ _ => rfl) ?_ (by decide) ?_ (word_8 b hb k hlt) ?_; iterate 4 (focus (first | rfl | (simp only [go_sem, hb, hcv, Int.toNat_one, Int.reduceTMod, Int.reduceTDiv, Int.mul_zero, hcq, hs1, W16.ls, W16.sh, W16.unsh, hm8, hm9, hj4a1, hj4d1, hj4c1, hj4b1, hj4a2, hj4d2, hj4c2, hj4b2] <;> first | done | rfl | simp))))
     all_goals (rintro v m ⟨hR, hm⟩; subst hR; subst hm)
     all_goals (refine And.intro ?_ (And.intro ?_ (And.intro ?_ ?_)); iterate 3 (focus (first | rfl | (simp only [go_sem, hb, hcv, Int.toNat_one, Int.reduceTMod, Int.reduceTDiv, Int.mul_zero, hcq, hs1, W16.ls, W16.sh, W16.unsh, hm8, hm9, hj4a1, hj4d1, hj4c1, hj4b1, hj4a2, hj4d2, hj4c2, hj4b2]; done) | (simp [go_sem, look, hb, hcv, Int.toNat_one, Int.reduceTMod, Int.reduceTDiv, Int.mul_zero, hcq, hs1, W16.ls, W16.sh, W16.unsh, hm8, hm9, hj4a1, hj4d1, hj4c1, hj4b1, hj4a2, hj4d2, hj4c2, hj4b2]; done))))
     all_goals (try simp only [go_sem, hb, hcv, Int.toNat_one, Int.reduceTMod, Int.reduceTDiv, Int.mul_zero, hcq, hs1, W16.ls, W16.sh, W16.unsh, hm8, hm9, hj4a1, hj4d1, hj4c1, hj4b1, hj4a2, hj4d2, hj4c2, hj4b2])
     all_goals (try simp only [go_sem, hb, hcv, Int.toNat_one, Int.reduceTMod, Int.reduceTDiv, Int.mul_zero, hcq, hs1, W16.ls, W16.sh, W16.unsh, hm8, hm9, hj4a1, hj4d1, hj4c1, hj4b1, hj4a2, hj4d2, hj4c2, hj4b2])
     all_goals repeat' (first | apply And.intro | intro _)
     all_goals (refine call_fn (caps := [5]) false [(500000, 5)] (fun k => k) ?_ ?_ (fun _ _ => rfl) ?_ (by decide) ?_ (word_9 b hb k hlt) ?_; iterate 4 (focus (first | rfl | (simp only [go_sem, hb, hcv, Int.toNat_one, Int.reduceTMod, Int.reduceTDiv, Int.mul_zero, hcq, hs1, W16.ls, W16.sh, W16.unsh, hm8, hm9, hj4a1, hj4d1, hj4c1, hj4b1, hj4a2, hj4d2, hj4c2, hj4b2] <;> first | done | rfl | simp))))
     all_goals (rintro v m ⟨hR, hm⟩; subst hR; subst hm)
     all_goals (refine And.intro ?_ (And.intro ?_ (And.intro ?_ ?_)); iterate 3 (focus (first | rfl | (simp only [go_sem, hb, hcv, Int.toNat_one, Int.reduceTMod, Int.reduceTDiv, Int.mul_zero, hcq, hs1, W16.ls, W16.sh, W16.unsh, hm8, hm9, hj4a1, hj4d1, hj4c1, hj4b1, hj4a2, hj4d2, hj4c2, hj4b2]; done) | (simp [go_sem, look, hb, hcv, Int.toNat_one, Int.reduceTMod, Int.reduceTDiv, Int.mul_zero, hcq, hs1, W16.ls, W16.sh, W16.unsh, hm8, hm9, hj4a1, hj4d1, hj4c1, hj4b1, hj4a2, hj4d2, hj4c2, hj4b2]; done))))
     all_goals (try simp only [go_sem, hb, hcv, Int.toNat_one, Int.reduceTMod, Int.reduceTDiv, Int.mul_zero, hcq, hs1, W16.ls, W16.sh, W16.unsh, hm8, hm9, hj4a1, hj4d1, hj4c1, hj4b1, hj4a2, hj4d2, hj4c2, hj4b2])
     all_goals (try simp only [go_sem, hb, hcv, Int.toNat_one, Int.reduceTMod, Int.reduceTDiv, Int.mul_zero, hcq, hs1, W16.ls, W16.sh, W16.unsh, hm8, hm9, hj4a1, hj4d1, hj4c1, hj4b1, hj4a2, hj4d2, hj4c2, hj4b2])
     all_goals repeat' (first | apply And.intro | intro _)
     refine zhK188 _ ?_
     refine sd_k (id := 22) [86, 87, 88, 89, 90, 91, 92, 93, 94, 95, 96, 97, 98] [0, 0, 3, 7, 0, 0, 48, 112, 0, 496, 1023, 0, 4095, 8191] [] mixed (by kernel_rfl) (by simp only [go_sem]) fun zK189 zhK189 => ?_
     simp only [go_sem, hb, hcv, Int.toNat_one, Int.reduceTMod, Int.reduceTDiv, Int.mul_zero, hcq, hs1, W16.ls, W16.sh, W16.unsh, hm8, hm9, hj4a1, hj4d1, hj4c1, hj4b1, hj4a2, hj4d2, hj4c2, hj4b2]
     repeat' (first | apply And.intro | intro _)
     refine zhK189 _ _ trivial ?_
     refine sd_k (id := 23) [99, 100, 101, 102, 103, 104, 105, 106, 107, 108, 109, 110, 111] [0, 0, 0, 6, 14, 0, 0, 96, 224, 510, 1022, 0, 4095, 8191] [] mixed (by kernel_rfl) (by simp only [go_sem]) fun zK190 zhK190 => ?_
     simp only [go_sem, hb, hcv, Int.toNat_one, Int.reduceTMod, Int.reduceTDiv, Int.mul_zero, hcq, hs1, W16.ls, W16.sh, W16.unsh, hm8, hm9, hj4a1, hj4d1, hj4c1, hj4b1, hj4a2, hj4d2, hj4c2, hj4b2]
     repeat' (first | apply And.intro | intro _)
     all_goals refine call_draw (fun k => k) _ [] (fun _ _ => rfl) (by first | rfl | (simp only [go_sem, hb, hcv, Int.toNat_one, Int.reduceTMod, Int.reduceTDiv, Int.mul_zero, hcq, hs1, W16.ls, W16.sh, W16.unsh, hm8, hm9, hj4a1, hj4d1, hj4c1, hj4b1, hj4a2, hj4d2, hj4c2, hj4b2] <;> rfl)) ((left_16 _).plain fun _ _ h => h) ?_ ?_
     all_goals try (refine And.intro ?_ (And.intro ?_ (And.intro ?_ ?_)) <;> first | rfl | simp only [go_sem])
     all_goals simp only [go_sem, hb, hcv, Int.toNat_one, Int.reduceTMod, Int.reduceTDiv, Int.mul_zero, hcq, hs1, W16.ls, W16.sh, W16.unsh, hm8, hm9, hj4a1, hj4d1, hj4c1, hj4b1, hj4a2, hj4d2, hj4c2, hj4b2]
     all_goals repeat' (first | apply And.intro | intro _)
     refine zhK190 _ _ trivial ?_
     refine sd_k (id := 24) [112, 113, 114, 115, 116, 117, 118, 119, 120, 121, 122] [0, 0, 3, 7, 0, 0, 48, 112, 255, 0, 1023, 2047] [] mixed (by kernel_rfl) (by simp only [go_sem]) fun zK191 zhK191 => ?_
     simp only [go_sem, hb, hcv, Int.toNat_one, Int.reduceTMod, Int.reduceTDiv, Int.mul_zero, hcq, hs1, W16.ls, W16.sh, W16.unsh, hm8, hm9, hj4a1, hj4d1, hj4c1, hj4b1, hj4a2, hj4d2, hj4c2, hj4b2]
     repeat' (first | apply And.intro | intro _)
     refine zhK191 _ _ trivial ?_
     refine sd_k (id := 25) [123, 124, 125, 126, 127, 128, 129, 130, 131, 132, 133, 134, 135] [0, 0, 0, 6, 14, 0, 0, 96, 224, 510, 1022, 0, 4095, 8191] [] mixed (by kernel_rfl) (by simp only [go_sem]) fun zK192 zhK192 => ?_
     simp only [go_sem, hb, hcv, Int.toNat_one, Int.reduceTMod, Int.reduceTDiv, Int.mul_zero, hcq, hs1, W16.ls, W16.sh, W16.unsh, hm8, hm9, hj4a1, hj4d1, hj4c1, hj4b1, hj4a2, hj4d2, hj4c2, hj4b2]
     repeat' (first | apply And.intro | intro _)
     all_goals refine call_draw (fun k => k) _ [] (fun _ _ => rfl) (by first | rfl | (simp only [go_sem, hb, hcv, Int.toNat_one, Int.reduceTMod, Int.reduceTDiv, Int.mul_zero, hcq, hs1, W16.ls, W16.sh, W16.unsh, hm8, hm9, hj4a1, hj4d1, hj4c1, hj4b1, hj4a2, hj4d2, hj4c2, hj4b2] <;> rfl)) ((left_20 _).plain fun _ _ h => h) ?_ ?_
     all_goals try (refine And.intro ?_ (And.intro ?_ (And.intro ?_ ?_)) <;> first | rfl | simp only [go_sem])
     all_goals simp only [go_sem, hb, hcv, Int.toNat_one, Int.reduceTMod, Int.reduceTDiv, Int.mul_zero, hcq, hs1, W16.ls, W16.sh, W16.unsh, hm8, hm9, hj4a1, hj4d1, hj4c1, hj4b1, hj4a2, hj4d2, hj4c2, hj4b2]
     all_goals repeat' (first | apply And.intro | intro _)
     refine zhK192 _ _ trivial ?_
     refine sd_k (id := 26) [136, 137, 138, 139, 140, 141, 142, 143, 144, 145, 146, 147, 148] [0, 0, 3, 7, 0, 0, 48, 112, 0, 496, 1023, 0, 4095, 8191] [] mixed (by kernel_rfl) (by simp only [go_sem]) fun zK193 zhK193 => ?_
     simp only [go_sem, hb, hcv, Int.toNat_one, Int.reduceTMod, Int.reduceTDiv, Int.mul_zero, hcq, hs1, W16.ls, W16.sh, W16.unsh, hm8, hm9, hj4a1, hj4d1, hj4c1, hj4b1, hj4a2, hj4d2, hj4c2, hj4b2]
     repeat' (first | apply And.intro | intro _)
     refine zhK193 _ _ trivial ?_
     refine sd_k (id := 27) [149, 150, 151, 152, 153, 154, 155, 156, 157, 158, 159, 160, 161] [0, 0, 0, 6, 14, 0, 0, 96, 224, 510, 1022, 0, 4095, 8191] [] mixed (by kernel_rfl) (by simp only [go_sem]) fun zK194 zhK194 => ?_
     simp only [go_sem, hb, hcv, Int.toNat_one, Int.reduceTMod, Int.reduceTDiv, Int.mul_zero, hcq, hs1, W16.ls, W16.sh, W16.unsh, hm8, hm9, hj4a1, hj4d1, hj4c1, hj4b1, hj4a2, hj4d2, hj4c2, hj4b2]
     repeat' (first | apply And.intro | intro _)
     all_goals refine call_draw (fun k => k) _ [] (fun _ _ => rfl) (by first | rfl | (simp only [go_sem, hb, hcv, Int.toNat_one, Int.reduceTMod, Int.reduceTDiv, Int.mul_zero, hcq, hs1, W16.ls, W16.sh, W16.unsh, hm8, hm9, hj4a1, hj4d1, hj4c1, hj4b1, hj4a2, hj4d2, hj4c2, hj4b2] <;> rfl)) ((left_24 _).plain fun _ _ h => h) ?_ ?_
     all_goals try (refine And.intro ?_ (And.intro ?_ (And.intro ?_ ?_)) <;> first | rfl | simp only [go_sem])
     all_goals simp only [go_sem, hb, hcv, Int.toNat_one, Int.reduceTMod, Int.reduceTDiv, Int.mul_zero, hcq, hs1, W16.ls, W16.sh, W16.unsh, hm8, hm9, hj4a1, hj4d1, hj4c1, hj4b1, hj4a2, hj4d2, hj4c2, hj4b2]
     all_goals repeat' (first | apply And.intro | intro _)
     refine zhK194 _ _ trivial ?_
     refine sd_k (id := 28) [162, 163, 164, 165, 166, 167, 168, 169, 170, 171, 172] [0, 0, 3, 7, 0, 0, 48, 112, 255, 0, 1023, 2047] [] mixed (by kernel_rfl) (by simp only [go_sem]) fun zK195 zhK195 => ?_
     simp only [go_sem, hb, hcv, Int.toNat_one, Int.reduceTMod, Int.reduceTDiv, Int.mul_zero, hcq, hs1, W16.ls, W16.sh, W16.unsh, hm8, hm9, hj4a1, hj4d1, hj4c1, hj4b1, hj4a2, hj4d2, hj4c2, hj4b2]
     repeat' (first | apply And.intro | intro _)
     refine zhK195 _ _ trivial ?_
     refine draw_k (id := 29) [173, 174, 175, 176, 177, 178, 179, 180, 181, 182, 183, 184, 185] [0, 0, 0, 6, 14, 0, 0, 96, 224, 510, 1022, 0, 4095, 8191] [] mixed (by kernel_rfl) (by simp only [go_sem]) fun zK196 zhK196 => ?_
     simp only [go_sem, hb, hcv, Int.toNat_one, Int.reduceTMod, Int.reduceTDiv, Int.mul_zero, hcq, hs1, W16.ls, W16.sh, W16.unsh, hm8, hm9, hj4a1, hj4d1, hj4c1, hj4b1, hj4a2, hj4d2, hj4c2, hj4b2]
     repeat' (first | apply And.intro | intro _)
     all_goals refine call_draw (fun k => k) _ [] (fun _ _ => rfl) (by first | rfl | (simp only [go_sem, hb, hcv, Int.toNat_one, Int.reduceTMod, Int.reduceTDiv, Int.mul_zero, hcq, hs1, W16.ls, W16.sh, W16.unsh, hm8, hm9, hj4a1, hj4d1, hj4c1, hj4b1, hj4a2, hj4d2, hj4c2, hj4b2] <;> rfl)) ((left_25 _).plain fun _ _ h => h) ?_ ?_
     all_goals try (refine And.intro ?_ (And.intro ?_ (And.intro ?_ ?_)) <;> first | rfl | simp only [go_sem])
     all_goals simp only [go_sem, hb, hcv, Int.toNat_one, Int.reduceTMod, Int.reduceTDiv, Int.mul_zero, hcq, hs1, W16.ls, W16.sh, W16.unsh, hm8, hm9, hj4a1, hj4d1, hj4c1, hj4b1, hj4a2, hj4d2, hj4c2, hj4b2]
     all_goals repeat' (first | apply And.intro | intro _)
     refine zhK196 _ _ trivial ?_
     refine zbn186 _ ?_
     refine zhN185 _ ?_
     refine region_k fun zK197 zhK197 => ?_
     simp only [go_sem, hb, hcv, Int.toNat_one, Int.reduceTMod, Int.reduceTDiv, Int.mul_zero, hcq, hs1, W16.ls, W16.sh, W16.unsh, hm8, hm9, hj4a1, hj4d1, hj4c1, hj4b1, hj4a2, hj4d2, hj4c2, hj4b2]
     repeat' (first | apply And.intro | intro _)
     refine zhK197 _ ?_
     refine zhN182 _ ?_
     refine rnd_forget [14, 15, 16, 67, 68, 69, 70, 71, 72, 73, 74, 75, 76, 77, 78, 79, 80, 81, 82, 83, 84, 85, 86, 87, 88, 89, 90, 91, 92, 93, 94, 95, 96, 97, 98, 99, 100, 101, 102, 103, 104, 105, 106, 107, 108, 109, 110, 111, 112, 113, 114, 115, 116, 117, 118, 119, 120, 121, 122, 123, 124, 125, 126, 127, 128, 129, 130, 131, 132, 133, 134, 135, 136, 137, 138, 139, 140, 141, 142, 143, 144, 145, 146, 147, 148, 149, 150, 151, 152, 153, 154, 155, 156, 157, 158, 159, 160, 161, 162, 163, 164, 165, 166, 167, 168, 169, 170, 171, 172, 173, 174, 175, 176, 177, 178, 179, 180, 181, 182, 183, 184, 185, 186] ?_
     simp only [go_sem, St.forget, fgt]
     refine rnd_k fun zN198 zM198 zhN198 zhM198 => ?_
     refine sr_k fun zK199 zhK199 => ?_
     simp only [go_sem, hb, hcv, Int.toNat_one, Int.reduceTMod, Int.reduceTDiv, Int.mul_zero, hcq, hs1, W16.ls, W16.sh, W16.unsh, hm10, hm11, hj5a1, hj5d1, hj5c1, hj5b1, hj5a2, hj5d2, hj5c2, hj5b2]
     repeat' (first | apply And.intro | intro _)
     refine zhK199 _ ?_
     refine seq_k fun zN200 zM200 zhN200 zhM200 => ?_
     refine condT_k (by first | rfl | (simp [go_sem, hb, hcv, Int.toNat_one, Int.reduceTMod, Int.reduceTDiv, Int.mul_zero, hcq, hs1, W16.ls, W16.sh, W16.unsh, hm10, hm11, hj5a1, hj5d1, hj5c1, hj5b1, hj5a2, hj5d2, hj5c2, hj5b2]; done)) ?_
     refine skip_k ?_
     refine zhN200 _ ?_
     refine seq_k fun zN201 zM201 zhN201 zhM201 => ?_
     refine block_k fun zB202 zbn202 zbx202 zbr202 zbi202 => ?_
     refine sr_k fun zK203 zhK203 => ?_
     simp only [go_sem, hb, hcv, Int.toNat_one, Int.reduceTMod, Int.reduceTDiv, Int.mul_zero, hcq, hs1, W16.ls, W16.sh, W16.unsh, hm10, hm11, hj5a1, hj5d1, hj5c1, hj5b1, hj5a2, hj5d2, hj5c2, hj5b2]
     repeat' (first | apply And.intro | intro _)
     refine zhK203 _ ?_
     refine sr_k fun zK204 zhK204 => ?_
     simp only [go_sem, hb, hcv, Int.toNat_one, Int.reduceTMod, Int.reduceTDiv, Int.mul_zero, hcq, hs1, W16.ls, W16.sh, W16.unsh, hm10, hm11, hj5a1, hj5d1, hj5c1, hj5b1, hj5a2, hj5d2, hj5c2, hj5b2]
     repeat' (first | apply And.intro | intro _)
     all_goals (refine call_fn (caps := [5]) false [(500000, 5)] (fun k => k) ?_ ?_ (fun _ _ => rfl) ?_ (by decide) ?_ (word_10 b hb k hlt) ?_; iterate 4 (focus (first | rfl | (simp only [go_sem, hb, hcv, Int.toNat_one, Int.reduceTMod, Int.reduceTDiv, Int.mul_zero, hcq, hs1, W16.ls, W16.sh, W16.unsh, hm10, hm11, hj5a1, hj5d1, hj5c1, hj5b1, hj5a2, hj5d2, hj5c2, hj5b2] <;> first | done | rfl | simp))))
     all_goals (rintro v m ⟨hR, hm⟩; subst hR; subst hm)
     all_goals (refine And.intro ?_ (And.intro ?_ (And.intro ?_ ?_)); iterate 3 (focus (first | rfl | (simp only [go_sem, hb, hcv, Int.toNat_one, Int.reduceTMod, Int.reduceTDiv, Int.mul_zero, hcq, hs1, W16.ls, W16.sh, W16.unsh, hm10, hm11, hj5a1, hj5d1, hj5c1, hj5b1, hj5a2, hj5d2, hj5c2, hj5b2]; done) | (simp [go_sem, look, hb, hcv, Int.toNat_one, Int.reduceTMod, Int.reduceTDiv, Int.mul_zero, hcq, hs1, W16.ls, W16.sh, W16.unsh, hm10, hm11, hj5a1, hj5d1, hj5c1, hj5b1, hj5a2, hj5d2, hj5c2, hj5b2]; done))))
     all_goals (try simp only [go_sem, hb, hcv, Int.toNat_one, Int.reduceTMod, Int.reduceTDiv, Int.mul_zero, hcq, hs1, W16.ls, W16.sh, W16.unsh, hm10, hm11, hj5a1, hj5d1, hj5c1, hj5b1, hj5a2, hj5d2, hj5c2, hj5b2])
     all_goals (try simp only [go_sem, hb, hcv, Int.toNat_one, Int.reduceTMod, Int.reduceTDiv, Int.mul_zero, hcq, hs1, W16.ls, W16.sh, W16.unsh, hm10, hm11, hj5a1, hj5d1, hj5c1, hj5b1, hj5a2, hj5d2, hj5c2, hj5b2])
     all_goals repeat' (first | apply And.intro | intro _)
     all_goals (refine call_fn (caps := [5]) false [(500000, 5)] (fun k => k) ?_ ?_ (fun _ _ => rfl) ?_ (by decide) ?_ (word_11 b hb k hlt) ?_; iterate 4 (focus (first | rfl | (simp only [go_sem, hb, hcv, Int.toNat_one, Int.reduceTMod, Int.reduceTDiv, Int.mul_zero, hcq, hs1, W16.ls, W16.sh, W16.unsh, hm10, hm11, hj5a1, hj5d1, hj5c1, hj5b1, hj5a2, hj5d2, hj5c2, hj5b2] <;> first | done | rfl | simp))))
     all_goals (rintro v m ⟨hR, hm⟩; subst hR; subst hm)
     all_goals (refine And.intro ?_ (And.intro ?_ (And.intro ?_ ?_)); iterate 3 (focus (first | rfl | (simp only [go_sem, hb, hcv, Int.toNat_one, Int.reduceTMod, Int.reduceTDiv, Int.mul_zero, hcq, hs1, W16.ls, W16.sh, W16.unsh, hm10, hm11, hj5a1, hj5d1, hj5c1, hj5b1, hj5a2, hj5d2, hj5c2, hj5b2]; done) | (simp [go_sem, look, hb, hcv, Int.toNat_one, Int.reduceTMod, Int.reduceTDiv, Int.mul_zero, hcq, hs1, W16.ls, W16.sh, W16.unsh, hm10, hm11, hj5a1, hj5d1, hj5c1, hj5b1, hj5a2, hj5d2, hj5c2, hj5b2]; done))))
     all_goals (try simp only [go_sem, hb, hcv, Int.toNat_one, Int.reduceTMod, Int.reduceTDiv, Int.mul_zero, hcq, hs1, W16.ls, W16.sh, W16.unsh, hm10, hm11, hj5a1, hj5d1, hj5c1, hj5b1, hj5a2, hj5d2, hj5c2, hj5b2])
     all_goals (try simp only [go_sem, hb, hcv, Int.toNat_one, Int.reduceTMod, Int.reduceTDiv, Int.mul_zero, hcq, hs1, W16.ls, W16.sh, W16.unsh, hm10, hm11, hj5a1, hj5d1, hj5c1, hj5b1, hj5a2, hj5d2, hj5c2, hj5b2])
     all_goals repeat' (first | apply And.intro | intro _)
     refine zhK204 _ ?_
     refine sd_k (id := 22) [86, 87, 88, 89, 90, 91, 92, 93, 94, 95, 96, 97, 98] [0, 0, 3, 7, 0, 0, 48, 112, 0, 496, 1023, 0, 4095, 8191] [] mixed (by kernel_rfl) (by simp only [go_sem]) fun zK205 zhK205 => ?_
     simp only [go_sem, hb, hcv, Int.toNat_one, Int.reduceTMod, Int.reduceTDiv, Int.mul_zero, hcq, hs1, W16.ls, W16.sh, W16.unsh, hm10, hm11, hj5a1, hj5d1, hj5c1, hj5b1, hj5a2, hj5d2, hj5c2, hj5b2]
     repeat' (first | apply And.intro | intro _)
     refine zhK205 _ _ trivial ?_
     refine sd_k (id := 23) [99, 100, 101, 102, 103, 104, 105, 106, 107, 108, 109, 110, 111] [0, 0, 0, 6, 14, 0, 0, 96, 224, 510, 1022, 0, 4095, 8191] [] mixed (by kernel_rfl) (by simp only [go_sem]) fun zK206 zhK206 => ?_
     simp only [go_sem, hb, hcv, Int.toNat_one, Int.reduceTMod, Int.reduceTDiv, Int.mul_zero, hcq, hs1, W16.ls, W16.sh, W16.unsh, hm10, hm11, hj5a1, hj5d1, hj5c1, hj5b1, hj5a2, hj5d2, hj5c2, hj5b2]
     repeat' (first | apply And.intro | intro _)
     all_goals refine call_draw (fun k => k) _ [] (fun _ _ => rfl) (by first | rfl | (simp only [go_sem, hb, hcv, Int.toNat_one, Int.reduceTMod, Int.reduceTDiv, Int.mul_zero, hcq, hs1, W16.ls, W16.sh, W16.unsh, hm10, hm11, hj5a1, hj5d1, hj5c1, hj5b1, hj5a2, hj5d2, hj5c2, hj5b2] <;> rfl)) ((left_16 _).plain fun _ _ h => h) ?_ ?_
     all_goals try (refine And.intro ?_ (And.intro ?_ (And.intro ?_ ?_)) <;> first | rfl | simp only [go_sem])
     all_goals simp only [go_sem, hb, hcv, Int.toNat_one, Int.reduceTMod, Int.reduceTDiv, Int.mul_zero, hcq, hs1, W16.ls, W16.sh, W16.unsh, hm10, hm11, hj5a1, hj5d1, hj5c1, hj5b1, hj5a2, hj5d2, hj5c2, hj5b2]
     all_goals repeat' (first | apply And.intro | intro _)
     refine zhK206 _ _ trivial ?_
     refine sd_k (id := 24) [112, 113, 114, 115, 116, 117, 118, 119, 120, 121, 122] [0, 0, 3, 7, 0, 0, 48, 112, 255, 0, 1023, 2047] [] mixed (by kernel_rfl) (by simp only [go_sem]) fun zK207 zhK207 => ?_
     simp only [go_sem, hb, hcv, Int.toNat_one, Int.reduceTMod, Int.reduceTDiv, Int.mul_zero, hcq, hs1, W16.ls, W16.sh, W16.unsh, hm10, hm11, hj5a1, hj5d1, hj5c1, hj5b1, hj5a2, hj5d2, hj5c2, hj5b2]
     repeat' (first | apply And.intro | intro _)
     refine zhK207 _ _ trivial ?_
     refine sd_k (id := 25) [123, 124, 125, 126, 127, 128, 129, 130, 131, 132, 133, 134, 135] [0, 0, 0, 6, 14, 0, 0, 96, 224, 510, 1022, 0, 4095, 8191] [] mixed (by kernel_rfl) (by simp only [go_sem]) fun zK208 zhK208 => ?_
     simp only [go_sem, hb, hcv, Int.toNat_one, Int.reduceTMod, Int.reduceTDiv, Int.mul_zero, hcq, hs1, W16.ls, W16.sh, W16.unsh, hm10, hm11, hj5a1, hj5d1, hj5c1, hj5b1, hj5a2, hj5d2, hj5c2, hj5b2]
     repeat' (first | apply And.intro | intro _)
     all_goals refine call_draw (fun k => k) _ [] (fun _ _ => rfl) (by first | rfl | (simp only [go_sem, hb, hcv, Int.toNat_one, Int.reduceTMod, Int.reduceTDiv, Int.mul_zero, hcq, hs1, W16.ls, W16.sh, W16.unsh, hm10, hm11, hj5a1, hj5d1, hj5c1, hj5b1, hj5a2, hj5d2, hj5c2, hj5b2] <;> rfl)) ((left_20 _).plain fun _ _ h => h) ?_ ?_
     all_goals try (refine And.intro ?_ (And.intro ?_ (And.intro ?_ ?_)) <;> first | rfl | simp only [go_sem])
     all_goals simp only [go_sem, hb, hcv, Int.toNat_one, Int.reduceTMod, Int.reduceTDiv, Int.mul_zero, hcq, hs1, W16.ls, W16.sh, W16.unsh, hm10, hm11, hj5a1, hj5d1, hj5c1, hj5b1, hj5a2, hj5d2, hj5c2, hj5b2]
     all_goals repeat' (first | apply And.intro | intro _)
     refine zhK208 _ _ trivial ?_
     refine sd_k (id := 26) [136, 137, 138, 139, 140, 141, 142, 143, 144, 145, 146, 147, 148] [0, 0, 3, 7, 0, 0, 48, 112, 0, 496, 1023, 0, 4095, 8191] [] mixed (by kernel_rfl) (by simp only [go_sem]) fun zK209 zhK209 => ?_
     simp only [go_sem, hb, hcv, Int.toNat_one, Int.reduceTMod, Int.reduceTDiv, Int.mul_zero, hcq, hs1, W16.ls, W16.sh, W16.unsh, hm10, hm11, hj5a1, hj5d1, hj5c1, hj5b1, hj5a2, hj5d2, hj5c2, hj5b2]
     repeat' (first | apply And.intro | intro _)
     refine zhK209 _ _ trivial ?_
     refine sd_k (id := 27) [149, 150, 151, 152, 153, 154, 155, 156, 157, 158, 159, 160, 161] [0, 0, 0, 6, 14, 0, 0, 96, 224, 510, 1022, 0, 4095, 8191] [] mixed (by kernel_rfl) (by simp only [go_sem]) fun zK210 zhK210 => ?_
     simp only [go_sem, hb, hcv, Int.toNat_one, Int.reduceTMod, Int.reduceTDiv, Int.mul_zero, hcq, hs1, W16.ls, W16.sh, W16.unsh, hm10, hm11, hj5a1, hj5d1, hj5c1, hj5b1, hj5a2, hj5d2, hj5c2, hj5b2]
     repeat' (first | apply And.intro | intro _)
     all_goals refine call_draw (fun k => k) _ [] (fun _ _ => rfl) (by first | rfl | (simp only [go_sem, hb, hcv, Int.toNat_one, Int.reduceTMod, Int.reduceTDiv, Int.mul_zero, hcq, hs1, W16.ls, W16.sh, W16.unsh, hm10, hm11, hj5a1, hj5d1, hj5c1, hj5b1, hj5a2, hj5d2, hj5c2, hj5b2] <;> rfl)) ((left_24 _).plain fun _ _ h => h) ?_ ?_
     all_goals try (refine And.intro ?_ (And.intro ?_ (And.intro ?_ ?_)) <;> first | rfl | simp only [go_sem])
     all_goals simp only [go_sem, hb, hcv, Int.toNat_one, Int.reduceTMod, Int.reduceTDiv, Int.mul_zero, hcq, hs1, W16.ls, W16.sh, W16.unsh, hm10, hm11, hj5a1, hj5d1, hj5c1, hj5b1, hj5a2, hj5d2, hj5c2, hj5b2]
     all_goals repeat' (first | apply And.intro | intro _)
     refine zhK210 _ _ trivial ?_
     refine sd_k (id := 28) [162, 163, 164, 165, 166, 167, 168, 169, 170, 171, 172] [0, 0, 3, 7, 0, 0, 48, 112, 255, 0, 1023, 2047] [] mixed (by kernel_rfl) (by simp only [go_sem]) fun zK211 zhK211 => ?_
     simp only [go_sem, hb, hcv, Int.toNat_one, Int.reduceTMod, Int.reduceTDiv, Int.mul_zero, hcq, hs1, W16.ls, W16.sh, W16.unsh, hm10, hm11, hj5a1, hj5d1, hj5c1, hj5b1, hj5a2, hj5d2, hj5c2, hj5b2]
     repeat' (first | apply And.intro | intro _)
     refine zhK211 _ _ trivial ?_
     refine draw_k (id := 29) [173, 174, 175, 176, 177, 178, 179, 180, 181, 182, 183, 184, 185] [0, 0, 0, 6, 14, 0, 0, 96, 224, 510, 1022, 0, 4095, 8191] [] mixed (by kernel_rfl) (by simp only [go_sem]) fun zK212 zhK212 => ?_
     simp only [go_sem, hb, hcv, Int.toNat_one, Int.reduceTMod, Int.reduceTDiv, Int.mul_zero, hcq, hs1, W16.ls, W16.sh, W16.unsh, hm10, hm11, hj5a1, hj5d1, hj5c1, hj5b1, hj5a2, hj5d2, hj5c2, hj5b2]
     repeat' (first | apply And.intro | intro _)
     all_goals refine call_draw (fun k => k) _ [] (fun _ _ => rfl) (by first | rfl | (simp only [go_sem, hb, hcv, Int.toNat_one, Int.reduceTMod, Int.reduceTDiv, Int.mul_zero, hcq, hs1, W16.ls, W16.sh, W16.unsh, hm10, hm11, hj5a1, hj5d1, hj5c1, hj5b1, hj5a2, hj5d2, hj5c2, hj5b2] <;> rfl)) ((left_25 _).plain fun _ _ h => h) ?_ ?_
     all_goals try (refine And.intro ?_ (And.intro ?_ (And.intro ?_ ?_)) <;> first | rfl | simp only [go_sem])
     all_goals simp only [go_sem, hb, hcv, Int.toNat_one, Int.reduceTMod, Int.reduceTDiv, Int.mul_zero, hcq, hs1, W16.ls, W16.sh, W16.unsh, hm10, hm11, hj5a1, hj5d1, hj5c1, hj5b1, hj5a2, hj5d2, hj5c2, hj5b2]
     all_goals repeat' (first | apply And.intro | intro _)
     refine zhK212 _ _ trivial ?_
     refine zbn202 _ ?_
     refine zhN201 _ ?_
     refine region_k fun zK213 zhK213 => ?_
     simp only [go_sem, hb, hcv, Int.toNat_one, Int.reduceTMod, Int.reduceTDiv, Int.mul_zero, hcq, hs1, W16.ls, W16.sh, W16.unsh, hm10, hm11, hj5a1, hj5d1, hj5c1, hj5b1, hj5a2, hj5d2, hj5c2, hj5b2]
     repeat' (first | apply And.intro | intro _)
     refine zhK213 _ ?_
     refine zhN198 _ ?_
     refine rnd_forget [14, 15, 16, 67, 68, 69, 70, 71, 72, 73, 74, 75, 76, 77, 78, 79, 80, 81, 82, 83, 84, 85, 86, 87, 88, 89, 90, 91, 92, 93, 94, 95, 96, 97, 98, 99, 100, 101, 102, 103, 104, 105, 106, 107, 108, 109, 110, 111, 112, 113, 114, 115, 116, 117, 118, 119, 120, 121, 122, 123, 124, 125, 126, 127, 128, 129, 130, 131, 132, 133, 134, 135, 136, 137, 138, 139, 140, 141, 142, 143, 144, 145, 146, 147, 148, 149, 150, 151, 152, 153, 154, 155, 156, 157, 158, 159, 160, 161, 162, 163, 164, 165, 166, 167, 168, 169, 170, 171, 172, 173, 174, 175, 176, 177, 178, 179, 180, 181, 182, 183, 184, 185, 186] ?_
     simp only [go_sem, St.forget, fgt]
     refine rnd_k fun zN214 zM214 zhN214 zhM214 => ?_
     refine sr_k fun zK215 zhK215 => ?_
     simp only [go_sem, hb, hcv, Int.toNat_one, Int.reduceTMod, Int.reduceTDiv, Int.mul_zero, hcq, hs1, W16.ls, W16.sh, W16.unsh, hm12, hm13, hj6a1, hj6d1, hj6c1, hj6b1, hj6a2, hj6d2, hj6c2, hj6b2]
     repeat' (first | apply And.intro | intro _)
     refine zhK215 _ ?_
     refine seq_k fun zN216 zM216 zhN216 zhM216 => ?_
     refine condT_k (by first | rfl | (simp [go_sem, hb, hcv, Int.toNat_one, Int.reduceTMod, Int.reduceTDiv, Int.mul_zero, hcq, hs1, W16.ls, W16.sh, W16.unsh, hm12, hm13, hj6a1, hj6d1, hj6c1, hj6b1, hj6a2, hj6d2, hj6c2, hj6b2]; done)) ?_
     refine skip_k ?_
     refine zhN216 _ ?_
     refine seq_k fun zN217 zM217 zhN217 zhM217 => ?_
     refine block_k fun zB218 zbn218 zbx218 zbr218 zbi218 => ?_
     refine sr_k fun zK219 zhK219 => ?_
     simp only [go_sem, hb, hcv, Int.toNat_one, Int.reduceTMod, Int.reduceTDiv, Int.mul_zero, hcq, hs1, W16.ls, W16.sh, W16.unsh, hm12, hm13, hj6a1, hj6d1, hj6c1, hj6b1, hj6a2, hj6d2, hj6c2, hj6b2]
     repeat' (first | apply And.intro | intro _)
     refine zhK219 _ ?_
     refine sr_k fun zK220 zhK220 => ?_
     simp only [go_sem, hb, hcv, Int.toNat_one, Int.reduceTMod, Int.reduceTDiv, Int.mul_zero, hcq, hs1, W16.ls, W16.sh, W16.unsh, hm12, hm13, hj6a1, hj6d1, hj6c1, hj6b1, hj6a2, hj6d2, hj6c2, hj6b2]
     repeat' (first | apply And.intro | intro _)
     all_goals (refine call_fn (caps := [5]) false [(500000, 5)] (fun k => k) ?_ ?_ (fun _ _ => rfl) ?_ (by decide) ?_ (word_12 b hb k hlt) ?_; iterate 4 (focus (first | rfl | (simp only [go_sem, hb, hcv, Int.toNat_one, Int.reduceTMod, Int.reduceTDiv, Int.mul_zero, hcq, hs1, W16.ls, W16.sh, W16.unsh, hm12, hm13, hj6a1, hj6d1, hj6c1, hj6b1, hj6a2, hj6d2, hj6c2, hj6b2] <;> first | done | rfl | simp))))
     all_goals (rintro v m ⟨hR, hm⟩; subst hR; subst hm)
     all_goals (refine And.intro ?_ (And.intro ?_ (And.intro ?_ ?_)); iterate 3 (focus (first | rfl | (simp only [go_sem, hb, hcv, Int.toNat_one, Int.reduceTMod, Int.reduceTDiv, Int.mul_zero, hcq, hs1, W16.ls, W16.sh, W16.unsh, hm12, hm13, hj6a1, hj6d1, hj6c1, hj6b1, hj6a2, hj6d2, hj6c2, hj6b2]; done) | (simp [go_sem, look, hb, hcv, Int.toNat_one, Int.reduceTMod, Int.reduceTDiv, Int.mul_zero, hcq, hs1, W16.ls, W16.sh, W16.unsh, hm12, hm13, hj6a1, hj6d1, hj6c1, hj6b1, hj6a2, hj6d2, hj6c2, hj6b2]; done))))
     all_goals (try simp only [go_sem, hb, hcv, Int.toNat_one, Int.reduceTMod, Int.reduceTDiv, Int.mul_zero, hcq, hs1, W16.ls, W16.sh, W16.unsh, hm12, hm13, hj6a1, hj6d1, hj6c1, hj6b1, hj6a2, hj6d2, hj6c2, hj6b2])
     all_goals (try simp only [go_sem, hb, hcv, Int.toNat_one, Int.reduceTMod, Int.reduceTDiv, Int.mul_zero, hcq, hs1, W16.ls, W16.sh, W16.unsh, hm12, hm13, hj6a1, hj6d1, hj6c1, hj6b1, hj6a2, hj6d2, hj6c2, hj6b2])
     all_goals repeat' (first | apply And.intro | intro _)
     all_goals (refine call_fn (caps := [5]) false [(500000, 5)] (fun k => k) ?_ ?_ (fun _ _ => rfl) ?_ (by decide) ?_ (word_13 b hb k hlt) ?_; iterate 4 (focus (first | rfl | (simp only [go_sem, hb, hcv, Int.toNat_one, Int.reduceTMod, Int.reduceTDiv, Int.mul_zero, hcq, hs1, W16.ls, W16.sh, W16.unsh, hm12, hm13, hj6a1, hj6d1, hj6c1, hj6b1, hj6a2, hj6d2, hj6c2, hj6b2] <;> first | done | rfl | simp))))
     all_goals (rintro v m ⟨hR, hm⟩; subst hR; subst hm)
     all_goals (refine And.intro ?_ (And.intro ?_ (And.intro ?_ ?_)); iterate 3 (focus (first | rfl | (simp only [go_sem, hb, hcv, Int.toNat_one, Int.reduceTMod, Int.reduceTDiv, Int.mul_zero, hcq, hs1, W16.ls, W16.sh, W16.unsh, hm12, hm13, hj6a1, hj6d1, hj6c1, hj6b1, hj6a2, hj6d2, hj6c2, hj6b2]; done) | (simp [go_sem, look, hb, hcv, Int.toNat_one, Int.reduceTMod, Int.reduceTDiv, Int.mul_zero, hcq, hs1, W16.ls, W16.sh, W16.unsh, hm12, hm13, hj6a1, hj6d1, hj6c1, hj6b1, hj6a2, hj6d2, hj6c2, hj6b2]; done))))
     all_goals (try simp only [go_sem, hb, hcv, Int.toNat_one, Int.reduceTMod, Int.reduceTDiv, Int.mul_zero, hcq, hs1, W16.ls, W16.sh, W16.unsh, hm12, hm13, hj6a1, hj6d1, hj6c1, hj6b1, hj6a2, hj6d2, hj6c2, hj6b2])
     all_goals (try simp only [go_sem, hb, hcv, Int.toNat_one, Int.reduceTMod, Int.reduceTDiv, Int.mul_zero, hcq, hs1, W16.ls, W16.sh, W16.unsh, hm12, hm13, hj6a1, hj6d1, hj6c1, hj6b1, hj6a2, hj6d2, hj6c2, hj6b2])
     all_goals repeat' (first | apply And.intro | intro _)
     refine zhK220 _ ?_
     refine sd_k (id := 22) [86, 87, 88, 89, 90, 91, 92, 93, 94, 95, 96, 97, 98] [0, 0, 3, 7, 0, 0, 48, 112, 0, 496, 1023, 0, 4095, 8191] [] mixed (by kernel_rfl) (by simp only [go_sem]) fun zK221 zhK221 => ?_
     simp only [go_sem, hb, hcv, Int.toNat_one, Int.reduceTMod, Int.reduceTDiv, Int.mul_zero, hcq, hs1, W16.ls, W16.sh, W16.unsh, hm12, hm13, hj6a1, hj6d1, hj6c1, hj6b1, hj6a2, hj6d2, hj6c2, hj6b2]
     repeat' (first | apply And.intro | intro _)
     refine zhK221 _ _ trivial ?_
     refine sd_k (id := 23) [99, 100, 101, 102, 103, 104, 105, 106, 107, 108, 109, 110, 111] [0, 0, 0, 6, 14, 0, 0, 96, 224, 510, 1022, 0, 4095, 8191] [] mixed (by kernel_rfl) (by simp only [go_sem]) fun zK222 zhK222 => ?_
     simp only [go_sem, hb, hcv, Int.toNat_one, Int.reduceTMod, Int.reduceTDiv, Int.mul_zero, hcq, hs1, W16.ls, W16.sh, W16.unsh, hm12, hm13, hj6a1, hj6d1, hj6c1, hj6b1, hj6a2, hj6d2, hj6c2, hj6b2]
     repeat' (first | apply And.intro | intro _)
     all_goals refine call_draw (fun k => k) _ [] (fun _ _ => rfl) (by first | rfl | (simp only [go_sem, hb, hcv, Int.toNat_one, Int.reduceTMod, Int.reduceTDiv, Int.mul_zero, hcq, hs1, W16.ls, W16.sh, W16.unsh, hm12, hm13, hj6a1, hj6d1, hj6c1, hj6b1, hj6a2, hj6d2, hj6c2, hj6b2] <;> rfl)) ((left_16 _).plain fun _ _ h => h) ?_ ?_
     all_goals try (refine And.intro ?_ (And.intro ?_ (And.intro ?_ ?_)) <;> first | rfl | simp only [go_sem])
     all_goals simp only [go_sem, hb, hcv, Int.toNat_one, Int.reduceTMod, Int.reduceTDiv, Int.mul_zero, hcq, hs1, W16.ls, W16.sh, W16.unsh, hm12, hm13, hj6a1, hj6d1, hj6c1, hj6b1, hj6a2, hj6d2, hj6c2, hj6b2]
     all_goals repeat' (first | apply And.intro | intro _)
     refine zhK222 _ _ trivial ?_
     refine sd_k (id := 24) [112, 113, 114, 115, 116, 117, 118, 119, 120, 121, 122] [0, 0, 3, 7, 0, 0, 48, 112, 255, 0, 1023, 2047] [] mixed (by kernel_rfl) (by simp only [go_sem]) fun zK223 zhK223 => ?_
     simp only [go_sem, hb, hcv, Int.toNat_one, Int.reduceTMod, Int.reduceTDiv, Int.mul_zero, hcq, hs1, W16.ls, W16.sh, W16.unsh, hm12, hm13, hj6a1, hj6d1, hj6c1, hj6b1, hj6a2, hj6d2, hj6c2, hj6b2]
     repeat' (first | apply And.intro | intro _)
     refine zhK223 _ _ trivial ?_
     refine sd_k (id := 25) [123, 124, 125, 126, 127, 128, 129, 130, 131, 132, 133, 134, 135] [0, 0, 0, 6, 14, 0, 0, 96, 224, 510, 1022, 0, 4095, 8191] [] mixed (by kernel_rfl) (by simp only [go_sem]) fun zK224 zhK224 => ?_
     simp only [go_sem, hb, hcv, Int.toNat_one, Int.reduceTMod, Int.reduceTDiv, Int.mul_zero, hcq, hs1, W16.ls, W16.sh, W16.unsh, hm12, hm13, hj6a1, hj6d1, hj6c1, hj6b1, hj6a2, hj6d2, hj6c2, hj6b2]
     repeat' (first | apply And.intro | intro _)
     all_goals refine call_draw (fun k => k) _ [] (fun _ _ => rfl) (by first | rfl | (simp only [go_sem, hb, hcv, Int.toNat_one, Int.reduceTMod, Int.reduceTDiv, Int.mul_zero, hcq, hs1, W16.ls, W16.sh, W16.unsh, hm12, hm13, hj6a1, hj6d1, hj6c1, hj6b1, hj6a2, hj6d2, hj6c2, hj6b2] <;> rfl)) ((left_20 _).plain fun _ _ h => h) ?_ ?_
     all_goals try (refine And.intro ?_ (And.intro ?_ (And.intro ?_ ?_)) <;> first | rfl | simp only [go_sem])
     all_goals simp only [go_sem, hb, hcv, Int.toNat_one, Int.reduceTMod, Int.reduceTDiv, Int.mul_zero, hcq, hs1, W16.ls, W16.sh, W16.unsh, hm12, hm13, hj6a1, hj6d1, hj6c1, hj6b1, hj6a2, hj6d2, hj6c2, hj6b2]
     all_goals repeat' (first | apply And.intro | intro _)
     refine zhK224 _ _ trivial ?_
     refine sd_k (id := 26) [136, 137, 138, 139, 140, 141, 142, 143, 144, 145, 146, 147, 148] [0, 0, 3, 7, 0, 0, 48, 112, 0, 496, 1023, 0, 4095, 8191] [] mixed (by kernel_rfl) (by simp only [go_sem]) fun zK225 zhK225 => ?_
     simp only [go_sem, hb, hcv, Int.toNat_one, Int.reduceTMod, Int.reduceTDiv, Int.mul_zero, hcq, hs1, W16.ls, W16.sh, W16.unsh, hm12, hm13, hj6a1, hj6d1, hj6c1, hj6b1, hj6a2, hj6d2, hj6c2, hj6b2]
     repeat' (first | apply And.intro | intro _)
     refine zhK225 _ _ trivial ?_
     refine sd_k (id := 27) [149, 150, 151, 152, 153, 154, 155, 156, 157, 158, 159, 160, 161] [0, 0, 0, 6, 14, 0, 0, 96, 224, 510, 1022, 0, 4095, 8191] [] mixed (by kernel_rfl) (by simp only [go_sem]) fun zK226 zhK226 => ?_
     simp only [go_sem, hb, hcv, Int.toNat_one, Int.reduceTMod, Int.reduceTDiv, Int.mul_zero, hcq, hs1, W16.ls, W16.sh, W16.unsh, hm12, hm13, hj6a1, hj6d1, hj6c1, hj6b1, hj6a2, hj6d2, hj6c2, hj6b2]
     repeat' (first | apply And.intro | intro _)
     all_goals refine call_draw (fun k => k) _ [] (fun _ _ => rfl) (by first | rfl | (simp only [go_sem, hb, hcv, Int.toNat_one, Int.reduceTMod, Int.reduceTDiv, Int.mul_zero, hcq, hs1, W16.ls, W16.sh, W16.unsh, hm12, hm13, hj6a1, hj6d1, hj6c1, hj6b1, hj6a2, hj6d2, hj6c2, hj6b2] <;> rfl)) ((left_24 _).plain fun _ _ h => h) ?_ ?_
     all_goals try (refine And.intro ?_ (And.intro ?_ (And.intro ?_ ?_)) <;> first | rfl | simp only [go_sem])
     all_goals simp only [go_sem, hb, hcv, Int.toNat_one, Int.reduceTMod, Int.reduceTDiv, Int.mul_zero, hcq, hs1, W16.ls, W16.sh, W16.unsh, hm12, hm13, hj6a1, hj6d1, hj6c1, hj6b1, hj6a2, hj6d2, hj6c2, hj6b2]
     all_goals repeat' (first | apply And.intro | intro _)
     refine zhK226 _ _ trivial ?_
     refine sd_k (id := 28) [162, 163, 164, 165, 166, 167, 168, 169, 170, 171, 172] [0, 0, 3, 7, 0, 0, 48, 112, 255, 0, 1023, 2047] [] mixed (by kernel_rfl) (by simp only [go_sem]) fun zK227 zhK227 => ?_
     simp only [go_sem, hb, hcv, Int.toNat_one, Int.reduceTMod, Int.reduceTDiv, Int.mul_zero, hcq, hs1, W16.ls, W16.sh, W16.unsh, hm12, hm13, hj6a1, hj6d1, hj6c1, hj6b1, hj6a2, hj6d2, hj6c2, hj6b2]
     repeat' (first | apply And.intro | intro _)
     refine zhK227 _ _ trivial ?_
     refine draw_k (id := 29) [173, 174, 175, 176, 177, 178, 179, 180, 181, 182, 183, 184, 185] [0, 0, 0, 6, 14, 0, 0, 96, 224, 510, 1022, 0, 4095, 8191] [] mixed (by kernel_rfl) (by simp only [go_sem]) fun zK228 zhK228 => ?_
     simp only [go_sem, hb, hcv, Int.toNat_one, Int.reduceTMod, Int.reduceTDiv, Int.mul_zero, hcq, hs1, W16.ls, W16.sh, W16.unsh, hm12, hm13, hj6a1, hj6d1, hj6c1, hj6b1, hj6a2, hj6d2, hj6c2, hj6b2]
     repeat' (first | apply And.intro | intro _)
     all_goals refine call_draw (fun k => k) _ [] (fun _ _ => rfl) (by first | rfl | (simp only [go_sem, hb, hcv, Int.toNat_one, Int.reduceTMod, Int.reduceTDiv, Int.mul_zero, hcq, hs1, W16.ls, W16.sh, W16.unsh, hm12, hm13, hj6a1, hj6d1, hj6c1, hj6b1, hj6a2, hj6d2, hj6c2, hj6b2] <;> rfl)) ((left_25 _).plain fun _ _ h => h) ?_ ?_
     all_goals try (refine And.intro ?_ (And.intro ?_ (And.intro ?_ ?_)) <;> first | rfl | simp only [go_sem])
     all_goals simp only [go_sem, hb, hcv, Int.toNat_one, Int.reduceTMod, Int.reduceTDiv, Int.mul_zero, hcq, hs1, W16.ls, W16.sh, W16.unsh, hm12, hm13, hj6a1, hj6d1, hj6c1, hj6b1, hj6a2, hj6d2, hj6c2, hj6b2]
     all_goals repeat' (first | apply And.intro | intro _)
     refine zhK228 _ _ trivial ?_
     refine zbn218 _ ?_
     refine zhN217 _ ?_
     refine region_k fun zK229 zhK229 => ?_
     simp only [go_sem, hb, hcv, Int.toNat_one, Int.reduceTMod, Int.reduceTDiv, Int.mul_zero, hcq, hs1, W16.ls, W16.sh, W16.unsh, hm12, hm13, hj6a1, hj6d1, hj6c1, hj6b1, hj6a2, hj6d2, hj6c2, hj6b2]
     repeat' (first | apply And.intro | intro _)
     refine zhK229 _ ?_
     refine zhN214 _ ?_
     refine rnd_forget [14, 15, 16, 67, 68, 69, 70, 71, 72, 73, 74, 75, 76, 77, 78, 79, 80, 81, 82, 83, 84, 85, 86, 87, 88, 89, 90, 91, 92, 93, 94, 95, 96, 97, 98, 99, 100, 101, 102, 103, 104, 105, 106, 107, 108, 109, 110, 111, 112, 113, 114, 115, 116, 117, 118, 119, 120, 121, 122, 123, 124, 125, 126, 127, 128, 129, 130, 131, 132, 133, 134, 135, 136, 137, 138, 139, 140, 141, 142, 143, 144, 145, 146, 147, 148, 149, 150, 151, 152, 153, 154, 155, 156, 157, 158, 159, 160, 161, 162, 163, 164, 165, 166, 167, 168, 169, 170, 171, 172, 173, 174, 175, 176, 177, 178, 179, 180, 181, 182, 183, 184, 185, 186] ?_
     simp only [go_sem, St.forget, fgt]
     refine rnd_k fun zN230 zM230 zhN230 zhM230 => ?_
     refine sr_k fun zK231 zhK231 => ?_
     simp only [go_sem, hb, hcv, Int.toNat_one, Int.reduceTMod, Int.reduceTDiv, Int.mul_zero, hcq, hs1, W16.ls, W16.sh, W16.unsh, hm14, hm15, hj7a1, hj7d1, hj7c1, hj7b1, hj7a2, hj7d2, hj7c2, hj7b2]
     repeat' (first | apply And.intro | intro _)
     refine zhK231 _ ?_
     refine seq_k fun zN232 zM232 zhN232 zhM232 => ?_
     refine condT_k (by first | rfl | (simp [go_sem, hb, hcv, Int.toNat_one, Int.reduceTMod, Int.reduceTDiv, Int.mul_zero, hcq, hs1, W16.ls, W16.sh, W16.unsh, hm14, hm15, hj7a1, hj7d1, hj7c1, hj7b1, hj7a2, hj7d2, hj7c2, hj7b2]; done)) ?_
     refine skip_k ?_
     refine zhN232 _ ?_
     refine seq_k fun zN233 zM233 zhN233 zhM233 => ?_
     refine block_k fun zB234 zbn234 zbx234 zbr234 zbi234 => ?_
     refine sr_k fun zK235 zhK235 => ?_
     simp only [go_sem, hb, hcv, Int.toNat_one, Int.reduceTMod, Int.reduceTDiv, Int.mul_zero, hcq, hs1, W16.ls, W16.sh, W16.unsh, hm14, hm15, hj7a1, hj7d1, hj7c1, hj7b1, hj7a2, hj7d2, hj7c2, hj7b2]
     repeat' (first | apply And.intro | intro _)
     refine zhK235 _ ?_
     refine sr_k fun zK236 zhK236 => ?_
     simp only [go_sem, hb, hcv, Int.toNat_one, Int.reduceTMod, Int.reduceTDiv, Int.mul_zero, hcq, hs1, W16.ls, W16.sh, W16.unsh, hm14, hm15, hj7a1, hj7d1, hj7c1, hj7b1, hj7a2, hj7d2, hj7c2, hj7b2]
     repeat' (first | apply And.intro | intro _)
     all_goals (refine call_fn (caps := [5]) false [(500000, 5)] (fun k => k) ?_ ?_ (fun _ _ => rfl) ?_ (by decide) ?_ (word_14 b hb k hlt) ?_; iterate 4 (focus (first | rfl | (simp only [go_sem, hb, hcv, Int.toNat_one, Int.reduceTMod, Int.reduceTDiv, Int.mul_zero, hcq, hs1, W16.ls, W16.sh, W16.unsh, hm14, hm15, hj7a1, hj7d1, hj7c1, hj7b1, hj7a2, hj7d2, hj7c2, hj7b2] <;> first | done | rfl | simp))))
     all_goals (rintro v m ⟨hR, hm⟩; subst hR; subst hm)
     all_goals (refine And.intro ?_ (And.intro ?_ (And.intro ?_ ?_)); iterate 3 (focus (first | rfl | (simp only [go_sem, hb, hcv, Int.toNat_one, Int.reduceTMod, Int.reduceTDiv, Int.mul_zero, hcq, hs1, W16.ls, W16.sh, W16.unsh, hm14, hm15, hj7a1, hj7d1, hj7c1, hj7b1, hj7a2, hj7d2, hj7c2, hj7b2]; done) | (simp [go_sem, look, hb, hcv, Int.toNat_one, Int.reduceTMod, Int.reduceTDiv, Int.mul_zero, hcq, hs1, W16.ls, W16.sh, W16.unsh, hm14, hm15, hj7a1, hj7d1, hj7c1, hj7b1, hj7a2, hj7d2, hj7c2, hj7b2]; done))))
     all_goals (try simp only [go_sem, hb, hcv, Int.toNat_one, Int.reduceTMod, Int.reduceTDiv, Int.mul_zero, hcq, hs1, W16.ls, W16.sh, W16.unsh, hm14, hm15, hj7a1, hj7d1, hj7c1, hj7b1, hj7a2, hj7d2, hj7c2, hj7b2])
     all_goals (try simp only [go_sem, hb, hcv, Int.toNat_one, Int.reduceTMod, Int.reduceTDiv, Int.mul_zero, hcq, hs1, W16.ls, W16.sh, W16.unsh, hm14, hm15, hj7a1, hj7d1, hj7c1, hj7b1, hj7a2, hj7d2, hj7c2, hj7b2])
     all_goals repeat' (first | apply And.intro | intro _)
     all_goals (refine call_fn (caps := [5]) false [(500000, 5)] (fun k => k) ?_ ?_ (fun _ _ => rfl) ?_ (by decide) ?_ (word_15 b hb k hlt) ?_; iterate 4 (focus (first | rfl | (simp only [go_sem, hb, hcv, Int.toNat_one, Int.reduceTMod, Int.reduceTDiv, Int.mul_zero, hcq, hs1, W16.ls, W16.sh, W16.unsh, hm14, hm15, hj7a1, hj7d1, hj7c1, hj7b1, hj7a2, hj7d2, hj7c2, hj7b2] <;> first | done | rfl | simp))))
     all_goals (rintro v m ⟨hR, hm⟩; subst hR; subst hm)
     all_goals (refine And.intro ?_ (And.intro ?_ (And.intro ?_ ?_)); iterate 3 (focus (first | rfl | (simp only [go_sem, hb, hcv, Int.toNat_one, Int.reduceTMod, Int.reduceTDiv, Int.mul_zero, hcq, hs1, W16.ls, W16.sh, W16.unsh, hm14, hm15, hj7a1, hj7d1, hj7c1, hj7b1, hj7a2, hj7d2, hj7c2, hj7b2]; done) | (simp [go_sem, look, hb, hcv, Int.toNat_one, Int.reduceTMod, Int.reduceTDiv, Int.mul_zero, hcq, hs1, W16.ls, W16.sh, W16.unsh, hm14, hm15, hj7a1, hj7d1, hj7c1, hj7b1, hj7a2, hj7d2, hj7c2, hj7b2]; done))))
     all_goals (try simp only [go_sem, hb, hcv, Int.toNat_one, Int.reduceTMod, Int.reduceTDiv, Int.mul_zero, hcq, hs1, W16.ls, W16.sh, W16.unsh, hm14, hm15, hj7a1, hj7d1, hj7c1, hj7b1, hj7a2, hj7d2, hj7c2, hj7b2])
     all_goals (try simp only [go_sem, hb, hcv, Int.toNat_one, Int.reduceTMod, Int.reduceTDiv, Int.mul_zero, hcq, hs1, W16.ls, W16.sh, W16.unsh, hm14, hm15, hj7a1, hj7d1, hj7c1, hj7b1, hj7a2, hj7d2, hj7c2, hj7b2])
     all_goals repeat' (first | apply And.intro | intro _)
     refine zhK236 _ ?_
     refine sd_k (id := 22) [86, 87, 88, 89, 90, 91, 92, 93, 94, 95, 96, 97, 98] [0, 0, 3, 7, 0, 0, 48, 112, 0, 496, 1023, 0, 4095, 8191] [] mixed (by kernel_rfl) (by simp only [go_sem]) fun zK237 zhK237 => ?_
     simp only [go_sem, hb, hcv, Int.toNat_one, Int.reduceTMod, Int.reduceTDiv, Int.mul_zero, hcq, hs1, W16.ls, W16.sh, W16.unsh, hm14, hm15, hj7a1, hj7d1, hj7c1, hj7b1, hj7a2, hj7d2, hj7c2, hj7b2]
     repeat' (first | apply And.intro | intro _)
     refine zhK237 _ _ trivial ?_
     refine sd_k (id := 23) [99, 100, 101, 102, 103, 104, 105, 106, 107, 108, 109, 110, 111] [0, 0, 0, 6, 14, 0, 0, 96, 224, 510, 1022, 0, 4095, 8191] [] mixed (by kernel_rfl) (by simp only [go_sem]) fun zK238 zhK238 => ?_
     simp only [go_sem, hb, hcv, Int.toNat_one, Int.reduceTMod, Int.reduceTDiv, Int.mul_zero, hcq, hs1, W16.ls, W16.sh, W16.unsh, hm14, hm15, hj7a1, hj7d1, hj7c1, hj7b1, hj7a2, hj7d2, hj7c2, hj7b2]
     repeat' (first | apply And.intro | intro _)
     all_goals refine call_draw (fun k => k) _ [] (fun _ _ => rfl) (by first | rfl | (simp only [go_sem, hb, hcv, Int.toNat_one, Int.reduceTMod, Int.reduceTDiv, Int.mul_zero, hcq, hs1, W16.ls, W16.sh, W16.unsh, hm14, hm15, hj7a1, hj7d1, hj7c1, hj7b1, hj7a2, hj7d2, hj7c2, hj7b2] <;> rfl)) ((left_16 _).plain fun _ _ h => h) ?_ ?_
     all_goals try (refine And.intro ?_ (And.intro ?_ (And.intro ?_ ?_)) <;> first | rfl | simp only [go_sem])
     all_goals simp only [go_sem, hb, hcv, Int.toNat_one, Int.reduceTMod, Int.reduceTDiv, Int.mul_zero, hcq, hs1, W16.ls, W16.sh, W16.unsh, hm14, hm15, hj7a1, hj7d1, hj7c1, hj7b1, hj7a2, hj7d2, hj7c2, hj7b2]
     all_goals repeat' (first | apply And.intro | intro _)
     refine zhK238 _ _ trivial ?_
     refine sd_k (id := 24) [112, 113, 114, 115, 116, 117, 118, 119, 120, 121, 122] [0, 0, 3, 7, 0, 0, 48, 112, 255, 0, 1023, 2047] [] mixed (by kernel_rfl) (by simp only [go_sem]) fun zK239 zhK239 => ?_
     simp only [go_sem, hb, hcv, Int.toNat_one, Int.reduceTMod, Int.reduceTDiv, Int.mul_zero, hcq, hs1, W16.ls, W16.sh, W16.unsh, hm14, hm15, hj7a1, hj7d1, hj7c1, hj7b1, hj7a2, hj7d2, hj7c2, hj7b2]
     repeat' (first | apply And.intro | intro _)
     refine zhK239 _ _ trivial ?_
     refine sd_k (id := 25) [123, 124, 125, 126, 127, 128, 129, 130, 131, 132, 133, 134, 135] [0, 0, 0, 6, 14, 0, 0, 96, 224, 510, 1022, 0, 4095, 8191] [] mixed (by kernel_rfl) (by simp only [go_sem]) fun zK240 zhK240 => ?_
     simp only [go_sem, hb, hcv, Int.toNat_one, Int.reduceTMod, Int.reduceTDiv, Int.mul_zero, hcq, hs1, W16.ls, W16.sh, W16.unsh, hm14, hm15, hj7a1, hj7d1, hj7c1, hj7b1, hj7a2, hj7d2, hj7c2, hj7b2]
     repeat' (first | apply And.intro | intro _)
     all_goals refine call_draw (fun k => k) _ [] (fun _ _ => rfl) (by first | rfl | (simp only [go_sem, hb, hcv, Int.toNat_one, Int.reduceTMod, Int.reduceTDiv, Int.mul_zero, hcq, hs1, W16.ls, W16.sh, W16.unsh, hm14, hm15, hj7a1, hj7d1, hj7c1, hj7b1, hj7a2, hj7d2, hj7c2, hj7b2] <;> rfl)) ((left_20 _).plain fun _ _ h => h) ?_ ?_
     all_goals try (refine And.intro ?_ (And.intro ?_ (And.intro ?_ ?_)) <;> first | rfl | simp only [go_sem])
     all_goals simp only [go_sem, hb, hcv, Int.toNat_one, Int.reduceTMod, Int.reduceTDiv, Int.mul_zero, hcq, hs1, W16.ls, W16.sh, W16.unsh, hm14, hm15, hj7a1, hj7d1, hj7c1, hj7b1, hj7a2, hj7d2, hj7c2, hj7b2]
     all_goals repeat' (first | apply And.intro | intro _)
     refine zhK240 _ _ trivial ?_
     refine sd_k (id := 26) [136, 137, 138, 139, 140, 141, 142, 143, 144, 145, 146, 147, 148] [0, 0, 3, 7, 0, 0, 48, 112, 0, 496, 1023, 0, 4095, 8191] [] mixed (by kernel_rfl) (by simp only [go_sem]) fun zK241 zhK241 => ?_
     simp only [go_sem, hb, hcv, Int.toNat_one, Int.reduceTMod, Int.reduceTDiv, Int.mul_zero, hcq, hs1, W16.ls, W16.sh, W16.unsh, hm14, hm15, hj7a1, hj7d1, hj7c1, hj7b1, hj7a2, hj7d2, hj7c2, hj7b2]
     repeat' (first | apply And.intro | intro _)
     refine zhK241 _ _ trivial ?_
     refine sd_k (id := 27) [149, 150, 151, 152, 153, 154, 155, 156, 157, 158, 159, 160, 161] [0, 0, 0, 6, 14, 0, 0, 96, 224, 510, 1022, 0, 4095, 8191] [] mixed (by kernel_rfl) (by simp only [go_sem]) fun zK242 zhK242 => ?_
     simp only [go_sem, hb, hcv, Int.toNat_one, Int.reduceTMod, Int.reduceTDiv, Int.mul_zero, hcq, hs1, W16.ls, W16.sh, W16.unsh, hm14, hm15, hj7a1, hj7d1, hj7c1, hj7b1, hj7a2, hj7d2, hj7c2, hj7b2]
     repeat' (first | apply And.intro | intro _)
     all_goals refine call_draw (fun k => k) _ [] (fun _ _ => rfl) (by first | rfl | (simp only [go_sem, hb, hcv, Int.toNat_one, Int.reduceTMod, Int.reduceTDiv, Int.mul_zero, hcq, hs1, W16.ls, W16.sh, W16.unsh, hm14, hm15, hj7a1, hj7d1, hj7c1, hj7b1, hj7a2, hj7d2, hj7c2, hj7b2] <;> rfl)) ((left_24 _).plain fun _ _ h => h) ?_ ?_
     all_goals try (refine And.intro ?_ (And.intro ?_ (And.intro ?_ ?_)) <;> first | rfl | simp only [go_sem])
     all_goals simp only [go_sem, hb, hcv, Int.toNat_one, Int.reduceTMod, Int.reduceTDiv, Int.mul_zero, hcq, hs1, W16.ls, W16.sh, W16.unsh, hm14, hm15, hj7a1, hj7d1, hj7c1, hj7b1, hj7a2, hj7d2, hj7c2, hj7b2]
     all_goals repeat' (first | apply And.intro | intro _)
     refine zhK242 _ _ trivial ?_
     refine sd_k (id := 28) [162, 163, 164, 165, 166, 167, 168, 169, 170, 171, 172] [0, 0, 3, 7, 0, 0, 48, 112, 255, 0, 1023, 2047] [] mixed (by kernel_rfl) (by simp only [go_sem]) fun zK243 zhK243 => ?_
     simp only [go_sem, hb, hcv, Int.toNat_one, Int.reduceTMod, Int.reduceTDiv, Int.mul_zero, hcq, hs1, W16.ls, W16.sh, W16.unsh, hm14, hm15, hj7a1, hj7d1, hj7c1, hj7b1, hj7a2, hj7d2, hj7c2, hj7b2]
     repeat' (first | apply And.intro | intro _)
     refine zhK243 _ _ trivial ?_
     refine draw_k (id := 29) [173, 174, 175, 176, 177, 178, 179, 180, 181, 182, 183, 184, 185] [0, 0, 0, 6, 14, 0, 0, 96, 224, 510, 1022, 0, 4095, 8191] [] mixed (by kernel_rfl) (by simp only [go_sem]) fun zK244 zhK244 => ?_
     simp only [go_sem, hb, hcv, Int.toNat_one, Int.reduceTMod, Int.reduceTDiv, Int.mul_zero, hcq, hs1, W16.ls, W16.sh, W16.unsh, hm14, hm15, hj7a1, hj7d1, hj7c1, hj7b1, hj7a2, hj7d2, hj7c2, hj7b2]
     repeat' (first | apply And.intro | intro _)
     all_goals refine call_draw (fun k => k) _ [] (fun _ _ => rfl) (by first | rfl | (simp only [go_sem, hb, hcv, Int.toNat_one, Int.reduceTMod, Int.reduceTDiv, Int.mul_zero, hcq, hs1, W16.ls, W16.sh, W16.unsh, hm14, hm15, hj7a1, hj7d1, hj7c1, hj7b1, hj7a2, hj7d2, hj7c2, hj7b2] <;> rfl)) ((left_25 _).plain fun _ _ h => h) ?_ ?_
     all_goals try (refine And.intro ?_ (And.intro ?_ (And.intro ?_ ?_)) <;> first | rfl | simp only [go_sem])
     all_goals simp only [go_sem, hb, hcv, Int.toNat_one, Int.reduceTMod, Int.reduceTDiv, Int.mul_zero, hcq, hs1, W16.ls, W16.sh, W16.unsh, hm14, hm15, hj7a1, hj7d1, hj7c1, hj7b1, hj7a2, hj7d2, hj7c2, hj7b2]
     all_goals repeat' (first | apply And.intro | intro _)
     refine zhK244 _ _ trivial ?_
     refine zbn234 _ ?_
     refine zhN233 _ ?_
     refine region_k fun zK245 zhK245 => ?_
     simp only [go_sem, hb, hcv, Int.toNat_one, Int.reduceTMod, Int.reduceTDiv, Int.mul_zero, hcq, hs1, W16.ls, W16.sh, W16.unsh, hm14, hm15, hj7a1, hj7d1, hj7c1, hj7b1, hj7a2, hj7d2, hj7c2, hj7b2]
     repeat' (first | apply And.intro | intro _)
     refine zhK245 _ ?_
     refine zhN230 _ ?_
     refine rnd_forget [14, 15, 16, 67, 68, 69, 70, 71, 72, 73, 74, 75, 76, 77, 78, 79, 80, 81, 82, 83, 84, 85, 86, 87, 88, 89, 90, 91, 92, 93, 94, 95, 96, 97, 98, 99, 100, 101, 102, 103, 104, 105, 106, 107, 108, 109, 110, 111, 112, 113, 114, 115, 116, 117, 118, 119, 120, 121, 122, 123, 124, 125, 126, 127, 128, 129, 130, 131, 132, 133, 134, 135, 136, 137, 138, 139, 140, 141, 142, 143, 144, 145, 146, 147, 148, 149, 150, 151, 152, 153, 154, 155, 156, 157, 158, 159, 160, 161, 162, 163, 164, 165, 166, 167, 168, 169, 170, 171, 172, 173, 174, 175, 176, 177, 178, 179, 180, 181, 182, 183, 184, 185, 186] ?_
     simp only [go_sem, St.forget, fgt]
     refine rnd_k fun zN246 zM246 zhN246 zhM246 => ?_
     refine sr_k fun zK247 zhK247 => ?_
     simp only [go_sem, hb, hcv, Int.toNat_one, Int.reduceTMod, Int.reduceTDiv, Int.mul_zero, hcq, hs1, W16.ls, W16.sh, W16.unsh]
     repeat' (first | apply And.intro | intro _)
     refine zhK247 _ ?_
     refine seq_k fun zN248 zM248 zhN248 zhM248 => ?_
     refine condF_k (by first | rfl | (simp [go_sem, hb, hcv, Int.toNat_one, Int.reduceTMod, Int.reduceTDiv, Int.mul_zero, hcq, hs1, W16.ls, W16.sh, W16.unsh]; done)) ?_
     refine exit_k ?_
     refine zhM248 _ _ ?_
     refine zhM246 _ _ ?_
     refine zbx180 _ ?_
     refine zhN178 _ ?_
     refine region_k fun zK249 zhK249 => ?_
     simp only [go_sem, hb, hcv, Int.toNat_one, Int.reduceTMod, Int.reduceTDiv, Int.mul_zero, hcq, hs1, W16.ls, W16.sh, W16.unsh]
     repeat' (first | apply And.intro | intro _)
     all_goals refine call_view (fun k => k) (fun _ _ => rfl) (by first | rfl | (simp only [go_sem, hb, hcv, Int.toNat_one, Int.reduceTMod, Int.reduceTDiv, Int.mul_zero, hcq, hs1, W16.ls, W16.sh, W16.unsh] <;> rfl)) ((shifted_m j4a2 j5a2 j6a2 j7a2 j4b2 j5b2 j6b2 j7b2 j4c2 j5c2 j6c2 j7c2 j4d2 j5d2 j6d2 j7d2).plain fun _ _ h => h) ?_
     all_goals (rintro v m ⟨hR, hm⟩; subst hR; subst hm)
     all_goals refine And.intro (by first | rfl | simp only [go_sem, hb, hcv, Int.toNat_one, Int.reduceTMod, Int.reduceTDiv, Int.mul_zero, hcq, hs1, W16.ls, W16.sh, W16.unsh]) (And.intro (by first | rfl | simp only [go_sem, hb, hcv, Int.toNat_one, Int.reduceTMod, Int.reduceTDiv, Int.mul_zero, hcq, hs1, W16.ls, W16.sh, W16.unsh]) ?_)
     all_goals simp only [go_sem, hb, hcv, Int.toNat_one, Int.reduceTMod, Int.reduceTDiv, Int.mul_zero, hcq, hs1, W16.ls, W16.sh, W16.unsh]
     all_goals repeat' (first | apply And.intro | intro _)
     refine zhK249 _ ?_
     refine zbn175 _ ?_
     refine zhN174 _ ?_
     refine region_k fun zK250 zhK250 => ?_
     simp only [go_sem, hb, hcv, Int.toNat_one, Int.reduceTMod, Int.reduceTDiv, Int.mul_zero, hcq, hs1, W16.ls, W16.sh, W16.unsh]
     repeat' (first | apply And.intro | intro _)
     refine zhK250 _ ?_
     refine zhN171 _ ?_
     refine rnd_forget [13, 14, 15, 16, 61, 62, 63, 64, 65, 66, 67, 68, 69, 70, 71, 72, 73, 74, 75, 76, 77, 78, 79, 80, 81, 82, 83, 84, 85, 86, 87, 88, 89, 90, 91, 92, 93, 94, 95, 96, 97, 98, 99, 100, 101, 102, 103, 104, 105, 106, 107, 108, 109, 110, 111, 112, 113, 114, 115, 116, 117, 118, 119, 120, 121, 122, 123, 124, 125, 126, 127, 128, 129, 130, 131, 132, 133, 134, 135, 136, 137, 138, 139, 140, 141, 142, 143, 144, 145, 146, 147, 148, 149, 150, 151, 152, 153, 154, 155, 156, 157, 158, 159, 160, 161, 162, 163, 164, 165, 166, 167, 168, 169, 170, 171, 172, 173, 174, 175, 176, 177, 178, 179, 180, 181, 182, 183, 184, 185, 186, 187, 188, 189, 190, 191] ?_
     simp only [go_sem, St.forget, fgt]
     refine rnd_k fun zN251 zM251 zhN251 zhM251 => ?_
     refine sr_k fun zK252 zhK252 => ?_
     simp only [go_sem, hb, hcv, Int.toNat_one, Int.reduceTMod, Int.reduceTDiv, Int.mul_zero, hcq, hs1, W16.ls, W16.sh, W16.unsh]
     repeat' (first | apply And.intro | intro _)
     refine zhK252 _ ?_
     refine seq_k fun zN253 zM253 zhN253 zhM253 => ?_
     refine condF_k (by first | rfl | (simp [go_sem, hb, hcv, Int.toNat_one, Int.reduceTMod, Int.reduceTDiv, Int.mul_zero, hcq, hs1, W16.ls, W16.sh, W16.unsh]; done)) ?_
     refine exit_k ?_
     refine zhM253 _ _ ?_
     refine zhM251 _ _ ?_
     refine zbx89 _ ?_
     refine zbn86 _ ?_
     refine zhN85 _ ?_
     refine region_k fun zK254 zhK254 => ?_
     simp only [go_sem, hb, hcv, Int.toNat_one, Int.reduceTMod, Int.reduceTDiv, Int.mul_zero, hcq, hs1, W16.ls, W16.sh, W16.unsh]
     repeat' (first | apply And.intro | intro _)
     refine zhK254 _ ?_
     refine zhN82 ⟨k + 1, hlt⟩ _ ?_ ?_ ?_
     · (exact Nat.sub_lt_sub_left hlt (Nat.lt_succ_self k))
     · (simp only [go_sem, leX, List.cons_append, List.nil_append]; try simp)
     · (simp only [roundB, hw, go_sem, leX, List.cons_append, List.nil_append]; first | done | rfl | (simp only [W16.ls, W16.col, W16.diag, hm0, hm1, hm2, hm3, hm4, hm5, hm6, hm7, hm8, hm9, hm10, hm11, hm12, hm13, hm14, hm15, hmA0, hmB0, hmC0, hmD0, hmA1, hmB1, hmC1, hmD1, hmA2, hmB2, hmC2, hmD2, hmA3, hmB3, hmC3, hmD3, hmA4, hmB4, hmC4, hmD4, hmA5, hmB5, hmC5, hmD5, hmA6, hmB6, hmC6, hmD6, hmA7, hmB7, hmC7, hmD7]; (try simp [leX, look]); done))
   · obtain rfl : k = 10 := by omega
     have hcq : ¬ ((10 : Nat) : Int) < 10 := by omega
     obtain ⟨w, hw⟩ : ∃ w, roundB b 10 Wi = w := ⟨_, rfl⟩
     have hsk : soakB ⟨h0, h1, h2, h3, h4, h5, h6, h7⟩ b len last = outW ⟨h0, h1, h2, h3, h4, h5, h6, h7⟩ w := by rw [soakB, hW, hw]
     simp only [hw]
     obtain ⟨x0, x1, x2, x3, x4, x5, x6, x7, x8, x9, x10, x11, x12, x13, x14, x15⟩ := w
     simp only [W16.ls]
     refine sr_k fun zK255 zhK255 => ?_
     simp only [go_sem, hb, hcv, Int.toNat_one, Int.reduceTMod, Int.reduceTDiv, Int.mul_zero, hcq]
     repeat' (first | apply And.intro | intro _)
     refine zhK255 _ ?_
     refine seq_k fun zN256 zM256 zhN256 zhM256 => ?_
     refine condF_k (by first | rfl | (simp [go_sem, hb, hcv, Int.toNat_one, Int.reduceTMod, Int.reduceTDiv, Int.mul_zero, hcq]; done)) ?_
     refine exit_k ?_
     refine zhM256 _ _ ?_
     refine zhM82 _ _ ?_
     refine zbx81 _ ?_
     refine zhN79 _ ?_
     refine seq_k fun zN257 zM257 zhN257 zhM257 => ?_
     refine sr_k fun zK258 zhK258 => ?_
     simp only [go_sem, hb, hcv, Int.toNat_one, Int.reduceTMod, Int.reduceTDiv, Int.mul_zero, hcq]
     repeat' (first | apply And.intro | intro _)
     refine zhK258 _ ?_
     refine block_k fun zB259 zbn259 zbx259 zbr259 zbi259 => ?_
     refine rounds_k 9 ?_
     refine rnd_k fun zN261 zM261 zhN261 zhM261 => ?_
     refine sr_k fun zK262 zhK262 => ?_
     simp only [go_sem, hb, hcv, Int.toNat_one, Int.reduceTMod, Int.reduceTDiv, Int.mul_zero, hcq]
     repeat' (first | apply And.intro | intro _)
     refine zhK262 _ ?_
     refine seq_k fun zN263 zM263 zhN263 zhM263 => ?_
     refine condT_k (by first | rfl | (simp [go_sem, hb, hcv, Int.toNat_one, Int.reduceTMod, Int.reduceTDiv, Int.mul_zero, hcq]; done)) ?_
     refine skip_k ?_
     refine zhN263 _ ?_
     refine seq_k fun zN264 zM264 zhN264 zhM264 => ?_
     refine block_k fun zB265 zbn265 zbx265 zbr265 zbi265 => ?_
     refine sr_k fun zK266 zhK266 => ?_
     simp only [go_sem, hb, hcv, Int.toNat_one, Int.reduceTMod, Int.reduceTDiv, Int.mul_zero, hcq]
     repeat' (first | apply And.intro | intro _)
     refine zhK266 _ ?_
     refine draw_k (id := 37) [196, 197, 198, 199, 200, 201, 202, 203, 204, 205, 206, 207, 208, 209, 210, 211, 212, 213, 214, 215, 216] [0, 1, 3, 0, 8, 0, 32, 24, 248, 504, 0, 1024, 3072, 0, 8192, 7168, 64512, 130048, 262136, 524287, 1048575, 2097151] [] mixed (by kernel_rfl) (by simp only [go_sem]) fun zK267 zhK267 => ?_
     simp only [go_sem, hb, hcv, Int.toNat_one, Int.reduceTMod, Int.reduceTDiv, Int.mul_zero, hcq]
     repeat' (first | apply And.intro | intro _)
     refine zhK267 _ _ trivial ?_
     refine zbn265 _ ?_
     refine zhN264 _ ?_
     refine region_k fun zK268 zhK268 => ?_
     simp only [go_sem, hb, hcv, Int.toNat_one, Int.reduceTMod, Int.reduceTDiv, Int.mul_zero, hcq]
     repeat' (first | apply And.intro | intro _)
     refine zhK268 _ ?_
     refine zhN261 _ ?_
     refine rnd_forget [17, 194, 195, 196, 197, 198, 199, 200, 201, 202, 203, 204, 205, 206, 207, 208, 209, 210, 211, 212, 213, 214, 215, 216, 217] ?_
     simp only [go_sem, St.forget, fgt]
     refine rnd_k fun zN269 zM269 zhN269 zhM269 => ?_
     refine sr_k fun zK270 zhK270 => ?_
     simp only [go_sem, hb, hcv, Int.toNat_one, Int.reduceTMod, Int.reduceTDiv, Int.mul_zero, hcq]
     repeat' (first | apply And.intro | intro _)
     refine zhK270 _ ?_
     refine seq_k fun zN271 zM271 zhN271 zhM271 => ?_
     refine condT_k (by first | rfl | (simp [go_sem, hb, hcv, Int.toNat_one, Int.reduceTMod, Int.reduceTDiv, Int.mul_zero, hcq]; done)) ?_
     refine skip_k ?_
     refine zhN271 _ ?_
     refine seq_k fun zN272 zM272 zhN272 zhM272 => ?_
     refine block_k fun zB273 zbn273 zbx273 zbr273 zbi273 => ?_
     refine sr_k fun zK274 zhK274 => ?_
     simp only [go_sem, hb, hcv, Int.toNat_one, Int.reduceTMod, Int.reduceTDiv, Int.mul_zero, hcq]
     repeat' (first | apply And.intro | intro _)
     refine zhK274 _ ?_
     refine draw_k (id := 37) [196, 197, 198, 199, 200, 201, 202, 203, 204, 205, 206, 207, 208, 209, 210, 211, 212, 213, 214, 215, 216] [0, 1, 3, 0, 8, 0, 32, 24, 248, 504, 0, 1024, 3072, 0, 8192, 7168, 64512, 130048, 262136, 524287, 1048575, 2097151] [] mixed (by kernel_rfl) (by simp only [go_sem]) fun zK275 zhK275 => ?_
     simp only [go_sem, hb, hcv, Int.toNat_one, Int.reduceTMod, Int.reduceTDiv, Int.mul_zero, hcq]
     repeat' (first | apply And.intro | intro _)
     refine zhK275 _ _ trivial ?_
     refine zbn273 _ ?_
     refine zhN272 _ ?_
     refine region_k fun zK276 zhK276 => ?_
     simp only [go_sem, hb, hcv, Int.toNat_one, Int.reduceTMod, Int.reduceTDiv, Int.mul_zero, hcq]
     repeat' (first | apply And.intro | intro _)
     refine zhK276 _ ?_
     refine zhN269 _ ?_
     refine rnd_forget [17, 194, 195, 196, 197, 198, 199, 200, 201, 202, 203, 204, 205, 206, 207, 208, 209, 210, 211, 212, 213, 214, 215, 216, 217] ?_
     simp only [go_sem, St.forget, fgt]
     refine rnd_k fun zN277 zM277 zhN277 zhM277 => ?_
     refine sr_k fun zK278 zhK278 => ?_
     simp only [go_sem, hb, hcv, Int.toNat_one, Int.reduceTMod, Int.reduceTDiv, Int.mul_zero, hcq]
     repeat' (first | apply And.intro | intro _)
     refine zhK278 _ ?_
     refine seq_k fun zN279 zM279 zhN279 zhM279 => ?_
     refine condT_k (by first | rfl | (simp [go_sem, hb, hcv, Int.toNat_one, Int.reduceTMod, Int.reduceTDiv, Int.mul_zero, hcq]; done)) ?_
     refine skip_k ?_
     refine zhN279 _ ?_
     refine seq_k fun zN280 zM280 zhN280 zhM280 => ?_
     refine block_k fun zB281 zbn281 zbx281 zbr281 zbi281 => ?_
     refine sr_k fun zK282 zhK282 => ?_
     simp only [go_sem, hb, hcv, Int.toNat_one, Int.reduceTMod, Int.reduceTDiv, Int.mul_zero, hcq]
     repeat' (first | apply And.intro | intro _)
     refine zhK282 _ ?_
     refine draw_k (id := 37) [196, 197, 198, 199, 200, 201, 202, 203, 204, 205, 206, 207, 208, 209, 210, 211, 212, 213, 214, 215, 216] [0, 1, 3, 0, 8, 0, 32, 24, 248, 504, 0, 1024, 3072, 0, 8192, 7168, 64512, 130048, 262136, 524287, 1048575, 2097151] [] mixed (by kernel_rfl) (by simp only [go_sem]) fun zK283 zhK283 => ?_
     simp only [go_sem, hb, hcv, Int.toNat_one, Int.reduceTMod, Int.reduceTDiv, Int.mul_zero, hcq]
     repeat' (first | apply And.intro | intro _)
     refine zhK283 _ _ trivial ?_
     refine zbn281 _ ?_
     refine zhN280 _ ?_
     refine region_k fun zK284 zhK284 => ?_
     simp only [go_sem, hb, hcv, Int.toNat_one, Int.reduceTMod, Int.reduceTDiv, Int.mul_zero, hcq]
     repeat' (first | apply And.intro | intro _)
     refine zhK284 _ ?_
     refine zhN277 _ ?_
     refine rnd_forget [17, 194, 195, 196, 197, 198, 199, 200, 201, 202, 203, 204, 205, 206, 207, 208, 209, 210, 211, 212, 213, 214, 215, 216, 217] ?_
     simp only [go_sem, St.forget, fgt]
     refine rnd_k fun zN285 zM285 zhN285 zhM285 => ?_
     refine sr_k fun zK286 zhK286 => ?_
     simp only [go_sem, hb, hcv, Int.toNat_one, Int.reduceTMod, Int.reduceTDiv, Int.mul_zero, hcq]
     repeat' (first | apply And.intro | intro _)
     refine zhK286 _ ?_
     refine seq_k fun zN287 zM287 zhN287 zhM287 => ?_
     refine condT_k (by first | rfl | (simp [go_sem, hb, hcv, Int.toNat_one, Int.reduceTMod, Int.reduceTDiv, Int.mul_zero, hcq]; done)) ?_
     refine skip_k ?_
     refine zhN287 _ ?_
     refine seq_k fun zN288 zM288 zhN288 zhM288 => ?_
     refine block_k fun zB289 zbn289 zbx289 zbr289 zbi289 => ?_
     refine sr_k fun zK290 zhK290 => ?_
     simp only [go_sem, hb, hcv, Int.toNat_one, Int.reduceTMod, Int.reduceTDiv, Int.mul_zero, hcq]
     repeat' (first | apply And.intro | intro _)
     refine zhK290 _ ?_
     refine draw_k (id := 37) [196, 197, 198, 199, 200, 201, 202, 203, 204, 205, 206, 207, 208, 209, 210, 211, 212, 213, 214, 215, 216] [0, 1, 3, 0, 8, 0, 32, 24, 248, 504, 0, 1024, 3072, 0, 8192, 7168, 64512, 130048, 262136, 524287, 1048575, 2097151] [] mixed (by kernel_rfl) (by simp only [go_sem]) fun zK291 zhK291 => ?_
     simp only [go_sem, hb, hcv, Int.toNat_one, Int.reduceTMod, Int.reduceTDiv, Int.mul_zero, hcq]
     repeat' (first | apply And.intro | intro _)
     refine zhK291 _ _ trivial ?_
     refine zbn289 _ ?_
     refine zhN288 _ ?_
     refine region_k fun zK292 zhK292 => ?_
     simp only [go_sem, hb, hcv, Int.toNat_one, Int.reduceTMod, Int.reduceTDiv, Int.mul_zero, hcq]
     repeat' (first | apply And.intro | intro _)
     refine zhK292 _ ?_
     refine zhN285 _ ?_
     refine rnd_forget [17, 194, 195, 196, 197, 198, 199, 200, 201, 202, 203, 204, 205, 206, 207, 208, 209, 210, 211, 212, 213, 214, 215, 216, 217] ?_
     simp only [go_sem, St.forget, fgt]
     refine rnd_k fun zN293 zM293 zhN293 zhM293 => ?_
     refine sr_k fun zK294 zhK294 => ?_
     simp only [go_sem, hb, hcv, Int.toNat_one, Int.reduceTMod, Int.reduceTDiv, Int.mul_zero, hcq]
     repeat' (first | apply And.intro | intro _)
     refine zhK294 _ ?_
     refine seq_k fun zN295 zM295 zhN295 zhM295 => ?_
     refine condT_k (by first | rfl | (simp [go_sem, hb, hcv, Int.toNat_one, Int.reduceTMod, Int.reduceTDiv, Int.mul_zero, hcq]; done)) ?_
     refine skip_k ?_
     refine zhN295 _ ?_
     refine seq_k fun zN296 zM296 zhN296 zhM296 => ?_
     refine block_k fun zB297 zbn297 zbx297 zbr297 zbi297 => ?_
     refine sr_k fun zK298 zhK298 => ?_
     simp only [go_sem, hb, hcv, Int.toNat_one, Int.reduceTMod, Int.reduceTDiv, Int.mul_zero, hcq]
     repeat' (first | apply And.intro | intro _)
     refine zhK298 _ ?_
     refine draw_k (id := 37) [196, 197, 198, 199, 200, 201, 202, 203, 204, 205, 206, 207, 208, 209, 210, 211, 212, 213, 214, 215, 216] [0, 1, 3, 0, 8, 0, 32, 24, 248, 504, 0, 1024, 3072, 0, 8192, 7168, 64512, 130048, 262136, 524287, 1048575, 2097151] [] mixed (by kernel_rfl) (by simp only [go_sem]) fun zK299 zhK299 => ?_
     simp only [go_sem, hb, hcv, Int.toNat_one, Int.reduceTMod, Int.reduceTDiv, Int.mul_zero, hcq]
     repeat' (first | apply And.intro | intro _)
     refine zhK299 _ _ trivial ?_
     refine zbn297 _ ?_
     refine zhN296 _ ?_
     refine region_k fun zK300 zhK300 => ?_
     simp only [go_sem, hb, hcv, Int.toNat_one, Int.reduceTMod, Int.reduceTDiv, Int.mul_zero, hcq]
     repeat' (first | apply And.intro | intro _)
     refine zhK300 _ ?_
     refine zhN293 _ ?_
     refine rnd_forget [17, 194, 195, 196, 197, 198, 199, 200, 201, 202, 203, 204, 205, 206, 207, 208, 209, 210, 211, 212, 213, 214, 215, 216, 217] ?_
     simp only [go_sem, St.forget, fgt]
     refine rnd_k fun zN301 zM301 zhN301 zhM301 => ?_
     refine sr_k fun zK302 zhK302 => ?_
     simp only [go_sem, hb, hcv, Int.toNat_one, Int.reduceTMod, Int.reduceTDiv, Int.mul_zero, hcq]
     repeat' (first | apply And.intro | intro _)
     refine zhK302 _ ?_
     refine seq_k fun zN303 zM303 zhN303 zhM303 => ?_
     refine condT_k (by first | rfl | (simp [go_sem, hb, hcv, Int.toNat_one, Int.reduceTMod, Int.reduceTDiv, Int.mul_zero, hcq]; done)) ?_
     refine skip_k ?_
     refine zhN303 _ ?_
     refine seq_k fun zN304 zM304 zhN304 zhM304 => ?_
     refine block_k fun zB305 zbn305 zbx305 zbr305 zbi305 => ?_
     refine sr_k fun zK306 zhK306 => ?_
     simp only [go_sem, hb, hcv, Int.toNat_one, Int.reduceTMod, Int.reduceTDiv, Int.mul_zero, hcq]
     repeat' (first | apply And.intro | intro _)
     refine zhK306 _ ?_
     refine draw_k (id := 37) [196, 197, 198, 199, 200, 201, 202, 203, 204, 205, 206, 207, 208, 209, 210, 211, 212, 213, 214, 215, 216] [0, 1, 3, 0, 8, 0, 32, 24, 248, 504, 0, 1024, 3072, 0, 8192, 7168, 64512, 130048, 262136, 524287, 1048575, 2097151] [] mixed (by kernel_rfl) (by simp only [go_sem]) fun zK307 zhK307 => ?_
     simp only [go_sem, hb, hcv, Int.toNat_one, Int.reduceTMod, Int.reduceTDiv, Int.mul_zero, hcq]
     repeat' (first | apply And.intro | intro _)
     refine zhK307 _ _ trivial ?_
     refine zbn305 _ ?_
     refine zhN304 _ ?_
     refine region_k fun zK308 zhK308 => ?_
     simp only [go_sem, hb, hcv, Int.toNat_one, Int.reduceTMod, Int.reduceTDiv, Int.mul_zero, hcq]
     repeat' (first | apply And.intro | intro _)
     refine zhK308 _ ?_
     refine zhN301 _ ?_
     refine rnd_forget [17, 194, 195, 196, 197, 198, 199, 200, 201, 202, 203, 204, 205, 206, 207, 208, 209, 210, 211, 212, 213, 214, 215, 216, 217] ?_
     simp only [go_sem, St.forget, fgt]
     refine rnd_k fun zN309 zM309 zhN309 zhM309 => ?_
     refine sr_k fun zK310 zhK310 => ?_
     simp only [go_sem, hb, hcv, Int.toNat_one, Int.reduceTMod, Int.reduceTDiv, Int.mul_zero, hcq]
     repeat' (first | apply And.intro | intro _)
     refine zhK310 _ ?_
     refine seq_k fun zN311 zM311 zhN311 zhM311 => ?_
     refine condT_k (by first | rfl | (simp [go_sem, hb, hcv, Int.toNat_one, Int.reduceTMod, Int.reduceTDiv, Int.mul_zero, hcq]; done)) ?_
     refine skip_k ?_
     refine zhN311 _ ?_
     refine seq_k fun zN312 zM312 zhN312 zhM312 => ?_
     refine block_k fun zB313 zbn313 zbx313 zbr313 zbi313 => ?_
     refine sr_k fun zK314 zhK314 => ?_
     simp only [go_sem, hb, hcv, Int.toNat_one, Int.reduceTMod, Int.reduceTDiv, Int.mul_zero, hcq]
     repeat' (first | apply And.intro | intro _)
     refine zhK314 _ ?_
     refine draw_k (id := 37) [196, 197, 198, 199, 200, 201, 202, 203, 204, 205, 206, 207, 208, 209, 210, 211, 212, 213, 214, 215, 216] [0, 1, 3, 0, 8, 0, 32, 24, 248, 504, 0, 1024, 3072, 0, 8192, 7168, 64512, 130048, 262136, 524287, 1048575, 2097151] [] mixed (by kernel_rfl) (by simp only [go_sem]) fun zK315 zhK315 => ?_
     simp only [go_sem, hb, hcv, Int.toNat_one, Int.reduceTMod, Int.reduceTDiv, Int.mul_zero, hcq]
     repeat' (first | apply And.intro | intro _)
     refine zhK315 _ _ trivial ?_
     refine zbn313 _ ?_
     refine zhN312 _ ?_
     refine region_k fun zK316 zhK316 => ?_
     simp only [go_sem, hb, hcv, Int.toNat_one, Int.reduceTMod, Int.reduceTDiv, Int.mul_zero, hcq]
     repeat' (first | apply And.intro | intro _)
     refine zhK316 _ ?_
     refine zhN309 _ ?_
     refine rnd_forget [17, 194, 195, 196, 197, 198, 199, 200, 201, 202, 203, 204, 205, 206, 207, 208, 209, 210, 211, 212, 213, 214, 215, 216, 217] ?_
     simp only [go_sem, St.forget, fgt]
     refine rnd_k fun zN317 zM317 zhN317 zhM317 => ?_
     refine sr_k fun zK318 zhK318 => ?_
     simp only [go_sem, hb, hcv, Int.toNat_one, Int.reduceTMod, Int.reduceTDiv, Int.mul_zero, hcq]
     repeat' (first | apply And.intro | intro _)
     refine zhK318 _ ?_
     refine seq_k fun zN319 zM319 zhN319 zhM319 => ?_
     refine condT_k (by first | rfl | (simp [go_sem, hb, hcv, Int.toNat_one, Int.reduceTMod, Int.reduceTDiv, Int.mul_zero, hcq]; done)) ?_
     refine skip_k ?_
     refine zhN319 _ ?_
     refine seq_k fun zN320 zM320 zhN320 zhM320 => ?_
     refine block_k fun zB321 zbn321 zbx321 zbr321 zbi321 => ?_
     refine sr_k fun zK322 zhK322 => ?_
     simp only [go_sem, hb, hcv, Int.toNat_one, Int.reduceTMod, Int.reduceTDiv, Int.mul_zero, hcq]
     repeat' (first | apply And.intro | intro _)
     refine zhK322 _ ?_
     refine draw_k (id := 37) [196, 197, 198, 199, 200, 201, 202, 203, 204, 205, 206, 207, 208, 209, 210, 211, 212, 213, 214, 215, 216] [0, 1, 3, 0, 8, 0, 32, 24, 248, 504, 0, 1024, 3072, 0, 8192, 7168, 64512, 130048, 262136, 524287, 1048575, 2097151] [] mixed (by kernel_rfl) (by simp only [go_sem]) fun zK323 zhK323 => ?_
     simp only [go_sem, hb, hcv, Int.toNat_one, Int.reduceTMod, Int.reduceTDiv, Int.mul_zero, hcq]
     repeat' (first | apply And.intro | intro _)
     refine zhK323 _ _ trivial ?_
     refine zbn321 _ ?_
     refine zhN320 _ ?_
     refine region_k fun zK324 zhK324 => ?_
     simp only [go_sem, hb, hcv, Int.toNat_one, Int.reduceTMod, Int.reduceTDiv, Int.mul_zero, hcq]
     repeat' (first | apply And.intro | intro _)
     refine zhK324 _ ?_
     refine zhN317 _ ?_
     refine rnd_forget [17, 194, 195, 196, 197, 198, 199, 200, 201, 202, 203, 204, 205, 206, 207, 208, 209, 210, 211, 212, 213, 214, 215, 216, 217] ?_
     simp only [go_sem, St.forget, fgt]
     refine rnd_k fun zN325 zM325 zhN325 zhM325 => ?_
     refine sr_k fun zK326 zhK326 => ?_
     simp only [go_sem, hb, hcv, Int.toNat_one, Int.reduceTMod, Int.reduceTDiv, Int.mul_zero, hcq]
     repeat' (first | apply And.intro | intro _)
     refine zhK326 _ ?_
     refine seq_k fun zN327 zM327 zhN327 zhM327 => ?_
     refine condF_k (by first | rfl | (simp [go_sem, hb, hcv, Int.toNat_one, Int.reduceTMod, Int.reduceTDiv, Int.mul_zero, hcq]; done)) ?_
     refine exit_k ?_
     refine zhM327 _ _ ?_
     refine zhM325 _ _ ?_
     refine zbx259 _ ?_
     refine zhN257 _ ?_
     refine sr_k fun zK328 zhK328 => ?_
     simp only [go_sem, hb, hcv, Int.toNat_one, Int.reduceTMod, Int.reduceTDiv, Int.mul_zero, hcq]
     repeat' (first | apply And.intro | intro _)
     refine zhK328 _ ?_
     refine ret_k ?_
     simp only [go_sem, hb, hcv, Int.toNat_one, Int.reduceTMod, Int.reduceTDiv, Int.mul_zero, hcq]
     all_goals (exact told_plain rfl ⟨by rw [hsk]; rfl, rfl⟩)
end Bk
end Go.Sy
