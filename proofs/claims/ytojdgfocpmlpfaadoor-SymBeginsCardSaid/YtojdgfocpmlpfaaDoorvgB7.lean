/- Walks: a block squeezed in, as the document tells it. -/
import Derived.Test.YtojdgfocpmlpfaaDoorvgB6
set_option linter.unusedVariables false
set_option linter.unusedSimpArgs false
namespace Go.Sy
open Go.Proofs
attribute [local irreducible] atCall HT runOps runD onC onE onO onG goV goA goS onSt onGuard
theorem word_0 (b : List UInt8) (hb : b.length = 64) (r : Nat) (hr : r < 10) : CtM Tryd.prog 46 ([.w (.one (.pl (.i (r : Int)))), .w (.one (.pl (.i 0)))] ++ [500000].map fun k => .w (.one (.p k []))) [(500000, ⟨false, [.pl (.str b)]⟩)] (fun v m => v = .w (.one (.pl (.u32 (mixW b r 0)))) ∧ m = [(500000, ⟨false, [.pl (.str b)]⟩)]) := word_c b hb r 0 hr (by decide)
theorem word_1 (b : List UInt8) (hb : b.length = 64) (r : Nat) (hr : r < 10) : CtM Tryd.prog 46 ([.w (.one (.pl (.i (r : Int)))), .w (.one (.pl (.i 1)))] ++ [500000].map fun k => .w (.one (.p k []))) [(500000, ⟨false, [.pl (.str b)]⟩)] (fun v m => v = .w (.one (.pl (.u32 (mixW b r 1)))) ∧ m = [(500000, ⟨false, [.pl (.str b)]⟩)]) := word_c b hb r 1 hr (by decide)
theorem word_2 (b : List UInt8) (hb : b.length = 64) (r : Nat) (hr : r < 10) : CtM Tryd.prog 46 ([.w (.one (.pl (.i (r : Int)))), .w (.one (.pl (.i 2)))] ++ [500000].map fun k => .w (.one (.p k []))) [(500000, ⟨false, [.pl (.str b)]⟩)] (fun v m => v = .w (.one (.pl (.u32 (mixW b r 2)))) ∧ m = [(500000, ⟨false, [.pl (.str b)]⟩)]) := word_c b hb r 2 hr (by decide)
theorem word_3 (b : List UInt8) (hb : b.length = 64) (r : Nat) (hr : r < 10) : CtM Tryd.prog 46 ([.w (.one (.pl (.i (r : Int)))), .w (.one (.pl (.i 3)))] ++ [500000].map fun k => .w (.one (.p k []))) [(500000, ⟨false, [.pl (.str b)]⟩)] (fun v m => v = .w (.one (.pl (.u32 (mixW b r 3)))) ∧ m = [(500000, ⟨false, [.pl (.str b)]⟩)]) := word_c b hb r 3 hr (by decide)
theorem word_4 (b : List UInt8) (hb : b.length = 64) (r : Nat) (hr : r < 10) : CtM Tryd.prog 46 ([.w (.one (.pl (.i (r : Int)))), .w (.one (.pl (.i 4)))] ++ [500000].map fun k => .w (.one (.p k []))) [(500000, ⟨false, [.pl (.str b)]⟩)] (fun v m => v = .w (.one (.pl (.u32 (mixW b r 4)))) ∧ m = [(500000, ⟨false, [.pl (.str b)]⟩)]) := word_c b hb r 4 hr (by decide)
theorem word_5 (b : List UInt8) (hb : b.length = 64) (r : Nat) (hr : r < 10) : CtM Tryd.prog 46 ([.w (.one (.pl (.i (r : Int)))), .w (.one (.pl (.i 5)))] ++ [500000].map fun k => .w (.one (.p k []))) [(500000, ⟨false, [.pl (.str b)]⟩)] (fun v m => v = .w (.one (.pl (.u32 (mixW b r 5)))) ∧ m = [(500000, ⟨false, [.pl (.str b)]⟩)]) := word_c b hb r 5 hr (by decide)
theorem word_6 (b : List UInt8) (hb : b.length = 64) (r : Nat) (hr : r < 10) : CtM Tryd.prog 46 ([.w (.one (.pl (.i (r : Int)))), .w (.one (.pl (.i 6)))] ++ [500000].map fun k => .w (.one (.p k []))) [(500000, ⟨false, [.pl (.str b)]⟩)] (fun v m => v = .w (.one (.pl (.u32 (mixW b r 6)))) ∧ m = [(500000, ⟨false, [.pl (.str b)]⟩)]) := word_c b hb r 6 hr (by decide)
theorem word_7 (b : List UInt8) (hb : b.length = 64) (r : Nat) (hr : r < 10) : CtM Tryd.prog 46 ([.w (.one (.pl (.i (r : Int)))), .w (.one (.pl (.i 7)))] ++ [500000].map fun k => .w (.one (.p k []))) [(500000, ⟨false, [.pl (.str b)]⟩)] (fun v m => v = .w (.one (.pl (.u32 (mixW b r 7)))) ∧ m = [(500000, ⟨false, [.pl (.str b)]⟩)]) := word_c b hb r 7 hr (by decide)
theorem word_8 (b : List UInt8) (hb : b.length = 64) (r : Nat) (hr : r < 10) : CtM Tryd.prog 46 ([.w (.one (.pl (.i (r : Int)))), .w (.one (.pl (.i 8)))] ++ [500000].map fun k => .w (.one (.p k []))) [(500000, ⟨false, [.pl (.str b)]⟩)] (fun v m => v = .w (.one (.pl (.u32 (mixW b r 8)))) ∧ m = [(500000, ⟨false, [.pl (.str b)]⟩)]) := word_c b hb r 8 hr (by decide)
theorem word_9 (b : List UInt8) (hb : b.length = 64) (r : Nat) (hr : r < 10) : CtM Tryd.prog 46 ([.w (.one (.pl (.i (r : Int)))), .w (.one (.pl (.i 9)))] ++ [500000].map fun k => .w (.one (.p k []))) [(500000, ⟨false, [.pl (.str b)]⟩)] (fun v m => v = .w (.one (.pl (.u32 (mixW b r 9)))) ∧ m = [(500000, ⟨false, [.pl (.str b)]⟩)]) := word_c b hb r 9 hr (by decide)
theorem word_10 (b : List UInt8) (hb : b.length = 64) (r : Nat) (hr : r < 10) : CtM Tryd.prog 46 ([.w (.one (.pl (.i (r : Int)))), .w (.one (.pl (.i 10)))] ++ [500000].map fun k => .w (.one (.p k []))) [(500000, ⟨false, [.pl (.str b)]⟩)] (fun v m => v = .w (.one (.pl (.u32 (mixW b r 10)))) ∧ m = [(500000, ⟨false, [.pl (.str b)]⟩)]) := word_c b hb r 10 hr (by decide)
theorem word_11 (b : List UInt8) (hb : b.length = 64) (r : Nat) (hr : r < 10) : CtM Tryd.prog 46 ([.w (.one (.pl (.i (r : Int)))), .w (.one (.pl (.i 11)))] ++ [500000].map fun k => .w (.one (.p k []))) [(500000, ⟨false, [.pl (.str b)]⟩)] (fun v m => v = .w (.one (.pl (.u32 (mixW b r 11)))) ∧ m = [(500000, ⟨false, [.pl (.str b)]⟩)]) := word_c b hb r 11 hr (by decide)
theorem word_12 (b : List UInt8) (hb : b.length = 64) (r : Nat) (hr : r < 10) : CtM Tryd.prog 46 ([.w (.one (.pl (.i (r : Int)))), .w (.one (.pl (.i 12)))] ++ [500000].map fun k => .w (.one (.p k []))) [(500000, ⟨false, [.pl (.str b)]⟩)] (fun v m => v = .w (.one (.pl (.u32 (mixW b r 12)))) ∧ m = [(500000, ⟨false, [.pl (.str b)]⟩)]) := word_c b hb r 12 hr (by decide)
theorem word_13 (b : List UInt8) (hb : b.length = 64) (r : Nat) (hr : r < 10) : CtM Tryd.prog 46 ([.w (.one (.pl (.i (r : Int)))), .w (.one (.pl (.i 13)))] ++ [500000].map fun k => .w (.one (.p k []))) [(500000, ⟨false, [.pl (.str b)]⟩)] (fun v m => v = .w (.one (.pl (.u32 (mixW b r 13)))) ∧ m = [(500000, ⟨false, [.pl (.str b)]⟩)]) := word_c b hb r 13 hr (by decide)
theorem word_14 (b : List UInt8) (hb : b.length = 64) (r : Nat) (hr : r < 10) : CtM Tryd.prog 46 ([.w (.one (.pl (.i (r : Int)))), .w (.one (.pl (.i 14)))] ++ [500000].map fun k => .w (.one (.p k []))) [(500000, ⟨false, [.pl (.str b)]⟩)] (fun v m => v = .w (.one (.pl (.u32 (mixW b r 14)))) ∧ m = [(500000, ⟨false, [.pl (.str b)]⟩)]) := word_c b hb r 14 hr (by decide)
theorem word_15 (b : List UInt8) (hb : b.length = 64) (r : Nat) (hr : r < 10) : CtM Tryd.prog 46 ([.w (.one (.pl (.i (r : Int)))), .w (.one (.pl (.i 15)))] ++ [500000].map fun k => .w (.one (.p k []))) [(500000, ⟨false, [.pl (.str b)]⟩)] (fun v m => v = .w (.one (.pl (.u32 (mixW b r 15)))) ∧ m = [(500000, ⟨false, [.pl (.str b)]⟩)]) := word_c b hb r 15 hr (by decide)
set_option maxHeartbeats 8000000 in
set_option maxRecDepth 100000 in
theorem squeezed_ (h0 h1 h2 h3 h4 h5 h6 h7 : UInt32) (b : List UInt8) (hb : b.length = 64) (len : Nat) (hl : len ≤ 1073741824) (last : Bool) :
 CtM Tryd.prog 36 [.w (.agg [.pl (.u32 h0), .pl (.u32 h1), .pl (.u32 h2), .pl (.u32 h3), .pl (.u32 h4), .pl (.u32 h5), .pl (.u32 h6), .pl (.u32 h7)]), .w (.one (.pl (.str b))), .w (.one (.pl (.i ((len : Nat) : Int)))), .w (.one (.pl (.b last)))] [(1000001, ⟨false, [.pl (.u32 1779033703), .pl (.u32 3144134277), .pl (.u32 1013904242), .pl (.u32 2773480762), .pl (.u32 1359893119), .pl (.u32 2600822924), .pl (.u32 528734635), .pl (.u32 1541459225)]⟩)] (Told (fun v m => v = .w (.agg (soakB ⟨h0, h1, h2, h3, h4, h5, h6, h7⟩ b len last).ls) ∧ m = [])) := by
 have hcv : UInt32.ofNat (((len : Nat) : Int) % 4294967296).toNat = UInt32.ofNat len := by
  rw [show (((len : Nat) : Int) % 4294967296).toNat = len from by omega]
 refine CtM.k Tryd.func36 rfl Tryd.ntmps36 (congrArg Array.toList Tryd.results36) (by simp) fun w0 ro may fx => ?_
 refine sr_k fun K1 hK1 => ?_
 simp only [go_sem, hb, hcv, Int.toNat_one, Int.reduceTMod, Int.reduceTDiv, Int.mul_zero]
 repeat' (first | apply And.intro | intro _)
 refine hK1 _ ?_
 refine sr_k fun K2 hK2 => ?_
 simp only [go_sem, hb, hcv, Int.toNat_one, Int.reduceTMod, Int.reduceTDiv, Int.mul_zero]
 repeat' (first | apply And.intro | intro _)
 refine hK2 _ ?_
 refine seq_k fun N3 M3 hN3 hM3 => ?_
 refine sr_k fun K4 hK4 => ?_
 simp only [go_sem, hb, hcv, Int.toNat_one, Int.reduceTMod, Int.reduceTDiv, Int.mul_zero]
 repeat' (first | apply And.intro | intro _)
 refine hK4 _ ?_
 refine block_k fun B5 bn5 bx5 br5 bi5 => ?_
 refine rounds_k 9 ?_
 refine rnd_k fun N7 M7 hN7 hM7 => ?_
 refine sr_k fun K8 hK8 => ?_
 simp only [go_sem, hb, hcv, Int.toNat_one, Int.reduceTMod, Int.reduceTDiv, Int.mul_zero]
 repeat' (first | apply And.intro | intro _)
 refine hK8 _ ?_
 refine seq_k fun N9 M9 hN9 hM9 => ?_
 refine condT_k (by first | rfl | (simp [go_sem, hb, hcv, Int.toNat_one, Int.reduceTMod, Int.reduceTDiv, Int.mul_zero]; done)) ?_
 refine skip_k ?_
 refine hN9 _ ?_
 refine seq_k fun N10 M10 hN10 hM10 => ?_
 refine block_k fun B11 bn11 bx11 br11 bi11 => ?_
 refine sr_k fun K12 hK12 => ?_
 simp only [go_sem, hb, hcv, Int.toNat_one, Int.reduceTMod, Int.reduceTDiv, Int.mul_zero]
 repeat' (first | apply And.intro | intro _)
 refine hK12 _ ?_
 refine draw_k [21, 22, 23, 24, 25, 26, 27, 28, 29, 30, 31, 32, 33, 34, 35, 36, 37, 38, 39] [0, 1, 0, 4, 0, 16, 48, 0, 128, 0, 512, 1536, 0, 4096, 12288, 3, 36367, 101903, 112, 524287, 1048575] [(4, 17), (5, 17), (6, 17), (7, 17), (8, 17), (12, 17), (13, 17), (14, 17), (17, 18)] mixed (by kernel_rfl) (by simp only [go_sem]) fun K13 hK13 => ?_
 simp only [go_sem, hb, hcv, Int.toNat_one, Int.reduceTMod, Int.reduceTDiv, Int.mul_zero]
 repeat' (first | apply And.intro | intro _)
 refine hK13 _ _ ?_ ?_
 · first | trivial | (simp only [go_sem]; done) | (simp only [go_sem]; simp; done) | (simp only [go_sem]; simp; simp only [go_sem])
 refine bn11 _ ?_
 refine hN10 _ ?_
 refine region_k fun K14 hK14 => ?_
 simp only [go_sem, hb, hcv, Int.toNat_one, Int.reduceTMod, Int.reduceTDiv, Int.mul_zero]
 repeat' (first | apply And.intro | intro _)
 refine hK14 _ ?_
 refine hN7 _ ?_
 refine rnd_forget [10, 19, 20, 21, 22, 23, 24, 25, 26, 27, 28, 29, 30, 31, 32, 33, 34, 35, 36, 37, 38, 39, 40] ?_
 simp only [go_sem, St.forget, fgt]
 refine rnd_k fun N15 M15 hN15 hM15 => ?_
 refine sr_k fun K16 hK16 => ?_
 simp only [go_sem, hb, hcv, Int.toNat_one, Int.reduceTMod, Int.reduceTDiv, Int.mul_zero]
 repeat' (first | apply And.intro | intro _)
 refine hK16 _ ?_
 refine seq_k fun N17 M17 hN17 hM17 => ?_
 refine condT_k (by first | rfl | (simp [go_sem, hb, hcv, Int.toNat_one, Int.reduceTMod, Int.reduceTDiv, Int.mul_zero]; done)) ?_
 refine skip_k ?_
 refine hN17 _ ?_
 refine seq_k fun N18 M18 hN18 hM18 => ?_
 refine block_k fun B19 bn19 bx19 br19 bi19 => ?_
 refine sr_k fun K20 hK20 => ?_
 simp only [go_sem, hb, hcv, Int.toNat_one, Int.reduceTMod, Int.reduceTDiv, Int.mul_zero]
 repeat' (first | apply And.intro | intro _)
 refine hK20 _ ?_
 refine draw_k [21, 22, 23, 24, 25, 26, 27, 28, 29, 30, 31, 32, 33, 34, 35, 36, 37, 38, 39] [0, 1, 0, 4, 0, 16, 48, 0, 128, 0, 512, 1536, 0, 4096, 12288, 3, 36367, 101903, 112, 524287, 1048575] [(4, 17), (5, 17), (6, 17), (7, 17), (8, 17), (12, 17), (13, 17), (14, 17), (17, 18)] mixed (by kernel_rfl) (by simp only [go_sem]) fun K21 hK21 => ?_
 simp only [go_sem, hb, hcv, Int.toNat_one, Int.reduceTMod, Int.reduceTDiv, Int.mul_zero]
 repeat' (first | apply And.intro | intro _)
 refine hK21 _ _ ?_ ?_
 · first | trivial | (simp only [go_sem]; done) | (simp only [go_sem]; simp; done) | (simp only [go_sem]; simp; simp only [go_sem])
 refine bn19 _ ?_
 refine hN18 _ ?_
 refine region_k fun K22 hK22 => ?_
 simp only [go_sem, hb, hcv, Int.toNat_one, Int.reduceTMod, Int.reduceTDiv, Int.mul_zero]
 repeat' (first | apply And.intro | intro _)
 refine hK22 _ ?_
 refine hN15 _ ?_
 refine rnd_forget [10, 19, 20, 21, 22, 23, 24, 25, 26, 27, 28, 29, 30, 31, 32, 33, 34, 35, 36, 37, 38, 39, 40] ?_
 simp only [go_sem, St.forget, fgt]
 refine rnd_k fun N23 M23 hN23 hM23 => ?_
 refine sr_k fun K24 hK24 => ?_
 simp only [go_sem, hb, hcv, Int.toNat_one, Int.reduceTMod, Int.reduceTDiv, Int.mul_zero]
 repeat' (first | apply And.intro | intro _)
 refine hK24 _ ?_
 refine seq_k fun N25 M25 hN25 hM25 => ?_
 refine condT_k (by first | rfl | (simp [go_sem, hb, hcv, Int.toNat_one, Int.reduceTMod, Int.reduceTDiv, Int.mul_zero]; done)) ?_
 refine skip_k ?_
 refine hN25 _ ?_
 refine seq_k fun N26 M26 hN26 hM26 => ?_
 refine block_k fun B27 bn27 bx27 br27 bi27 => ?_
 refine sr_k fun K28 hK28 => ?_
 simp only [go_sem, hb, hcv, Int.toNat_one, Int.reduceTMod, Int.reduceTDiv, Int.mul_zero]
 repeat' (first | apply And.intro | intro _)
 refine hK28 _ ?_
 refine draw_k [21, 22, 23, 24, 25, 26, 27, 28, 29, 30, 31, 32, 33, 34, 35, 36, 37, 38, 39] [0, 1, 0, 4, 0, 16, 48, 0, 128, 0, 512, 1536, 0, 4096, 12288, 3, 36367, 101903, 112, 524287, 1048575] [(4, 17), (5, 17), (6, 17), (7, 17), (8, 17), (12, 17), (13, 17), (14, 17), (17, 18)] mixed (by kernel_rfl) (by simp only [go_sem]) fun K29 hK29 => ?_
 simp only [go_sem, hb, hcv, Int.toNat_one, Int.reduceTMod, Int.reduceTDiv, Int.mul_zero]
 repeat' (first | apply And.intro | intro _)
 refine hK29 _ _ ?_ ?_
 · first | trivial | (simp only [go_sem]; done) | (simp only [go_sem]; simp; done) | (simp only [go_sem]; simp; simp only [go_sem])
 refine bn27 _ ?_
 refine hN26 _ ?_
 refine region_k fun K30 hK30 => ?_
 simp only [go_sem, hb, hcv, Int.toNat_one, Int.reduceTMod, Int.reduceTDiv, Int.mul_zero]
 repeat' (first | apply And.intro | intro _)
 refine hK30 _ ?_
 refine hN23 _ ?_
 refine rnd_forget [10, 19, 20, 21, 22, 23, 24, 25, 26, 27, 28, 29, 30, 31, 32, 33, 34, 35, 36, 37, 38, 39, 40] ?_
 simp only [go_sem, St.forget, fgt]
 refine rnd_k fun N31 M31 hN31 hM31 => ?_
 refine sr_k fun K32 hK32 => ?_
 simp only [go_sem, hb, hcv, Int.toNat_one, Int.reduceTMod, Int.reduceTDiv, Int.mul_zero]
 repeat' (first | apply And.intro | intro _)
 refine hK32 _ ?_
 refine seq_k fun N33 M33 hN33 hM33 => ?_
 refine condT_k (by first | rfl | (simp [go_sem, hb, hcv, Int.toNat_one, Int.reduceTMod, Int.reduceTDiv, Int.mul_zero]; done)) ?_
 refine skip_k ?_
 refine hN33 _ ?_
 refine seq_k fun N34 M34 hN34 hM34 => ?_
 refine block_k fun B35 bn35 bx35 br35 bi35 => ?_
 refine sr_k fun K36 hK36 => ?_
 simp only [go_sem, hb, hcv, Int.toNat_one, Int.reduceTMod, Int.reduceTDiv, Int.mul_zero]
 repeat' (first | apply And.intro | intro _)
 refine hK36 _ ?_
 refine draw_k [21, 22, 23, 24, 25, 26, 27, 28, 29, 30, 31, 32, 33, 34, 35, 36, 37, 38, 39] [0, 1, 0, 4, 0, 16, 48, 0, 128, 0, 512, 1536, 0, 4096, 12288, 3, 36367, 101903, 112, 524287, 1048575] [(4, 17), (5, 17), (6, 17), (7, 17), (8, 17), (12, 17), (13, 17), (14, 17), (17, 18)] mixed (by kernel_rfl) (by simp only [go_sem]) fun K37 hK37 => ?_
 simp only [go_sem, hb, hcv, Int.toNat_one, Int.reduceTMod, Int.reduceTDiv, Int.mul_zero]
 repeat' (first | apply And.intro | intro _)
 refine hK37 _ _ ?_ ?_
 · first | trivial | (simp only [go_sem]; done) | (simp only [go_sem]; simp; done) | (simp only [go_sem]; simp; simp only [go_sem])
 refine bn35 _ ?_
 refine hN34 _ ?_
 refine region_k fun K38 hK38 => ?_
 simp only [go_sem, hb, hcv, Int.toNat_one, Int.reduceTMod, Int.reduceTDiv, Int.mul_zero]
 repeat' (first | apply And.intro | intro _)
 refine hK38 _ ?_
 refine hN31 _ ?_
 refine rnd_forget [10, 19, 20, 21, 22, 23, 24, 25, 26, 27, 28, 29, 30, 31, 32, 33, 34, 35, 36, 37, 38, 39, 40] ?_
 simp only [go_sem, St.forget, fgt]
 refine rnd_k fun N39 M39 hN39 hM39 => ?_
 refine sr_k fun K40 hK40 => ?_
 simp only [go_sem, hb, hcv, Int.toNat_one, Int.reduceTMod, Int.reduceTDiv, Int.mul_zero]
 repeat' (first | apply And.intro | intro _)
 refine hK40 _ ?_
 refine seq_k fun N41 M41 hN41 hM41 => ?_
 refine condT_k (by first | rfl | (simp [go_sem, hb, hcv, Int.toNat_one, Int.reduceTMod, Int.reduceTDiv, Int.mul_zero]; done)) ?_
 refine skip_k ?_
 refine hN41 _ ?_
 refine seq_k fun N42 M42 hN42 hM42 => ?_
 refine block_k fun B43 bn43 bx43 br43 bi43 => ?_
 refine sr_k fun K44 hK44 => ?_
 simp only [go_sem, hb, hcv, Int.toNat_one, Int.reduceTMod, Int.reduceTDiv, Int.mul_zero]
 repeat' (first | apply And.intro | intro _)
 refine hK44 _ ?_
 refine draw_k [21, 22, 23, 24, 25, 26, 27, 28, 29, 30, 31, 32, 33, 34, 35, 36, 37, 38, 39] [0, 1, 0, 4, 0, 16, 48, 0, 128, 0, 512, 1536, 0, 4096, 12288, 3, 36367, 101903, 112, 524287, 1048575] [(4, 17), (5, 17), (6, 17), (7, 17), (8, 17), (12, 17), (13, 17), (14, 17), (17, 18)] mixed (by kernel_rfl) (by simp only [go_sem]) fun K45 hK45 => ?_
 simp only [go_sem, hb, hcv, Int.toNat_one, Int.reduceTMod, Int.reduceTDiv, Int.mul_zero]
 repeat' (first | apply And.intro | intro _)
 refine hK45 _ _ ?_ ?_
 · first | trivial | (simp only [go_sem]; done) | (simp only [go_sem]; simp; done) | (simp only [go_sem]; simp; simp only [go_sem])
 refine bn43 _ ?_
 refine hN42 _ ?_
 refine region_k fun K46 hK46 => ?_
 simp only [go_sem, hb, hcv, Int.toNat_one, Int.reduceTMod, Int.reduceTDiv, Int.mul_zero]
 repeat' (first | apply And.intro | intro _)
 refine hK46 _ ?_
 refine hN39 _ ?_
 refine rnd_forget [10, 19, 20, 21, 22, 23, 24, 25, 26, 27, 28, 29, 30, 31, 32, 33, 34, 35, 36, 37, 38, 39, 40] ?_
 simp only [go_sem, St.forget, fgt]
 refine rnd_k fun N47 M47 hN47 hM47 => ?_
 refine sr_k fun K48 hK48 => ?_
 simp only [go_sem, hb, hcv, Int.toNat_one, Int.reduceTMod, Int.reduceTDiv, Int.mul_zero]
 repeat' (first | apply And.intro | intro _)
 refine hK48 _ ?_
 refine seq_k fun N49 M49 hN49 hM49 => ?_
 refine condT_k (by first | rfl | (simp [go_sem, hb, hcv, Int.toNat_one, Int.reduceTMod, Int.reduceTDiv, Int.mul_zero]; done)) ?_
 refine skip_k ?_
 refine hN49 _ ?_
 refine seq_k fun N50 M50 hN50 hM50 => ?_
 refine block_k fun B51 bn51 bx51 br51 bi51 => ?_
 refine sr_k fun K52 hK52 => ?_
 simp only [go_sem, hb, hcv, Int.toNat_one, Int.reduceTMod, Int.reduceTDiv, Int.mul_zero]
 repeat' (first | apply And.intro | intro _)
 refine hK52 _ ?_
 refine draw_k [21, 22, 23, 24, 25, 26, 27, 28, 29, 30, 31, 32, 33, 34, 35, 36, 37, 38, 39] [0, 1, 0, 4, 0, 16, 48, 0, 128, 0, 512, 1536, 0, 4096, 12288, 3, 36367, 101903, 112, 524287, 1048575] [(4, 17), (5, 17), (6, 17), (7, 17), (8, 17), (12, 17), (13, 17), (14, 17), (17, 18)] mixed (by kernel_rfl) (by simp only [go_sem]) fun K53 hK53 => ?_
 simp only [go_sem, hb, hcv, Int.toNat_one, Int.reduceTMod, Int.reduceTDiv, Int.mul_zero]
 repeat' (first | apply And.intro | intro _)
 refine hK53 _ _ ?_ ?_
 · first | trivial | (simp only [go_sem]; done) | (simp only [go_sem]; simp; done) | (simp only [go_sem]; simp; simp only [go_sem])
 refine bn51 _ ?_
 refine hN50 _ ?_
 refine region_k fun K54 hK54 => ?_
 simp only [go_sem, hb, hcv, Int.toNat_one, Int.reduceTMod, Int.reduceTDiv, Int.mul_zero]
 repeat' (first | apply And.intro | intro _)
 refine hK54 _ ?_
 refine hN47 _ ?_
 refine rnd_forget [10, 19, 20, 21, 22, 23, 24, 25, 26, 27, 28, 29, 30, 31, 32, 33, 34, 35, 36, 37, 38, 39, 40] ?_
 simp only [go_sem, St.forget, fgt]
 refine rnd_k fun N55 M55 hN55 hM55 => ?_
 refine sr_k fun K56 hK56 => ?_
 simp only [go_sem, hb, hcv, Int.toNat_one, Int.reduceTMod, Int.reduceTDiv, Int.mul_zero]
 repeat' (first | apply And.intro | intro _)
 refine hK56 _ ?_
 refine seq_k fun N57 M57 hN57 hM57 => ?_
 refine condT_k (by first | rfl | (simp [go_sem, hb, hcv, Int.toNat_one, Int.reduceTMod, Int.reduceTDiv, Int.mul_zero]; done)) ?_
 refine skip_k ?_
 refine hN57 _ ?_
 refine seq_k fun N58 M58 hN58 hM58 => ?_
 refine block_k fun B59 bn59 bx59 br59 bi59 => ?_
 refine sr_k fun K60 hK60 => ?_
 simp only [go_sem, hb, hcv, Int.toNat_one, Int.reduceTMod, Int.reduceTDiv, Int.mul_zero]
 repeat' (first | apply And.intro | intro _)
 refine hK60 _ ?_
 refine draw_k [21, 22, 23, 24, 25, 26, 27, 28, 29, 30, 31, 32, 33, 34, 35, 36, 37, 38, 39] [0, 1, 0, 4, 0, 16, 48, 0, 128, 0, 512, 1536, 0, 4096, 12288, 3, 36367, 101903, 112, 524287, 1048575] [(4, 17), (5, 17), (6, 17), (7, 17), (8, 17), (12, 17), (13, 17), (14, 17), (17, 18)] mixed (by kernel_rfl) (by simp only [go_sem]) fun K61 hK61 => ?_
 simp only [go_sem, hb, hcv, Int.toNat_one, Int.reduceTMod, Int.reduceTDiv, Int.mul_zero]
 repeat' (first | apply And.intro | intro _)
 refine hK61 _ _ ?_ ?_
 · first | trivial | (simp only [go_sem]; done) | (simp only [go_sem]; simp; done) | (simp only [go_sem]; simp; simp only [go_sem])
 refine bn59 _ ?_
 refine hN58 _ ?_
 refine region_k fun K62 hK62 => ?_
 simp only [go_sem, hb, hcv, Int.toNat_one, Int.reduceTMod, Int.reduceTDiv, Int.mul_zero]
 repeat' (first | apply And.intro | intro _)
 refine hK62 _ ?_
 refine hN55 _ ?_
 refine rnd_forget [10, 19, 20, 21, 22, 23, 24, 25, 26, 27, 28, 29, 30, 31, 32, 33, 34, 35, 36, 37, 38, 39, 40] ?_
 simp only [go_sem, St.forget, fgt]
 refine rnd_k fun N63 M63 hN63 hM63 => ?_
 refine sr_k fun K64 hK64 => ?_
 simp only [go_sem, hb, hcv, Int.toNat_one, Int.reduceTMod, Int.reduceTDiv, Int.mul_zero]
 repeat' (first | apply And.intro | intro _)
 refine hK64 _ ?_
 refine seq_k fun N65 M65 hN65 hM65 => ?_
 refine condT_k (by first | rfl | (simp [go_sem, hb, hcv, Int.toNat_one, Int.reduceTMod, Int.reduceTDiv, Int.mul_zero]; done)) ?_
 refine skip_k ?_
 refine hN65 _ ?_
 refine seq_k fun N66 M66 hN66 hM66 => ?_
 refine block_k fun B67 bn67 bx67 br67 bi67 => ?_
 refine sr_k fun K68 hK68 => ?_
 simp only [go_sem, hb, hcv, Int.toNat_one, Int.reduceTMod, Int.reduceTDiv, Int.mul_zero]
 repeat' (first | apply And.intro | intro _)
 refine hK68 _ ?_
 refine draw_k [21, 22, 23, 24, 25, 26, 27, 28, 29, 30, 31, 32, 33, 34, 35, 36, 37, 38, 39] [0, 1, 0, 4, 0, 16, 48, 0, 128, 0, 512, 1536, 0, 4096, 12288, 3, 36367, 101903, 112, 524287, 1048575] [(4, 17), (5, 17), (6, 17), (7, 17), (8, 17), (12, 17), (13, 17), (14, 17), (17, 18)] mixed (by kernel_rfl) (by simp only [go_sem]) fun K69 hK69 => ?_
 simp only [go_sem, hb, hcv, Int.toNat_one, Int.reduceTMod, Int.reduceTDiv, Int.mul_zero]
 repeat' (first | apply And.intro | intro _)
 refine hK69 _ _ ?_ ?_
 · first | trivial | (simp only [go_sem]; done) | (simp only [go_sem]; simp; done) | (simp only [go_sem]; simp; simp only [go_sem])
 refine bn67 _ ?_
 refine hN66 _ ?_
 refine region_k fun K70 hK70 => ?_
 simp only [go_sem, hb, hcv, Int.toNat_one, Int.reduceTMod, Int.reduceTDiv, Int.mul_zero]
 repeat' (first | apply And.intro | intro _)
 refine hK70 _ ?_
 refine hN63 _ ?_
 refine rnd_forget [10, 19, 20, 21, 22, 23, 24, 25, 26, 27, 28, 29, 30, 31, 32, 33, 34, 35, 36, 37, 38, 39, 40] ?_
 simp only [go_sem, St.forget, fgt]
 refine rnd_k fun N71 M71 hN71 hM71 => ?_
 refine sr_k fun K72 hK72 => ?_
 simp only [go_sem, hb, hcv, Int.toNat_one, Int.reduceTMod, Int.reduceTDiv, Int.mul_zero]
 repeat' (first | apply And.intro | intro _)
 refine hK72 _ ?_
 refine seq_k fun N73 M73 hN73 hM73 => ?_
 refine condF_k (by first | rfl | (simp [go_sem, hb, hcv, Int.toNat_one, Int.reduceTMod, Int.reduceTDiv, Int.mul_zero]; done)) ?_
 refine exit_k ?_
 refine hM73 _ _ ?_
 refine hM71 _ _ ?_
 refine bx5 _ ?_
 refine hN3 _ ?_
 refine sr_k fun K74 hK74 => ?_
 simp only [go_sem, hb, hcv, Int.toNat_one, Int.reduceTMod, Int.reduceTDiv, Int.mul_zero]
 repeat' (first | apply And.intro | intro _)
 refine hK74 _ ?_
 refine join_k [9, 8, 5, 4] (fun w => ⟨[(9, .w (.one (.p 9 []))), (8, .w (.one (.p 8 []))), (5, .w (.one (.p 5 []))), (4, .w (.one (.p 4 [])))], [(9, ⟨false, w.ls⟩), (8, ⟨false, [.pl (.u32 0), .pl (.u32 0), .pl (.u32 0), .pl (.u32 0), .pl (.u32 0), .pl (.u32 0), .pl (.u32 0), .pl (.u32 0)]⟩), (5, ⟨false, [.pl (.str b)]⟩), (4, ⟨false, [.pl (.u32 h0), .pl (.u32 h1), .pl (.u32 h2), .pl (.u32 h3), .pl (.u32 h4), .pl (.u32 h5), .pl (.u32 h6), .pl (.u32 h7)]⟩), (1000001, ⟨false, [.pl (.u32 1779033703), .pl (.u32 3144134277), .pl (.u32 1013904242), .pl (.u32 2773480762), .pl (.u32 1359893119), .pl (.u32 2600822924), .pl (.u32 528734635), .pl (.u32 1541459225)]⟩)]⟩) (fun w => iniW ⟨h0, h1, h2, h3, h4, h5, h6, h7⟩ len last = w) (fun N75 M75 hN75 hM75 => ?_) (fun Wi hW => ?_)
 · skip
   refine sr_k fun K76 hK76 => ?_
   simp only [go_sem, hb, hcv, Int.toNat_one, Int.reduceTMod, Int.reduceTDiv, Int.mul_zero]
   repeat' (first | apply And.intro | intro _)
   refine hK76 _ ?_
   refine cond_k rfl (fun hc => ?_) (fun hc => ?_)
   · try simp only [go_sem, hb, hcv, Int.toNat_one, Int.reduceTMod, Int.reduceTDiv, Int.mul_zero] at hc
     subst hc
     all_goals
      refine region_k fun K77 hK77 => ?_
      simp only [go_sem, hb, hcv, Int.toNat_one, Int.reduceTMod, Int.reduceTDiv, Int.mul_zero]
      repeat' (first | apply And.intro | intro _)
      refine hK77 _ ?_
      refine hN75 _ rfl _ ?_
      (simp only [keepE_mk, kept_nil, kept_cons, List.contains_cons, List.contains_nil, Nat.reduceBEq, beq_self_eq_true, Bool.or_false, Bool.or_true, Bool.true_or, Bool.false_or, Bool.false_eq_true, reduceIte]; rfl)
   · try simp only [go_sem, hb, hcv, Int.toNat_one, Int.reduceTMod, Int.reduceTDiv, Int.mul_zero] at hc
     subst hc
     all_goals
      refine skip_k ?_
      refine hN75 _ rfl _ ?_
      (simp only [keepE_mk, kept_nil, kept_cons, List.contains_cons, List.contains_nil, Nat.reduceBEq, beq_self_eq_true, Bool.or_false, Bool.or_true, Bool.true_or, Bool.false_or, Bool.false_eq_true, reduceIte]; rfl)
 · skip
   refine sr_k fun K78 hK78 => ?_
   simp only [go_sem, hb, hcv, Int.toNat_one, Int.reduceTMod, Int.reduceTDiv, Int.mul_zero]
   repeat' (first | apply And.intro | intro _)
   refine hK78 _ ?_
   refine seq_k fun N79 M79 hN79 hM79 => ?_
   refine sr_k fun K80 hK80 => ?_
   simp only [go_sem, hb, hcv, Int.toNat_one, Int.reduceTMod, Int.reduceTDiv, Int.mul_zero]
   repeat' (first | apply And.intro | intro _)
   refine hK80 _ ?_
   refine block_k fun B81 bn81 bx81 br81 bi81 => ?_
   refine ht_dropE [0, 1, 2, 3, 5, 10, 18, 19, 20, 21, 22, 23, 24, 25, 26, 27, 28, 29, 30, 31, 32, 33, 34, 35, 36, 37, 38, 39, 40, 41, 42, 43, 44, 45, 46, 47, 48, 49, 50, 51, 52, 53, 54, 55, 56] ?_
   simp only [dropE_mk, fgt_nil, fgt_cons, List.contains_cons, List.contains_nil, Nat.reduceBEq, beq_self_eq_true, Bool.or_false, Bool.or_true, Bool.true_or, Bool.false_or, Bool.false_eq_true, reduceIte]
   refine loop_k (fun y => [(57, .w (.one (.pl (.i ((y.1 : Nat) : Int)))))]) (fun y => [(9, ⟨false, (roundB b y.1 Wi).ls⟩)]) (fun y => 10 - y.1) (⟨0, Nat.zero_le _⟩ : {y : Nat // y ≤ 10}) ?_ ?_ ?_
   · (simp only [go_sem, leX, List.cons_append, List.nil_append]; try simp)
   · (simp only [roundB, go_sem, leX, List.cons_append, List.nil_append]; first | done | rfl | (rw [← hW]; simp [roundB, iniW, W16.ls, leX, look]; done))
   intro ⟨k, hk9⟩ N82 M82 hN82 hM82
   simp only [List.cons_append, List.nil_append]
   rcases Nat.lt_or_ge k 10 with hlt | hge
   · have hcq : ((k : Nat) : Int) < 10 := by omega
     have hs1 : Go.RowKit.wrap64 (((k : Nat) : Int) + 1) = ((k + 1 : Nat) : Int) := wnat (by omega) (by omega)
     obtain ⟨w, hw⟩ : ∃ w, roundB b k Wi = w := ⟨_, rfl⟩
     obtain ⟨x0, x1, x2, x3, x4, x5, x6, x7, x8, x9, x10, x11, x12, x13, x14, x15⟩ := w
     obtain ⟨y0, hm0⟩ : ∃ y, mixW b k 0 = y := ⟨_, rfl⟩
     obtain ⟨y1, hm1⟩ : ∃ y, mixW b k 1 = y := ⟨_, rfl⟩
     obtain ⟨y2, hm2⟩ : ∃ y, mixW b k 2 = y := ⟨_, rfl⟩
     obtain ⟨y3, hm3⟩ : ∃ y, mixW b k 3 = y := ⟨_, rfl⟩
     obtain ⟨y4, hm4⟩ : ∃ y, mixW b k 4 = y := ⟨_, rfl⟩
     obtain ⟨y5, hm5⟩ : ∃ y, mixW b k 5 = y := ⟨_, rfl⟩
     obtain ⟨y6, hm6⟩ : ∃ y, mixW b k 6 = y := ⟨_, rfl⟩
     obtain ⟨y7, hm7⟩ : ∃ y, mixW b k 7 = y := ⟨_, rfl⟩
     obtain ⟨y8, hm8⟩ : ∃ y, mixW b k 8 = y := ⟨_, rfl⟩
     obtain ⟨y9, hm9⟩ : ∃ y, mixW b k 9 = y := ⟨_, rfl⟩
     obtain ⟨y10, hm10⟩ : ∃ y, mixW b k 10 = y := ⟨_, rfl⟩
     obtain ⟨y11, hm11⟩ : ∃ y, mixW b k 11 = y := ⟨_, rfl⟩
     obtain ⟨y12, hm12⟩ : ∃ y, mixW b k 12 = y := ⟨_, rfl⟩
     obtain ⟨y13, hm13⟩ : ∃ y, mixW b k 13 = y := ⟨_, rfl⟩
     obtain ⟨y14, hm14⟩ : ∃ y, mixW b k 14 = y := ⟨_, rfl⟩
     obtain ⟨y15, hm15⟩ : ∃ y, mixW b k 15 = y := ⟨_, rfl⟩
     obtain ⟨j0a1, hj0a1⟩ : ∃ z, x0 + (x4 + y0) = z := ⟨_, rfl⟩
     obtain ⟨j0d1, hj0d1⟩ : ∃ z, rot32 (x12 ^^^ j0a1) 16 = z := ⟨_, rfl⟩
     obtain ⟨j0c1, hj0c1⟩ : ∃ z, x8 + j0d1 = z := ⟨_, rfl⟩
     obtain ⟨j0b1, hj0b1⟩ : ∃ z, rot32 (x4 ^^^ j0c1) 20 = z := ⟨_, rfl⟩
     obtain ⟨j0a2, hj0a2⟩ : ∃ z, j0a1 + (j0b1 + y1) = z := ⟨_, rfl⟩
     obtain ⟨j0d2, hj0d2⟩ : ∃ z, rot32 (j0d1 ^^^ j0a2) 24 = z := ⟨_, rfl⟩
     obtain ⟨j0c2, hj0c2⟩ : ∃ z, j0c1 + j0d2 = z := ⟨_, rfl⟩
     obtain ⟨j0b2, hj0b2⟩ : ∃ z, rot32 (j0b1 ^^^ j0c2) 25 = z := ⟨_, rfl⟩
     have hmA0 : mA x0 x4 x8 x12 y0 y1 = j0a2 := by simp only [mA, mB, mC, mD, ma1, mb1, mc1, md1, hj0a1, hj0d1, hj0c1, hj0b1, hj0a2, hj0d2, hj0c2, hj0b2]
     have hmB0 : mB x0 x4 x8 x12 y0 y1 = j0b2 := by simp only [mA, mB, mC, mD, ma1, mb1, mc1, md1, hj0a1, hj0d1, hj0c1, hj0b1, hj0a2, hj0d2, hj0c2, hj0b2]
     have hmC0 : mC x0 x4 x8 x12 y0 y1 = j0c2 := by simp only [mA, mB, mC, mD, ma1, mb1, mc1, md1, hj0a1, hj0d1, hj0c1, hj0b1, hj0a2, hj0d2, hj0c2, hj0b2]
     have hmD0 : mD x0 x4 x8 x12 y0 y1 = j0d2 := by simp only [mA, mB, mC, mD, ma1, mb1, mc1, md1, hj0a1, hj0d1, hj0c1, hj0b1, hj0a2, hj0d2, hj0c2, hj0b2]
     obtain ⟨j1a1, hj1a1⟩ : ∃ z, x1 + (x5 + y2) = z := ⟨_, rfl⟩
     obtain ⟨j1d1, hj1d1⟩ : ∃ z, rot32 (x13 ^^^ j1a1) 16 = z := ⟨_, rfl⟩
     obtain ⟨j1c1, hj1c1⟩ : ∃ z, x9 + j1d1 = z := ⟨_, rfl⟩
     obtain ⟨j1b1, hj1b1⟩ : ∃ z, rot32 (x5 ^^^ j1c1) 20 = z := ⟨_, rfl⟩
     obtain ⟨j1a2, hj1a2⟩ : ∃ z, j1a1 + (j1b1 + y3) = z := ⟨_, rfl⟩
     obtain ⟨j1d2, hj1d2⟩ : ∃ z, rot32 (j1d1 ^^^ j1a2) 24 = z := ⟨_, rfl⟩
     obtain ⟨j1c2, hj1c2⟩ : ∃ z, j1c1 + j1d2 = z := ⟨_, rfl⟩
     obtain ⟨j1b2, hj1b2⟩ : ∃ z, rot32 (j1b1 ^^^ j1c2) 25 = z := ⟨_, rfl⟩
     have hmA1 : mA x1 x5 x9 x13 y2 y3 = j1a2 := by simp only [mA, mB, mC, mD, ma1, mb1, mc1, md1, hj1a1, hj1d1, hj1c1, hj1b1, hj1a2, hj1d2, hj1c2, hj1b2]
     have hmB1 : mB x1 x5 x9 x13 y2 y3 = j1b2 := by simp only [mA, mB, mC, mD, ma1, mb1, mc1, md1, hj1a1, hj1d1, hj1c1, hj1b1, hj1a2, hj1d2, hj1c2, hj1b2]
     have hmC1 : mC x1 x5 x9 x13 y2 y3 = j1c2 := by simp only [mA, mB, mC, mD, ma1, mb1, mc1, md1, hj1a1, hj1d1, hj1c1, hj1b1, hj1a2, hj1d2, hj1c2, hj1b2]
     have hmD1 : mD x1 x5 x9 x13 y2 y3 = j1d2 := by simp only [mA, mB, mC, mD, ma1, mb1, mc1, md1, hj1a1, hj1d1, hj1c1, hj1b1, hj1a2, hj1d2, hj1c2, hj1b2]
     obtain ⟨j2a1, hj2a1⟩ : ∃ z, x2 + (x6 + y4) = z := ⟨_, rfl⟩
     obtain ⟨j2d1, hj2d1⟩ : ∃ z, rot32 (x14 ^^^ j2a1) 16 = z := ⟨_, rfl⟩
     obtain ⟨j2c1, hj2c1⟩ : ∃ z, x10 + j2d1 = z := ⟨_, rfl⟩
     obtain ⟨j2b1, hj2b1⟩ : ∃ z, rot32 (x6 ^^^ j2c1) 20 = z := ⟨_, rfl⟩
     obtain ⟨j2a2, hj2a2⟩ : ∃ z, j2a1 + (j2b1 + y5) = z := ⟨_, rfl⟩
     obtain ⟨j2d2, hj2d2⟩ : ∃ z, rot32 (j2d1 ^^^ j2a2) 24 = z := ⟨_, rfl⟩
     obtain ⟨j2c2, hj2c2⟩ : ∃ z, j2c1 + j2d2 = z := ⟨_, rfl⟩
     obtain ⟨j2b2, hj2b2⟩ : ∃ z, rot32 (j2b1 ^^^ j2c2) 25 = z := ⟨_, rfl⟩
     have hmA2 : mA x2 x6 x10 x14 y4 y5 = j2a2 := by simp only [mA, mB, mC, mD, ma1, mb1, mc1, md1, hj2a1, hj2d1, hj2c1, hj2b1, hj2a2, hj2d2, hj2c2, hj2b2]
     have hmB2 : mB x2 x6 x10 x14 y4 y5 = j2b2 := by simp only [mA, mB, mC, mD, ma1, mb1, mc1, md1, hj2a1, hj2d1, hj2c1, hj2b1, hj2a2, hj2d2, hj2c2, hj2b2]
     have hmC2 : mC x2 x6 x10 x14 y4 y5 = j2c2 := by simp only [mA, mB, mC, mD, ma1, mb1, mc1, md1, hj2a1, hj2d1, hj2c1, hj2b1, hj2a2, hj2d2, hj2c2, hj2b2]
     have hmD2 : mD x2 x6 x10 x14 y4 y5 = j2d2 := by simp only [mA, mB, mC, mD, ma1, mb1, mc1, md1, hj2a1, hj2d1, hj2c1, hj2b1, hj2a2, hj2d2, hj2c2, hj2b2]
     obtain ⟨j3a1, hj3a1⟩ : ∃ z, x3 + (x7 + y6) = z := ⟨_, rfl⟩
     obtain ⟨j3d1, hj3d1⟩ : ∃ z, rot32 (x15 ^^^ j3a1) 16 = z := ⟨_, rfl⟩
     obtain ⟨j3c1, hj3c1⟩ : ∃ z, x11 + j3d1 = z := ⟨_, rfl⟩
     obtain ⟨j3b1, hj3b1⟩ : ∃ z, rot32 (x7 ^^^ j3c1) 20 = z := ⟨_, rfl⟩
     obtain ⟨j3a2, hj3a2⟩ : ∃ z, j3a1 + (j3b1 + y7) = z := ⟨_, rfl⟩
     obtain ⟨j3d2, hj3d2⟩ : ∃ z, rot32 (j3d1 ^^^ j3a2) 24 = z := ⟨_, rfl⟩
     obtain ⟨j3c2, hj3c2⟩ : ∃ z, j3c1 + j3d2 = z := ⟨_, rfl⟩
     obtain ⟨j3b2, hj3b2⟩ : ∃ z, rot32 (j3b1 ^^^ j3c2) 25 = z := ⟨_, rfl⟩
     have hmA3 : mA x3 x7 x11 x15 y6 y7 = j3a2 := by simp only [mA, mB, mC, mD, ma1, mb1, mc1, md1, hj3a1, hj3d1, hj3c1, hj3b1, hj3a2, hj3d2, hj3c2, hj3b2]
     have hmB3 : mB x3 x7 x11 x15 y6 y7 = j3b2 := by simp only [mA, mB, mC, mD, ma1, mb1, mc1, md1, hj3a1, hj3d1, hj3c1, hj3b1, hj3a2, hj3d2, hj3c2, hj3b2]
     have hmC3 : mC x3 x7 x11 x15 y6 y7 = j3c2 := by simp only [mA, mB, mC, mD, ma1, mb1, mc1, md1, hj3a1, hj3d1, hj3c1, hj3b1, hj3a2, hj3d2, hj3c2, hj3b2]
     have hmD3 : mD x3 x7 x11 x15 y6 y7 = j3d2 := by simp only [mA, mB, mC, mD, ma1, mb1, mc1, md1, hj3a1, hj3d1, hj3c1, hj3b1, hj3a2, hj3d2, hj3c2, hj3b2]
     obtain ⟨j4a1, hj4a1⟩ : ∃ z, j0a2 + (j1b2 + y8) = z := ⟨_, rfl⟩
     obtain ⟨j4d1, hj4d1⟩ : ∃ z, rot32 (j3d2 ^^^ j4a1) 16 = z := ⟨_, rfl⟩
     obtain ⟨j4c1, hj4c1⟩ : ∃ z, j2c2 + j4d1 = z := ⟨_, rfl⟩
     obtain ⟨j4b1, hj4b1⟩ : ∃ z, rot32 (j1b2 ^^^ j4c1) 20 = z := ⟨_, rfl⟩
     obtain ⟨j4a2, hj4a2⟩ : ∃ z, j4a1 + (j4b1 + y9) = z := ⟨_, rfl⟩
     obtain ⟨j4d2, hj4d2⟩ : ∃ z, rot32 (j4d1 ^^^ j4a2) 24 = z := ⟨_, rfl⟩
     obtain ⟨j4c2, hj4c2⟩ : ∃ z, j4c1 + j4d2 = z := ⟨_, rfl⟩
     obtain ⟨j4b2, hj4b2⟩ : ∃ z, rot32 (j4b1 ^^^ j4c2) 25 = z := ⟨_, rfl⟩
     have hmA4 : mA j0a2 j1b2 j2c2 j3d2 y8 y9 = j4a2 := by simp only [mA, mB, mC, mD, ma1, mb1, mc1, md1, hj4a1, hj4d1, hj4c1, hj4b1, hj4a2, hj4d2, hj4c2, hj4b2]
     have hmB4 : mB j0a2 j1b2 j2c2 j3d2 y8 y9 = j4b2 := by simp only [mA, mB, mC, mD, ma1, mb1, mc1, md1, hj4a1, hj4d1, hj4c1, hj4b1, hj4a2, hj4d2, hj4c2, hj4b2]
     have hmC4 : mC j0a2 j1b2 j2c2 j3d2 y8 y9 = j4c2 := by simp only [mA, mB, mC, mD, ma1, mb1, mc1, md1, hj4a1, hj4d1, hj4c1, hj4b1, hj4a2, hj4d2, hj4c2, hj4b2]
     have hmD4 : mD j0a2 j1b2 j2c2 j3d2 y8 y9 = j4d2 := by simp only [mA, mB, mC, mD, ma1, mb1, mc1, md1, hj4a1, hj4d1, hj4c1, hj4b1, hj4a2, hj4d2, hj4c2, hj4b2]
     obtain ⟨j5a1, hj5a1⟩ : ∃ z, j1a2 + (j2b2 + y10) = z := ⟨_, rfl⟩
     obtain ⟨j5d1, hj5d1⟩ : ∃ z, rot32 (j0d2 ^^^ j5a1) 16 = z := ⟨_, rfl⟩
     obtain ⟨j5c1, hj5c1⟩ : ∃ z, j3c2 + j5d1 = z := ⟨_, rfl⟩
     obtain ⟨j5b1, hj5b1⟩ : ∃ z, rot32 (j2b2 ^^^ j5c1) 20 = z := ⟨_, rfl⟩
     obtain ⟨j5a2, hj5a2⟩ : ∃ z, j5a1 + (j5b1 + y11) = z := ⟨_, rfl⟩
     obtain ⟨j5d2, hj5d2⟩ : ∃ z, rot32 (j5d1 ^^^ j5a2) 24 = z := ⟨_, rfl⟩
     obtain ⟨j5c2, hj5c2⟩ : ∃ z, j5c1 + j5d2 = z := ⟨_, rfl⟩
     obtain ⟨j5b2, hj5b2⟩ : ∃ z, rot32 (j5b1 ^^^ j5c2) 25 = z := ⟨_, rfl⟩
     have hmA5 : mA j1a2 j2b2 j3c2 j0d2 y10 y11 = j5a2 := by simp only [mA, mB, mC, mD, ma1, mb1, mc1, md1, hj5a1, hj5d1, hj5c1, hj5b1, hj5a2, hj5d2, hj5c2, hj5b2]
     have hmB5 : mB j1a2 j2b2 j3c2 j0d2 y10 y11 = j5b2 := by simp only [mA, mB, mC, mD, ma1, mb1, mc1, md1, hj5a1, hj5d1, hj5c1, hj5b1, hj5a2, hj5d2, hj5c2, hj5b2]
     have hmC5 : mC j1a2 j2b2 j3c2 j0d2 y10 y11 = j5c2 := by simp only [mA, mB, mC, mD, ma1, mb1, mc1, md1, hj5a1, hj5d1, hj5c1, hj5b1, hj5a2, hj5d2, hj5c2, hj5b2]
     have hmD5 : mD j1a2 j2b2 j3c2 j0d2 y10 y11 = j5d2 := by simp only [mA, mB, mC, mD, ma1, mb1, mc1, md1, hj5a1, hj5d1, hj5c1, hj5b1, hj5a2, hj5d2, hj5c2, hj5b2]
     obtain ⟨j6a1, hj6a1⟩ : ∃ z, j2a2 + (j3b2 + y12) = z := ⟨_, rfl⟩
     obtain ⟨j6d1, hj6d1⟩ : ∃ z, rot32 (j1d2 ^^^ j6a1) 16 = z := ⟨_, rfl⟩
     obtain ⟨j6c1, hj6c1⟩ : ∃ z, j0c2 + j6d1 = z := ⟨_, rfl⟩
     obtain ⟨j6b1, hj6b1⟩ : ∃ z, rot32 (j3b2 ^^^ j6c1) 20 = z := ⟨_, rfl⟩
     obtain ⟨j6a2, hj6a2⟩ : ∃ z, j6a1 + (j6b1 + y13) = z := ⟨_, rfl⟩
     obtain ⟨j6d2, hj6d2⟩ : ∃ z, rot32 (j6d1 ^^^ j6a2) 24 = z := ⟨_, rfl⟩
     obtain ⟨j6c2, hj6c2⟩ : ∃ z, j6c1 + j6d2 = z := ⟨_, rfl⟩
     obtain ⟨j6b2, hj6b2⟩ : ∃ z, rot32 (j6b1 ^^^ j6c2) 25 = z := ⟨_, rfl⟩
     have hmA6 : mA j2a2 j3b2 j0c2 j1d2 y12 y13 = j6a2 := by simp only [mA, mB, mC, mD, ma1, mb1, mc1, md1, hj6a1, hj6d1, hj6c1, hj6b1, hj6a2, hj6d2, hj6c2, hj6b2]
     have hmB6 : mB j2a2 j3b2 j0c2 j1d2 y12 y13 = j6b2 := by simp only [mA, mB, mC, mD, ma1, mb1, mc1, md1, hj6a1, hj6d1, hj6c1, hj6b1, hj6a2, hj6d2, hj6c2, hj6b2]
     have hmC6 : mC j2a2 j3b2 j0c2 j1d2 y12 y13 = j6c2 := by simp only [mA, mB, mC, mD, ma1, mb1, mc1, md1, hj6a1, hj6d1, hj6c1, hj6b1, hj6a2, hj6d2, hj6c2, hj6b2]
     have hmD6 : mD j2a2 j3b2 j0c2 j1d2 y12 y13 = j6d2 := by simp only [mA, mB, mC, mD, ma1, mb1, mc1, md1, hj6a1, hj6d1, hj6c1, hj6b1, hj6a2, hj6d2, hj6c2, hj6b2]
     obtain ⟨j7a1, hj7a1⟩ : ∃ z, j3a2 + (j0b2 + y14) = z := ⟨_, rfl⟩
     obtain ⟨j7d1, hj7d1⟩ : ∃ z, rot32 (j2d2 ^^^ j7a1) 16 = z := ⟨_, rfl⟩
     obtain ⟨j7c1, hj7c1⟩ : ∃ z, j1c2 + j7d1 = z := ⟨_, rfl⟩
     obtain ⟨j7b1, hj7b1⟩ : ∃ z, rot32 (j0b2 ^^^ j7c1) 20 = z := ⟨_, rfl⟩
     obtain ⟨j7a2, hj7a2⟩ : ∃ z, j7a1 + (j7b1 + y15) = z := ⟨_, rfl⟩
     obtain ⟨j7d2, hj7d2⟩ : ∃ z, rot32 (j7d1 ^^^ j7a2) 24 = z := ⟨_, rfl⟩
     obtain ⟨j7c2, hj7c2⟩ : ∃ z, j7c1 + j7d2 = z := ⟨_, rfl⟩
     obtain ⟨j7b2, hj7b2⟩ : ∃ z, rot32 (j7b1 ^^^ j7c2) 25 = z := ⟨_, rfl⟩
     have hmA7 : mA j3a2 j0b2 j1c2 j2d2 y14 y15 = j7a2 := by simp only [mA, mB, mC, mD, ma1, mb1, mc1, md1, hj7a1, hj7d1, hj7c1, hj7b1, hj7a2, hj7d2, hj7c2, hj7b2]
     have hmB7 : mB j3a2 j0b2 j1c2 j2d2 y14 y15 = j7b2 := by simp only [mA, mB, mC, mD, ma1, mb1, mc1, md1, hj7a1, hj7d1, hj7c1, hj7b1, hj7a2, hj7d2, hj7c2, hj7b2]
     have hmC7 : mC j3a2 j0b2 j1c2 j2d2 y14 y15 = j7c2 := by simp only [mA, mB, mC, mD, ma1, mb1, mc1, md1, hj7a1, hj7d1, hj7c1, hj7b1, hj7a2, hj7d2, hj7c2, hj7b2]
     have hmD7 : mD j3a2 j0b2 j1c2 j2d2 y14 y15 = j7d2 := by simp only [mA, mB, mC, mD, ma1, mb1, mc1, md1, hj7a1, hj7d1, hj7c1, hj7b1, hj7a2, hj7d2, hj7c2, hj7b2]
     simp only [hw, W16.ls]
     refine sr_k fun K83 hK83 => ?_
     simp only [go_sem, hb, hcv, Int.toNat_one, Int.reduceTMod, Int.reduceTDiv, Int.mul_zero, hcq, hs1, W16.ls, W16.sh, W16.unsh]
     repeat' (first | apply And.intro | intro _)
     refine hK83 _ ?_
     refine seq_k fun N84 M84 hN84 hM84 => ?_
     refine condT_k (by first | rfl | (simp [go_sem, hb, hcv, Int.toNat_one, Int.reduceTMod, Int.reduceTDiv, Int.mul_zero, hcq, hs1, W16.ls, W16.sh, W16.unsh]; done)) ?_
     refine skip_k ?_
     refine hN84 _ ?_
     refine seq_k fun N85 M85 hN85 hM85 => ?_
     refine block_k fun B86 bn86 bx86 br86 bi86 => ?_
     refine sr_k fun K87 hK87 => ?_
     simp only [go_sem, hb, hcv, Int.toNat_one, Int.reduceTMod, Int.reduceTDiv, Int.mul_zero, hcq, hs1, W16.ls, W16.sh, W16.unsh]
     repeat' (first | apply And.intro | intro _)
     refine hK87 _ ?_
     refine sr_k fun K88 hK88 => ?_
     simp only [go_sem, hb, hcv, Int.toNat_one, Int.reduceTMod, Int.reduceTDiv, Int.mul_zero, hcq, hs1, W16.ls, W16.sh, W16.unsh]
     repeat' (first | apply And.intro | intro _)
     refine hK88 _ ?_
     refine block_k fun B89 bn89 bx89 br89 bi89 => ?_
     refine rounds_k 3 ?_
     refine rnd_k fun N91 M91 hN91 hM91 => ?_
     refine sr_k fun K92 hK92 => ?_
     simp only [go_sem, hb, hcv, Int.toNat_one, Int.reduceTMod, Int.reduceTDiv, Int.mul_zero, hcq, hs1, W16.ls, W16.sh, W16.unsh]
     repeat' (first | apply And.intro | intro _)
     refine hK92 _ ?_
     refine seq_k fun N93 M93 hN93 hM93 => ?_
     refine condT_k (by first | rfl | (simp [go_sem, hb, hcv, Int.toNat_one, Int.reduceTMod, Int.reduceTDiv, Int.mul_zero, hcq, hs1, W16.ls, W16.sh, W16.unsh]; done)) ?_
     refine skip_k ?_
     refine hN93 _ ?_
     refine seq_k fun N94 M94 hN94 hM94 => ?_
     refine block_k fun B95 bn95 bx95 br95 bi95 => ?_
     refine sr_k fun K96 hK96 => ?_
     simp only [go_sem, hb, hcv, Int.toNat_one, Int.reduceTMod, Int.reduceTDiv, Int.mul_zero, hcq, hs1, W16.ls, W16.sh, W16.unsh]
     repeat' (first | apply And.intro | intro _)
     refine hK96 _ ?_
     refine sr_k fun K97 hK97 => ?_
     simp only [go_sem, hb, hcv, Int.toNat_one, Int.reduceTMod, Int.reduceTDiv, Int.mul_zero, hcq, hs1, W16.ls, W16.sh, W16.unsh]
     repeat' (first | apply And.intro | intro _)
     all_goals refine call_view (fun k => k) (fun _ _ => rfl) (by first | rfl | (simp only [go_sem, hb, hcv, Int.toNat_one, Int.reduceTMod, Int.reduceTDiv, Int.mul_zero, hcq, hs1, W16.ls, W16.sh, W16.unsh] <;> rfl)) ((shifted_0 x0 x1 x2 x3 x4 x5 x6 x7 x8 x9 x10 x11 x12 x13 x14 x15).plain fun _ _ h => h) ?_
     all_goals (rintro v m ⟨hR, hm⟩; subst hR; subst hm)
     all_goals refine And.intro (by first | rfl | simp only [go_sem, hb, hcv, Int.toNat_one, Int.reduceTMod, Int.reduceTDiv, Int.mul_zero, hcq, hs1, W16.ls, W16.sh, W16.unsh]) (And.intro (by first | rfl | simp only [go_sem, hb, hcv, Int.toNat_one, Int.reduceTMod, Int.reduceTDiv, Int.mul_zero, hcq, hs1, W16.ls, W16.sh, W16.unsh]) ?_)
     all_goals simp only [go_sem, hb, hcv, Int.toNat_one, Int.reduceTMod, Int.reduceTDiv, Int.mul_zero, hcq, hs1, W16.ls, W16.sh, W16.unsh]
     all_goals repeat' (first | apply And.intro | intro _)
     refine hK97 _ ?_
     refine seq_k fun N98 M98 hN98 hM98 => ?_
     refine sr_k fun K99 hK99 => ?_
     simp only [go_sem, hb, hcv, Int.toNat_one, Int.reduceTMod, Int.reduceTDiv, Int.mul_zero, hcq, hs1, W16.ls, W16.sh, W16.unsh]
     repeat' (first | apply And.intro | intro _)
     refine hK99 _ ?_
     refine block_k fun B100 bn100 bx100 br100 bi100 => ?_
     refine rounds_k 5 ?_
     refine rnd_k fun N102 M102 hN102 hM102 => ?_
     refine sr_k fun K103 hK103 => ?_
     simp only [go_sem, hb, hcv, Int.toNat_one, Int.reduceTMod, Int.reduceTDiv, Int.mul_zero, hcq, hs1, W16.ls, W16.sh, W16.unsh, hm0, hm1, hj0a1, hj0d1, hj0c1, hj0b1, hj0a2, hj0d2, hj0c2, hj0b2]
     repeat' (first | apply And.intro | intro _)
     refine hK103 _ ?_
     refine seq_k fun N104 M104 hN104 hM104 => ?_
     refine condT_k (by first | rfl | (simp [go_sem, hb, hcv, Int.toNat_one, Int.reduceTMod, Int.reduceTDiv, Int.mul_zero, hcq, hs1, W16.ls, W16.sh, W16.unsh, hm0, hm1, hj0a1, hj0d1, hj0c1, hj0b1, hj0a2, hj0d2, hj0c2, hj0b2]; done)) ?_
     refine skip_k ?_
     refine hN104 _ ?_
     refine seq_k fun N105 M105 hN105 hM105 => ?_
     refine block_k fun B106 bn106 bx106 br106 bi106 => ?_
     refine sr_k fun K107 hK107 => ?_
     simp only [go_sem, hb, hcv, Int.toNat_one, Int.reduceTMod, Int.reduceTDiv, Int.mul_zero, hcq, hs1, W16.ls, W16.sh, W16.unsh, hm0, hm1, hj0a1, hj0d1, hj0c1, hj0b1, hj0a2, hj0d2, hj0c2, hj0b2]
     repeat' (first | apply And.intro | intro _)
     refine hK107 _ ?_
     refine sr_k fun K108 hK108 => ?_
     simp only [go_sem, hb, hcv, Int.toNat_one, Int.reduceTMod, Int.reduceTDiv, Int.mul_zero, hcq, hs1, W16.ls, W16.sh, W16.unsh, hm0, hm1, hj0a1, hj0d1, hj0c1, hj0b1, hj0a2, hj0d2, hj0c2, hj0b2]
     repeat' (first | apply And.intro | intro _)
     all_goals (refine call_fn (caps := [5]) false [(500000, 5)] (fun k => k) ?_ ?_ (fun _ _ => rfl) ?_ (by decide) ?_ (word_0 b hb k hlt) ?_; iterate 4 (focus (first | rfl | (simp only [go_sem, hb, hcv, Int.toNat_one, Int.reduceTMod, Int.reduceTDiv, Int.mul_zero, hcq, hs1, W16.ls, W16.sh, W16.unsh, hm0, hm1, hj0a1, hj0d1, hj0c1, hj0b1, hj0a2, hj0d2, hj0c2, hj0b2] <;> first | done | rfl | simp))))
     all_goals (rintro v m ⟨hR, hm⟩; subst hR; subst hm)
     all_goals (refine And.intro ?_ (And.intro ?_ (And.intro ?_ ?_)); iterate 3 (focus (first | rfl | (simp only [go_sem, hb, hcv, Int.toNat_one, Int.reduceTMod, Int.reduceTDiv, Int.mul_zero, hcq, hs1, W16.ls, W16.sh, W16.unsh, hm0, hm1, hj0a1, hj0d1, hj0c1, hj0b1, hj0a2, hj0d2, hj0c2, hj0b2]; done) | (simp [go_sem, look, hb, hcv, Int.toNat_one, Int.reduceTMod, Int.reduceTDiv, Int.mul_zero, hcq, hs1, W16.ls, W16.sh, W16.unsh, hm0, hm1, hj0a1, hj0d1, hj0c1, hj0b1, hj0a2, hj0d2, hj0c2, hj0b2]; done))))
     all_goals (try simp only [go_sem, hb, hcv, Int.toNat_one, Int.reduceTMod, Int.reduceTDiv, Int.mul_zero, hcq, hs1, W16.ls, W16.sh, W16.unsh, hm0, hm1, hj0a1, hj0d1, hj0c1, hj0b1, hj0a2, hj0d2, hj0c2, hj0b2])
     all_goals (try simp only [go_sem, hb, hcv, Int.toNat_one, Int.reduceTMod, Int.reduceTDiv, Int.mul_zero, hcq, hs1, W16.ls, W16.sh, W16.unsh, hm0, hm1, hj0a1, hj0d1, hj0c1, hj0b1, hj0a2, hj0d2, hj0c2, hj0b2])
     all_goals repeat' (first | apply And.intro | intro _)
     all_goals (refine call_fn (caps := [5]) false [(500000, 5)] (fun k => k) ?_ ?_ (fun _ _ => rfl) ?_ (by decide) ?_ (word_1 b hb k hlt) ?_; iterate 4 (focus (first | rfl | (simp only [go_sem, hb, hcv, Int.toNat_one, Int.reduceTMod, Int.reduceTDiv, Int.mul_zero, hcq, hs1, W16.ls, W16.sh, W16.unsh, hm0, hm1, hj0a1, hj0d1, hj0c1, hj0b1, hj0a2, hj0d2, hj0c2, hj0b2] <;> first | done | rfl | simp))))
     all_goals (rintro v m ⟨hR, hm⟩; subst hR; subst hm)
     all_goals (refine And.intro ?_ (And.intro ?_ (And.intro ?_ ?_)); iterate 3 (focus (first | rfl | (simp only [go_sem, hb, hcv, Int.toNat_one, Int.reduceTMod, Int.reduceTDiv, Int.mul_zero, hcq, hs1, W16.ls, W16.sh, W16.unsh, hm0, hm1, hj0a1, hj0d1, hj0c1, hj0b1, hj0a2, hj0d2, hj0c2, hj0b2]; done) | (simp [go_sem, look, hb, hcv, Int.toNat_one, Int.reduceTMod, Int.reduceTDiv, Int.mul_zero, hcq, hs1, W16.ls, W16.sh, W16.unsh, hm0, hm1, hj0a1, hj0d1, hj0c1, hj0b1, hj0a2, hj0d2, hj0c2, hj0b2]; done))))
     all_goals (try simp only [go_sem, hb, hcv, Int.toNat_one, Int.reduceTMod, Int.reduceTDiv, Int.mul_zero, hcq, hs1, W16.ls, W16.sh, W16.unsh, hm0, hm1, hj0a1, hj0d1, hj0c1, hj0b1, hj0a2, hj0d2, hj0c2, hj0b2])
     all_goals (try simp only [go_sem, hb, hcv, Int.toNat_one, Int.reduceTMod, Int.reduceTDiv, Int.mul_zero, hcq, hs1, W16.ls, W16.sh, W16.unsh, hm0, hm1, hj0a1, hj0d1, hj0c1, hj0b1, hj0a2, hj0d2, hj0c2, hj0b2])
     all_goals repeat' (first | apply And.intro | intro _)
     refine hK108 _ ?_
     refine sd_k [86, 87, 88, 89, 90, 91, 92, 93, 94, 95, 96, 97, 98] [0, 0, 3, 7, 0, 0, 48, 112, 0, 496, 1023, 0, 4095, 8191] [] mixed (by kernel_rfl) (by simp only [go_sem]) fun K109 hK109 => ?_
     simp only [go_sem, hb, hcv, Int.toNat_one, Int.reduceTMod, Int.reduceTDiv, Int.mul_zero, hcq, hs1, W16.ls, W16.sh, W16.unsh, hm0, hm1, hj0a1, hj0d1, hj0c1, hj0b1, hj0a2, hj0d2, hj0c2, hj0b2]
     repeat' (first | apply And.intro | intro _)
     refine hK109 _ _ trivial ?_
     refine sd_k [99, 100, 101, 102, 103, 104, 105, 106, 107, 108, 109, 110, 111] [0, 0, 0, 6, 14, 0, 0, 96, 224, 510, 1022, 0, 4095, 8191] [] mixed (by kernel_rfl) (by simp only [go_sem]) fun K110 hK110 => ?_
     simp only [go_sem, hb, hcv, Int.toNat_one, Int.reduceTMod, Int.reduceTDiv, Int.mul_zero, hcq, hs1, W16.ls, W16.sh, W16.unsh, hm0, hm1, hj0a1, hj0d1, hj0c1, hj0b1, hj0a2, hj0d2, hj0c2, hj0b2]
     repeat' (first | apply And.intro | intro _)
     all_goals refine call_draw (fun k => k) _ [] (fun _ _ => rfl) (by first | rfl | (simp only [go_sem, hb, hcv, Int.toNat_one, Int.reduceTMod, Int.reduceTDiv, Int.mul_zero, hcq, hs1, W16.ls, W16.sh, W16.unsh, hm0, hm1, hj0a1, hj0d1, hj0c1, hj0b1, hj0a2, hj0d2, hj0c2, hj0b2] <;> rfl)) ((left_16 _).plain fun _ _ h => h) ?_ ?_
     all_goals try (refine And.intro ?_ (And.intro ?_ (And.intro ?_ ?_)) <;> first | rfl | simp only [go_sem])
     all_goals simp only [go_sem, hb, hcv, Int.toNat_one, Int.reduceTMod, Int.reduceTDiv, Int.mul_zero, hcq, hs1, W16.ls, W16.sh, W16.unsh, hm0, hm1, hj0a1, hj0d1, hj0c1, hj0b1, hj0a2, hj0d2, hj0c2, hj0b2]
     all_goals repeat' (first | apply And.intro | intro _)
     refine hK110 _ _ trivial ?_
     refine sd_k [112, 113, 114, 115, 116, 117, 118, 119, 120, 121, 122] [0, 0, 3, 7, 0, 0, 48, 112, 255, 0, 1023, 2047] [] mixed (by kernel_rfl) (by simp only [go_sem]) fun K111 hK111 => ?_
     simp only [go_sem, hb, hcv, Int.toNat_one, Int.reduceTMod, Int.reduceTDiv, Int.mul_zero, hcq, hs1, W16.ls, W16.sh, W16.unsh, hm0, hm1, hj0a1, hj0d1, hj0c1, hj0b1, hj0a2, hj0d2, hj0c2, hj0b2]
     repeat' (first | apply And.intro | intro _)
     refine hK111 _ _ trivial ?_
     refine sd_k [123, 124, 125, 126, 127, 128, 129, 130, 131, 132, 133, 134, 135] [0, 0, 0, 6, 14, 0, 0, 96, 224, 510, 1022, 0, 4095, 8191] [] mixed (by kernel_rfl) (by simp only [go_sem]) fun K112 hK112 => ?_
     simp only [go_sem, hb, hcv, Int.toNat_one, Int.reduceTMod, Int.reduceTDiv, Int.mul_zero, hcq, hs1, W16.ls, W16.sh, W16.unsh, hm0, hm1, hj0a1, hj0d1, hj0c1, hj0b1, hj0a2, hj0d2, hj0c2, hj0b2]
     repeat' (first | apply And.intro | intro _)
     all_goals refine call_draw (fun k => k) _ [] (fun _ _ => rfl) (by first | rfl | (simp only [go_sem, hb, hcv, Int.toNat_one, Int.reduceTMod, Int.reduceTDiv, Int.mul_zero, hcq, hs1, W16.ls, W16.sh, W16.unsh, hm0, hm1, hj0a1, hj0d1, hj0c1, hj0b1, hj0a2, hj0d2, hj0c2, hj0b2] <;> rfl)) ((left_20 _).plain fun _ _ h => h) ?_ ?_
     all_goals try (refine And.intro ?_ (And.intro ?_ (And.intro ?_ ?_)) <;> first | rfl | simp only [go_sem])
     all_goals simp only [go_sem, hb, hcv, Int.toNat_one, Int.reduceTMod, Int.reduceTDiv, Int.mul_zero, hcq, hs1, W16.ls, W16.sh, W16.unsh, hm0, hm1, hj0a1, hj0d1, hj0c1, hj0b1, hj0a2, hj0d2, hj0c2, hj0b2]
     all_goals repeat' (first | apply And.intro | intro _)
     refine hK112 _ _ trivial ?_
     refine sd_k [136, 137, 138, 139, 140, 141, 142, 143, 144, 145, 146, 147, 148] [0, 0, 3, 7, 0, 0, 48, 112, 0, 496, 1023, 0, 4095, 8191] [] mixed (by kernel_rfl) (by simp only [go_sem]) fun K113 hK113 => ?_
     simp only [go_sem, hb, hcv, Int.toNat_one, Int.reduceTMod, Int.reduceTDiv, Int.mul_zero, hcq, hs1, W16.ls, W16.sh, W16.unsh, hm0, hm1, hj0a1, hj0d1, hj0c1, hj0b1, hj0a2, hj0d2, hj0c2, hj0b2]
     repeat' (first | apply And.intro | intro _)
     refine hK113 _ _ trivial ?_
     refine sd_k [149, 150, 151, 152, 153, 154, 155, 156, 157, 158, 159, 160, 161] [0, 0, 0, 6, 14, 0, 0, 96, 224, 510, 1022, 0, 4095, 8191] [] mixed (by kernel_rfl) (by simp only [go_sem]) fun K114 hK114 => ?_
     simp only [go_sem, hb, hcv, Int.toNat_one, Int.reduceTMod, Int.reduceTDiv, Int.mul_zero, hcq, hs1, W16.ls, W16.sh, W16.unsh, hm0, hm1, hj0a1, hj0d1, hj0c1, hj0b1, hj0a2, hj0d2, hj0c2, hj0b2]
     repeat' (first | apply And.intro | intro _)
     all_goals refine call_draw (fun k => k) _ [] (fun _ _ => rfl) (by first | rfl | (simp only [go_sem, hb, hcv, Int.toNat_one, Int.reduceTMod, Int.reduceTDiv, Int.mul_zero, hcq, hs1, W16.ls, W16.sh, W16.unsh, hm0, hm1, hj0a1, hj0d1, hj0c1, hj0b1, hj0a2, hj0d2, hj0c2, hj0b2] <;> rfl)) ((left_24 _).plain fun _ _ h => h) ?_ ?_
     all_goals try (refine And.intro ?_ (And.intro ?_ (And.intro ?_ ?_)) <;> first | rfl | simp only [go_sem])
     all_goals simp only [go_sem, hb, hcv, Int.toNat_one, Int.reduceTMod, Int.reduceTDiv, Int.mul_zero, hcq, hs1, W16.ls, W16.sh, W16.unsh, hm0, hm1, hj0a1, hj0d1, hj0c1, hj0b1, hj0a2, hj0d2, hj0c2, hj0b2]
     all_goals repeat' (first | apply And.intro | intro _)
     refine hK114 _ _ trivial ?_
     refine sd_k [162, 163, 164, 165, 166, 167, 168, 169, 170, 171, 172] [0, 0, 3, 7, 0, 0, 48, 112, 255, 0, 1023, 2047] [] mixed (by kernel_rfl) (by simp only [go_sem]) fun K115 hK115 => ?_
     simp only [go_sem, hb, hcv, Int.toNat_one, Int.reduceTMod, Int.reduceTDiv, Int.mul_zero, hcq, hs1, W16.ls, W16.sh, W16.unsh, hm0, hm1, hj0a1, hj0d1, hj0c1, hj0b1, hj0a2, hj0d2, hj0c2, hj0b2]
     repeat' (first | apply And.intro | intro _)
     refine hK115 _ _ trivial ?_
     refine draw_k [173, 174, 175, 176, 177, 178, 179, 180, 181, 182, 183, 184, 185] [0, 0, 0, 6, 14, 0, 0, 96, 224, 510, 1022, 0, 4095, 8191] [] mixed (by kernel_rfl) (by simp only [go_sem]) fun K116 hK116 => ?_
     simp only [go_sem, hb, hcv, Int.toNat_one, Int.reduceTMod, Int.reduceTDiv, Int.mul_zero, hcq, hs1, W16.ls, W16.sh, W16.unsh, hm0, hm1, hj0a1, hj0d1, hj0c1, hj0b1, hj0a2, hj0d2, hj0c2, hj0b2]
     repeat' (first | apply And.intro | intro _)
     all_goals refine call_draw (fun k => k) _ [] (fun _ _ => rfl) (by first | rfl | (simp only [go_sem, hb, hcv, Int.toNat_one, Int.reduceTMod, Int.reduceTDiv, Int.mul_zero, hcq, hs1, W16.ls, W16.sh, W16.unsh, hm0, hm1, hj0a1, hj0d1, hj0c1, hj0b1, hj0a2, hj0d2, hj0c2, hj0b2] <;> rfl)) ((left_25 _).plain fun _ _ h => h) ?_ ?_
     all_goals try (refine And.intro ?_ (And.intro ?_ (And.intro ?_ ?_)) <;> first | rfl | simp only [go_sem])
     all_goals simp only [go_sem, hb, hcv, Int.toNat_one, Int.reduceTMod, Int.reduceTDiv, Int.mul_zero, hcq, hs1, W16.ls, W16.sh, W16.unsh, hm0, hm1, hj0a1, hj0d1, hj0c1, hj0b1, hj0a2, hj0d2, hj0c2, hj0b2]
     all_goals repeat' (first | apply And.intro | intro _)
     refine hK116 _ _ trivial ?_
     refine bn106 _ ?_
     refine hN105 _ ?_
     refine region_k fun K117 hK117 => ?_
     simp only [go_sem, hb, hcv, Int.toNat_one, Int.reduceTMod, Int.reduceTDiv, Int.mul_zero, hcq, hs1, W16.ls, W16.sh, W16.unsh, hm0, hm1, hj0a1, hj0d1, hj0c1, hj0b1, hj0a2, hj0d2, hj0c2, hj0b2]
     repeat' (first | apply And.intro | intro _)
     refine hK117 _ ?_
     refine hN102 _ ?_
     refine rnd_forget [14, 15, 16, 67, 68, 69, 70, 71, 72, 73, 74, 75, 76, 77, 78, 79, 80, 81, 82, 83, 84, 85, 86, 87, 88, 89, 90, 91, 92, 93, 94, 95, 96, 97, 98, 99, 100, 101, 102, 103, 104, 105, 106, 107, 108, 109, 110, 111, 112, 113, 114, 115, 116, 117, 118, 119, 120, 121, 122, 123, 124, 125, 126, 127, 128, 129, 130, 131, 132, 133, 134, 135, 136, 137, 138, 139, 140, 141, 142, 143, 144, 145, 146, 147, 148, 149, 150, 151, 152, 153, 154, 155, 156, 157, 158, 159, 160, 161, 162, 163, 164, 165, 166, 167, 168, 169, 170, 171, 172, 173, 174, 175, 176, 177, 178, 179, 180, 181, 182, 183, 184, 185, 186] ?_
     simp only [go_sem, St.forget, fgt]
     refine rnd_k fun N118 M118 hN118 hM118 => ?_
     refine sr_k fun K119 hK119 => ?_
     simp only [go_sem, hb, hcv, Int.toNat_one, Int.reduceTMod, Int.reduceTDiv, Int.mul_zero, hcq, hs1, W16.ls, W16.sh, W16.unsh, hm2, hm3, hj1a1, hj1d1, hj1c1, hj1b1, hj1a2, hj1d2, hj1c2, hj1b2]
     repeat' (first | apply And.intro | intro _)
     refine hK119 _ ?_
     refine seq_k fun N120 M120 hN120 hM120 => ?_
     refine condT_k (by first | rfl | (simp [go_sem, hb, hcv, Int.toNat_one, Int.reduceTMod, Int.reduceTDiv, Int.mul_zero, hcq, hs1, W16.ls, W16.sh, W16.unsh, hm2, hm3, hj1a1, hj1d1, hj1c1, hj1b1, hj1a2, hj1d2, hj1c2, hj1b2]; done)) ?_
     refine skip_k ?_
     refine hN120 _ ?_
     refine seq_k fun N121 M121 hN121 hM121 => ?_
     refine block_k fun B122 bn122 bx122 br122 bi122 => ?_
     refine sr_k fun K123 hK123 => ?_
     simp only [go_sem, hb, hcv, Int.toNat_one, Int.reduceTMod, Int.reduceTDiv, Int.mul_zero, hcq, hs1, W16.ls, W16.sh, W16.unsh, hm2, hm3, hj1a1, hj1d1, hj1c1, hj1b1, hj1a2, hj1d2, hj1c2, hj1b2]
     repeat' (first | apply And.intro | intro _)
     refine hK123 _ ?_
     refine sr_k fun K124 hK124 => ?_
     simp only [go_sem, hb, hcv, Int.toNat_one, Int.reduceTMod, Int.reduceTDiv, Int.mul_zero, hcq, hs1, W16.ls, W16.sh, W16.unsh, hm2, hm3, hj1a1, hj1d1, hj1c1, hj1b1, hj1a2, hj1d2, hj1c2, hj1b2]
     repeat' (first | apply And.intro | intro _)
     all_goals (refine call_fn (caps := [5]) false [(500000, 5)] (fun k => k) ?_ ?_ (fun _ _ => rfl) ?_ (by decide) ?_ (word_2 b hb k hlt) ?_; iterate 4 (focus (first | rfl | (simp only [go_sem, hb, hcv, Int.toNat_one, Int.reduceTMod, Int.reduceTDiv, Int.mul_zero, hcq, hs1, W16.ls, W16.sh, W16.unsh, hm2, hm3, hj1a1, hj1d1, hj1c1, hj1b1, hj1a2, hj1d2, hj1c2, hj1b2] <;> first | done | rfl | simp))))
     all_goals (rintro v m ⟨hR, hm⟩; subst hR; subst hm)
     all_goals (refine And.intro ?_ (And.intro ?_ (And.intro ?_ ?_)); iterate 3 (focus (first | rfl | (simp only [go_sem, hb, hcv, Int.toNat_one, Int.reduceTMod, Int.reduceTDiv, Int.mul_zero, hcq, hs1, W16.ls, W16.sh, W16.unsh, hm2, hm3, hj1a1, hj1d1, hj1c1, hj1b1, hj1a2, hj1d2, hj1c2, hj1b2]; done) | (simp [go_sem, look, hb, hcv, Int.toNat_one, Int.reduceTMod, Int.reduceTDiv, Int.mul_zero, hcq, hs1, W16.ls, W16.sh, W16.unsh, hm2, hm3, hj1a1, hj1d1, hj1c1, hj1b1, hj1a2, hj1d2, hj1c2, hj1b2]; done))))
     all_goals (try simp only [go_sem, hb, hcv, Int.toNat_one, Int.reduceTMod, Int.reduceTDiv, Int.mul_zero, hcq, hs1, W16.ls, W16.sh, W16.unsh, hm2, hm3, hj1a1, hj1d1, hj1c1, hj1b1, hj1a2, hj1d2, hj1c2, hj1b2])
     all_goals (try simp only [go_sem, hb, hcv, Int.toNat_one, Int.reduceTMod, Int.reduceTDiv, Int.mul_zero, hcq, hs1, W16.ls, W16.sh, W16.unsh, hm2, hm3, hj1a1, hj1d1, hj1c1, hj1b1, hj1a2, hj1d2, hj1c2, hj1b2])
     all_goals repeat' (first | apply And.intro | intro _)
     all_goals (refine call_fn (caps := [5]) false [(500000, 5)] (fun k => k) ?_ ?_ (fun _ _ => rfl) ?_ (by decide) ?_ (word_3 b hb k hlt) ?_; iterate 4 (focus (first | rfl | (simp only [go_sem, hb, hcv, Int.toNat_one, Int.reduceTMod, Int.reduceTDiv, Int.mul_zero, hcq, hs1, W16.ls, W16.sh, W16.unsh, hm2, hm3, hj1a1, hj1d1, hj1c1, hj1b1, hj1a2, hj1d2, hj1c2, hj1b2] <;> first | done | rfl | simp))))
     all_goals (rintro v m ⟨hR, hm⟩; subst hR; subst hm)
     all_goals (refine And.intro ?_ (And.intro ?_ (And.intro ?_ ?_)); iterate 3 (focus (first | rfl | (simp only [go_sem, hb, hcv, Int.toNat_one, Int.reduceTMod, Int.reduceTDiv, Int.mul_zero, hcq, hs1, W16.ls, W16.sh, W16.unsh, hm2, hm3, hj1a1, hj1d1, hj1c1, hj1b1, hj1a2, hj1d2, hj1c2, hj1b2]; done) | (simp [go_sem, look, hb, hcv, Int.toNat_one, Int.reduceTMod, Int.reduceTDiv, Int.mul_zero, hcq, hs1, W16.ls, W16.sh, W16.unsh, hm2, hm3, hj1a1, hj1d1, hj1c1, hj1b1, hj1a2, hj1d2, hj1c2, hj1b2]; done))))
     all_goals (try simp only [go_sem, hb, hcv, Int.toNat_one, Int.reduceTMod, Int.reduceTDiv, Int.mul_zero, hcq, hs1, W16.ls, W16.sh, W16.unsh, hm2, hm3, hj1a1, hj1d1, hj1c1, hj1b1, hj1a2, hj1d2, hj1c2, hj1b2])
     all_goals (try simp only [go_sem, hb, hcv, Int.toNat_one, Int.reduceTMod, Int.reduceTDiv, Int.mul_zero, hcq, hs1, W16.ls, W16.sh, W16.unsh, hm2, hm3, hj1a1, hj1d1, hj1c1, hj1b1, hj1a2, hj1d2, hj1c2, hj1b2])
     all_goals repeat' (first | apply And.intro | intro _)
     refine hK124 _ ?_
     refine sd_k [86, 87, 88, 89, 90, 91, 92, 93, 94, 95, 96, 97, 98] [0, 0, 3, 7, 0, 0, 48, 112, 0, 496, 1023, 0, 4095, 8191] [] mixed (by kernel_rfl) (by simp only [go_sem]) fun K125 hK125 => ?_
     simp only [go_sem, hb, hcv, Int.toNat_one, Int.reduceTMod, Int.reduceTDiv, Int.mul_zero, hcq, hs1, W16.ls, W16.sh, W16.unsh, hm2, hm3, hj1a1, hj1d1, hj1c1, hj1b1, hj1a2, hj1d2, hj1c2, hj1b2]
     repeat' (first | apply And.intro | intro _)
     refine hK125 _ _ trivial ?_
     refine sd_k [99, 100, 101, 102, 103, 104, 105, 106, 107, 108, 109, 110, 111] [0, 0, 0, 6, 14, 0, 0, 96, 224, 510, 1022, 0, 4095, 8191] [] mixed (by kernel_rfl) (by simp only [go_sem]) fun K126 hK126 => ?_
     simp only [go_sem, hb, hcv, Int.toNat_one, Int.reduceTMod, Int.reduceTDiv, Int.mul_zero, hcq, hs1, W16.ls, W16.sh, W16.unsh, hm2, hm3, hj1a1, hj1d1, hj1c1, hj1b1, hj1a2, hj1d2, hj1c2, hj1b2]
     repeat' (first | apply And.intro | intro _)
     all_goals refine call_draw (fun k => k) _ [] (fun _ _ => rfl) (by first | rfl | (simp only [go_sem, hb, hcv, Int.toNat_one, Int.reduceTMod, Int.reduceTDiv, Int.mul_zero, hcq, hs1, W16.ls, W16.sh, W16.unsh, hm2, hm3, hj1a1, hj1d1, hj1c1, hj1b1, hj1a2, hj1d2, hj1c2, hj1b2] <;> rfl)) ((left_16 _).plain fun _ _ h => h) ?_ ?_
     all_goals try (refine And.intro ?_ (And.intro ?_ (And.intro ?_ ?_)) <;> first | rfl | simp only [go_sem])
     all_goals simp only [go_sem, hb, hcv, Int.toNat_one, Int.reduceTMod, Int.reduceTDiv, Int.mul_zero, hcq, hs1, W16.ls, W16.sh, W16.unsh, hm2, hm3, hj1a1, hj1d1, hj1c1, hj1b1, hj1a2, hj1d2, hj1c2, hj1b2]
     all_goals repeat' (first | apply And.intro | intro _)
     refine hK126 _ _ trivial ?_
     refine sd_k [112, 113, 114, 115, 116, 117, 118, 119, 120, 121, 122] [0, 0, 3, 7, 0, 0, 48, 112, 255, 0, 1023, 2047] [] mixed (by kernel_rfl) (by simp only [go_sem]) fun K127 hK127 => ?_
     simp only [go_sem, hb, hcv, Int.toNat_one, Int.reduceTMod, Int.reduceTDiv, Int.mul_zero, hcq, hs1, W16.ls, W16.sh, W16.unsh, hm2, hm3, hj1a1, hj1d1, hj1c1, hj1b1, hj1a2, hj1d2, hj1c2, hj1b2]
     repeat' (first | apply And.intro | intro _)
     refine hK127 _ _ trivial ?_
     refine sd_k [123, 124, 125, 126, 127, 128, 129, 130, 131, 132, 133, 134, 135] [0, 0, 0, 6, 14, 0, 0, 96, 224, 510, 1022, 0, 4095, 8191] [] mixed (by kernel_rfl) (by simp only [go_sem]) fun K128 hK128 => ?_
     simp only [go_sem, hb, hcv, Int.toNat_one, Int.reduceTMod, Int.reduceTDiv, Int.mul_zero, hcq, hs1, W16.ls, W16.sh, W16.unsh, hm2, hm3, hj1a1, hj1d1, hj1c1, hj1b1, hj1a2, hj1d2, hj1c2, hj1b2]
     repeat' (first | apply And.intro | intro _)
     all_goals refine call_draw (fun k => k) _ [] (fun _ _ => rfl) (by first | rfl | (simp only [go_sem, hb, hcv, Int.toNat_one, Int.reduceTMod, Int.reduceTDiv, Int.mul_zero, hcq, hs1, W16.ls, W16.sh, W16.unsh, hm2, hm3, hj1a1, hj1d1, hj1c1, hj1b1, hj1a2, hj1d2, hj1c2, hj1b2] <;> rfl)) ((left_20 _).plain fun _ _ h => h) ?_ ?_
     all_goals try (refine And.intro ?_ (And.intro ?_ (And.intro ?_ ?_)) <;> first | rfl | simp only [go_sem])
     all_goals simp only [go_sem, hb, hcv, Int.toNat_one, Int.reduceTMod, Int.reduceTDiv, Int.mul_zero, hcq, hs1, W16.ls, W16.sh, W16.unsh, hm2, hm3, hj1a1, hj1d1, hj1c1, hj1b1, hj1a2, hj1d2, hj1c2, hj1b2]
     all_goals repeat' (first | apply And.intro | intro _)
     refine hK128 _ _ trivial ?_
     refine sd_k [136, 137, 138, 139, 140, 141, 142, 143, 144, 145, 146, 147, 148] [0, 0, 3, 7, 0, 0, 48, 112, 0, 496, 1023, 0, 4095, 8191] [] mixed (by kernel_rfl) (by simp only [go_sem]) fun K129 hK129 => ?_
     simp only [go_sem, hb, hcv, Int.toNat_one, Int.reduceTMod, Int.reduceTDiv, Int.mul_zero, hcq, hs1, W16.ls, W16.sh, W16.unsh, hm2, hm3, hj1a1, hj1d1, hj1c1, hj1b1, hj1a2, hj1d2, hj1c2, hj1b2]
     repeat' (first | apply And.intro | intro _)
     refine hK129 _ _ trivial ?_
     refine sd_k [149, 150, 151, 152, 153, 154, 155, 156, 157, 158, 159, 160, 161] [0, 0, 0, 6, 14, 0, 0, 96, 224, 510, 1022, 0, 4095, 8191] [] mixed (by kernel_rfl) (by simp only [go_sem]) fun K130 hK130 => ?_
     simp only [go_sem, hb, hcv, Int.toNat_one, Int.reduceTMod, Int.reduceTDiv, Int.mul_zero, hcq, hs1, W16.ls, W16.sh, W16.unsh, hm2, hm3, hj1a1, hj1d1, hj1c1, hj1b1, hj1a2, hj1d2, hj1c2, hj1b2]
     repeat' (first | apply And.intro | intro _)
     all_goals refine call_draw (fun k => k) _ [] (fun _ _ => rfl) (by first | rfl | (simp only [go_sem, hb, hcv, Int.toNat_one, Int.reduceTMod, Int.reduceTDiv, Int.mul_zero, hcq, hs1, W16.ls, W16.sh, W16.unsh, hm2, hm3, hj1a1, hj1d1, hj1c1, hj1b1, hj1a2, hj1d2, hj1c2, hj1b2] <;> rfl)) ((left_24 _).plain fun _ _ h => h) ?_ ?_
     all_goals try (refine And.intro ?_ (And.intro ?_ (And.intro ?_ ?_)) <;> first | rfl | simp only [go_sem])
     all_goals simp only [go_sem, hb, hcv, Int.toNat_one, Int.reduceTMod, Int.reduceTDiv, Int.mul_zero, hcq, hs1, W16.ls, W16.sh, W16.unsh, hm2, hm3, hj1a1, hj1d1, hj1c1, hj1b1, hj1a2, hj1d2, hj1c2, hj1b2]
     all_goals repeat' (first | apply And.intro | intro _)
     refine hK130 _ _ trivial ?_
     refine sd_k [162, 163, 164, 165, 166, 167, 168, 169, 170, 171, 172] [0, 0, 3, 7, 0, 0, 48, 112, 255, 0, 1023, 2047] [] mixed (by kernel_rfl) (by simp only [go_sem]) fun K131 hK131 => ?_
     simp only [go_sem, hb, hcv, Int.toNat_one, Int.reduceTMod, Int.reduceTDiv, Int.mul_zero, hcq, hs1, W16.ls, W16.sh, W16.unsh, hm2, hm3, hj1a1, hj1d1, hj1c1, hj1b1, hj1a2, hj1d2, hj1c2, hj1b2]
     repeat' (first | apply And.intro | intro _)
     refine hK131 _ _ trivial ?_
     refine draw_k [173, 174, 175, 176, 177, 178, 179, 180, 181, 182, 183, 184, 185] [0, 0, 0, 6, 14, 0, 0, 96, 224, 510, 1022, 0, 4095, 8191] [] mixed (by kernel_rfl) (by simp only [go_sem]) fun K132 hK132 => ?_
     simp only [go_sem, hb, hcv, Int.toNat_one, Int.reduceTMod, Int.reduceTDiv, Int.mul_zero, hcq, hs1, W16.ls, W16.sh, W16.unsh, hm2, hm3, hj1a1, hj1d1, hj1c1, hj1b1, hj1a2, hj1d2, hj1c2, hj1b2]
     repeat' (first | apply And.intro | intro _)
     all_goals refine call_draw (fun k => k) _ [] (fun _ _ => rfl) (by first | rfl | (simp only [go_sem, hb, hcv, Int.toNat_one, Int.reduceTMod, Int.reduceTDiv, Int.mul_zero, hcq, hs1, W16.ls, W16.sh, W16.unsh, hm2, hm3, hj1a1, hj1d1, hj1c1, hj1b1, hj1a2, hj1d2, hj1c2, hj1b2] <;> rfl)) ((left_25 _).plain fun _ _ h => h) ?_ ?_
     all_goals try (refine And.intro ?_ (And.intro ?_ (And.intro ?_ ?_)) <;> first | rfl | simp only [go_sem])
     all_goals simp only [go_sem, hb, hcv, Int.toNat_one, Int.reduceTMod, Int.reduceTDiv, Int.mul_zero, hcq, hs1, W16.ls, W16.sh, W16.unsh, hm2, hm3, hj1a1, hj1d1, hj1c1, hj1b1, hj1a2, hj1d2, hj1c2, hj1b2]
     all_goals repeat' (first | apply And.intro | intro _)
     refine hK132 _ _ trivial ?_
     refine bn122 _ ?_
     refine hN121 _ ?_
     refine region_k fun K133 hK133 => ?_
     simp only [go_sem, hb, hcv, Int.toNat_one, Int.reduceTMod, Int.reduceTDiv, Int.mul_zero, hcq, hs1, W16.ls, W16.sh, W16.unsh, hm2, hm3, hj1a1, hj1d1, hj1c1, hj1b1, hj1a2, hj1d2, hj1c2, hj1b2]
     repeat' (first | apply And.intro | intro _)
     refine hK133 _ ?_
     refine hN118 _ ?_
     refine rnd_forget [14, 15, 16, 67, 68, 69, 70, 71, 72, 73, 74, 75, 76, 77, 78, 79, 80, 81, 82, 83, 84, 85, 86, 87, 88, 89, 90, 91, 92, 93, 94, 95, 96, 97, 98, 99, 100, 101, 102, 103, 104, 105, 106, 107, 108, 109, 110, 111, 112, 113, 114, 115, 116, 117, 118, 119, 120, 121, 122, 123, 124, 125, 126, 127, 128, 129, 130, 131, 132, 133, 134, 135, 136, 137, 138, 139, 140, 141, 142, 143, 144, 145, 146, 147, 148, 149, 150, 151, 152, 153, 154, 155, 156, 157, 158, 159, 160, 161, 162, 163, 164, 165, 166, 167, 168, 169, 170, 171, 172, 173, 174, 175, 176, 177, 178, 179, 180, 181, 182, 183, 184, 185, 186] ?_
     simp only [go_sem, St.forget, fgt]
     refine rnd_k fun N134 M134 hN134 hM134 => ?_
     refine sr_k fun K135 hK135 => ?_
     simp only [go_sem, hb, hcv, Int.toNat_one, Int.reduceTMod, Int.reduceTDiv, Int.mul_zero, hcq, hs1, W16.ls, W16.sh, W16.unsh, hm4, hm5, hj2a1, hj2d1, hj2c1, hj2b1, hj2a2, hj2d2, hj2c2, hj2b2]
     repeat' (first | apply And.intro | intro _)
     refine hK135 _ ?_
     refine seq_k fun N136 M136 hN136 hM136 => ?_
     refine condT_k (by first | rfl | (simp [go_sem, hb, hcv, Int.toNat_one, Int.reduceTMod, Int.reduceTDiv, Int.mul_zero, hcq, hs1, W16.ls, W16.sh, W16.unsh, hm4, hm5, hj2a1, hj2d1, hj2c1, hj2b1, hj2a2, hj2d2, hj2c2, hj2b2]; done)) ?_
     refine skip_k ?_
     refine hN136 _ ?_
     refine seq_k fun N137 M137 hN137 hM137 => ?_
     refine block_k fun B138 bn138 bx138 br138 bi138 => ?_
     refine sr_k fun K139 hK139 => ?_
     simp only [go_sem, hb, hcv, Int.toNat_one, Int.reduceTMod, Int.reduceTDiv, Int.mul_zero, hcq, hs1, W16.ls, W16.sh, W16.unsh, hm4, hm5, hj2a1, hj2d1, hj2c1, hj2b1, hj2a2, hj2d2, hj2c2, hj2b2]
     repeat' (first | apply And.intro | intro _)
     refine hK139 _ ?_
     refine sr_k fun K140 hK140 => ?_
     simp only [go_sem, hb, hcv, Int.toNat_one, Int.reduceTMod, Int.reduceTDiv, Int.mul_zero, hcq, hs1, W16.ls, W16.sh, W16.unsh, hm4, hm5, hj2a1, hj2d1, hj2c1, hj2b1, hj2a2, hj2d2, hj2c2, hj2b2]
     repeat' (first | apply And.intro | intro _)
     all_goals (refine call_fn (caps := [5]) false [(500000, 5)] (fun k => k) ?_ ?_ (fun _ _ => rfl) ?_ (by decide) ?_ (word_4 b hb k hlt) ?_; iterate 4 (focus (first | rfl | (simp only [go_sem, hb, hcv, Int.toNat_one, Int.reduceTMod, Int.reduceTDiv, Int.mul_zero, hcq, hs1, W16.ls, W16.sh, W16.unsh, hm4, hm5, hj2a1, hj2d1, hj2c1, hj2b1, hj2a2, hj2d2, hj2c2, hj2b2] <;> first | done | rfl | simp))))
     all_goals (rintro v m ⟨hR, hm⟩; subst hR; subst hm)
     all_goals (refine And.intro ?_ (And.intro ?_ (And.intro ?_ ?_)); iterate 3 (focus (first | rfl | (simp only [go_sem, hb, hcv, Int.toNat_one, Int.reduceTMod, Int.reduceTDiv, Int.mul_zero, hcq, hs1, W16.ls, W16.sh, W16.unsh, hm4, hm5, hj2a1, hj2d1, hj2c1, hj2b1, hj2a2, hj2d2, hj2c2, hj2b2]; done) | (simp [go_sem, look, hb, hcv, Int.toNat_one, Int.reduceTMod, Int.reduceTDiv, Int.mul_zero, hcq, hs1, W16.ls, W16.sh, W16.unsh, hm4, hm5, hj2a1, hj2d1, hj2c1, hj2b1, hj2a2, hj2d2, hj2c2, hj2b2]; done))))
     all_goals (try simp only [go_sem, hb, hcv, Int.toNat_one, Int.reduceTMod, Int.reduceTDiv, Int.mul_zero, hcq, hs1, W16.ls, W16.sh, W16.unsh, hm4, hm5, hj2a1, hj2d1, hj2c1, hj2b1, hj2a2, hj2d2, hj2c2, hj2b2])
     all_goals (try simp only [go_sem, hb, hcv, Int.toNat_one, Int.reduceTMod, Int.reduceTDiv, Int.mul_zero, hcq, hs1, W16.ls, W16.sh, W16.unsh, hm4, hm5, hj2a1, hj2d1, hj2c1, hj2b1, hj2a2, hj2d2, hj2c2, hj2b2])
     all_goals repeat' (first | apply And.intro | intro _)
     all_goals (refine call_fn (caps := [5]) false [(500000, 5)] (fun k => k) ?_ ?_ (fun _ _ => rfl) ?_ (by decide) ?_ (word_5 b hb k hlt) ?_; iterate 4 (focus (first | rfl | (simp only [go_sem, hb, hcv, Int.toNat_one, Int.reduceTMod, Int.reduceTDiv, Int.mul_zero, hcq, hs1, W16.ls, W16.sh, W16.unsh, hm4, hm5, hj2a1, hj2d1, hj2c1, hj2b1, hj2a2, hj2d2, hj2c2, hj2b2] <;> first | done | rfl | simp))))
     all_goals (rintro v m ⟨hR, hm⟩; subst hR; subst hm)
     all_goals (refine And.intro ?_ (And.intro ?_ (And.intro ?_ ?_)); iterate 3 (focus (first | rfl | (simp only [go_sem, hb, hcv, Int.toNat_one, Int.reduceTMod, Int.reduceTDiv, Int.mul_zero, hcq, hs1, W16.ls, W16.sh, W16.unsh, hm4, hm5, hj2a1, hj2d1, hj2c1, hj2b1, hj2a2, hj2d2, hj2c2, hj2b2]; done) | (simp [go_sem, look, hb, hcv, Int.toNat_one, Int.reduceTMod, Int.reduceTDiv, Int.mul_zero, hcq, hs1, W16.ls, W16.sh, W16.unsh, hm4, hm5, hj2a1, hj2d1, hj2c1, hj2b1, hj2a2, hj2d2, hj2c2, hj2b2]; done))))
     all_goals (try simp only [go_sem, hb, hcv, Int.toNat_one, Int.reduceTMod, Int.reduceTDiv, Int.mul_zero, hcq, hs1, W16.ls, W16.sh, W16.unsh, hm4, hm5, hj2a1, hj2d1, hj2c1, hj2b1, hj2a2, hj2d2, hj2c2, hj2b2])
     all_goals (try simp only [go_sem, hb, hcv, Int.toNat_one, Int.reduceTMod, Int.reduceTDiv, Int.mul_zero, hcq, hs1, W16.ls, W16.sh, W16.unsh, hm4, hm5, hj2a1, hj2d1, hj2c1, hj2b1, hj2a2, hj2d2, hj2c2, hj2b2])
     all_goals repeat' (first | apply And.intro | intro _)
     refine hK140 _ ?_
     refine sd_k [86, 87, 88, 89, 90, 91, 92, 93, 94, 95, 96, 97, 98] [0, 0, 3, 7, 0, 0, 48, 112, 0, 496, 1023, 0, 4095, 8191] [] mixed (by kernel_rfl) (by simp only [go_sem]) fun K141 hK141 => ?_
     simp only [go_sem, hb, hcv, Int.toNat_one, Int.reduceTMod, Int.reduceTDiv, Int.mul_zero, hcq, hs1, W16.ls, W16.sh, W16.unsh, hm4, hm5, hj2a1, hj2d1, hj2c1, hj2b1, hj2a2, hj2d2, hj2c2, hj2b2]
     repeat' (first | apply And.intro | intro _)
     refine hK141 _ _ trivial ?_
     refine sd_k [99, 100, 101, 102, 103, 104, 105, 106, 107, 108, 109, 110, 111] [0, 0, 0, 6, 14, 0, 0, 96, 224, 510, 1022, 0, 4095, 8191] [] mixed (by kernel_rfl) (by simp only [go_sem]) fun K142 hK142 => ?_
     simp only [go_sem, hb, hcv, Int.toNat_one, Int.reduceTMod, Int.reduceTDiv, Int.mul_zero, hcq, hs1, W16.ls, W16.sh, W16.unsh, hm4, hm5, hj2a1, hj2d1, hj2c1, hj2b1, hj2a2, hj2d2, hj2c2, hj2b2]
     repeat' (first | apply And.intro | intro _)
     all_goals refine call_draw (fun k => k) _ [] (fun _ _ => rfl) (by first | rfl | (simp only [go_sem, hb, hcv, Int.toNat_one, Int.reduceTMod, Int.reduceTDiv, Int.mul_zero, hcq, hs1, W16.ls, W16.sh, W16.unsh, hm4, hm5, hj2a1, hj2d1, hj2c1, hj2b1, hj2a2, hj2d2, hj2c2, hj2b2] <;> rfl)) ((left_16 _).plain fun _ _ h => h) ?_ ?_
     all_goals try (refine And.intro ?_ (And.intro ?_ (And.intro ?_ ?_)) <;> first | rfl | simp only [go_sem])
     all_goals simp only [go_sem, hb, hcv, Int.toNat_one, Int.reduceTMod, Int.reduceTDiv, Int.mul_zero, hcq, hs1, W16.ls, W16.sh, W16.unsh, hm4, hm5, hj2a1, hj2d1, hj2c1, hj2b1, hj2a2, hj2d2, hj2c2, hj2b2]
     all_goals repeat' (first | apply And.intro | intro _)
     refine hK142 _ _ trivial ?_
     refine sd_k [112, 113, 114, 115, 116, 117, 118, 119, 120, 121, 122] [0, 0, 3, 7, 0, 0, 48, 112, 255, 0, 1023, 2047] [] mixed (by kernel_rfl) (by simp only [go_sem]) fun K143 hK143 => ?_
     simp only [go_sem, hb, hcv, Int.toNat_one, Int.reduceTMod, Int.reduceTDiv, Int.mul_zero, hcq, hs1, W16.ls, W16.sh, W16.unsh, hm4, hm5, hj2a1, hj2d1, hj2c1, hj2b1, hj2a2, hj2d2, hj2c2, hj2b2]
     repeat' (first | apply And.intro | intro _)
     refine hK143 _ _ trivial ?_
     refine sd_k [123, 124, 125, 126, 127, 128, 129, 130, 131, 132, 133, 134, 135] [0, 0, 0, 6, 14, 0, 0, 96, 224, 510, 1022, 0, 4095, 8191] [] mixed (by kernel_rfl) (by simp only [go_sem]) fun K144 hK144 => ?_
     simp only [go_sem, hb, hcv, Int.toNat_one, Int.reduceTMod, Int.reduceTDiv, Int.mul_zero, hcq, hs1, W16.ls, W16.sh, W16.unsh, hm4, hm5, hj2a1, hj2d1, hj2c1, hj2b1, hj2a2, hj2d2, hj2c2, hj2b2]
     repeat' (first | apply And.intro | intro _)
     all_goals refine call_draw (fun k => k) _ [] (fun _ _ => rfl) (by first | rfl | (simp only [go_sem, hb, hcv, Int.toNat_one, Int.reduceTMod, Int.reduceTDiv, Int.mul_zero, hcq, hs1, W16.ls, W16.sh, W16.unsh, hm4, hm5, hj2a1, hj2d1, hj2c1, hj2b1, hj2a2, hj2d2, hj2c2, hj2b2] <;> rfl)) ((left_20 _).plain fun _ _ h => h) ?_ ?_
     all_goals try (refine And.intro ?_ (And.intro ?_ (And.intro ?_ ?_)) <;> first | rfl | simp only [go_sem])
     all_goals simp only [go_sem, hb, hcv, Int.toNat_one, Int.reduceTMod, Int.reduceTDiv, Int.mul_zero, hcq, hs1, W16.ls, W16.sh, W16.unsh, hm4, hm5, hj2a1, hj2d1, hj2c1, hj2b1, hj2a2, hj2d2, hj2c2, hj2b2]
     all_goals repeat' (first | apply And.intro | intro _)
     refine hK144 _ _ trivial ?_
     refine sd_k [136, 137, 138, 139, 140, 141, 142, 143, 144, 145, 146, 147, 148] [0, 0, 3, 7, 0, 0, 48, 112, 0, 496, 1023, 0, 4095, 8191] [] mixed (by kernel_rfl) (by simp only [go_sem]) fun K145 hK145 => ?_
     simp only [go_sem, hb, hcv, Int.toNat_one, Int.reduceTMod, Int.reduceTDiv, Int.mul_zero, hcq, hs1, W16.ls, W16.sh, W16.unsh, hm4, hm5, hj2a1, hj2d1, hj2c1, hj2b1, hj2a2, hj2d2, hj2c2, hj2b2]
     repeat' (first | apply And.intro | intro _)
     refine hK145 _ _ trivial ?_
     refine sd_k [149, 150, 151, 152, 153, 154, 155, 156, 157, 158, 159, 160, 161] [0, 0, 0, 6, 14, 0, 0, 96, 224, 510, 1022, 0, 4095, 8191] [] mixed (by kernel_rfl) (by simp only [go_sem]) fun K146 hK146 => ?_
     simp only [go_sem, hb, hcv, Int.toNat_one, Int.reduceTMod, Int.reduceTDiv, Int.mul_zero, hcq, hs1, W16.ls, W16.sh, W16.unsh, hm4, hm5, hj2a1, hj2d1, hj2c1, hj2b1, hj2a2, hj2d2, hj2c2, hj2b2]
     repeat' (first | apply And.intro | intro _)
     all_goals refine call_draw (fun k => k) _ [] (fun _ _ => rfl) (by first | rfl | (simp only [go_sem, hb, hcv, Int.toNat_one, Int.reduceTMod, Int.reduceTDiv, Int.mul_zero, hcq, hs1, W16.ls, W16.sh, W16.unsh, hm4, hm5, hj2a1, hj2d1, hj2c1, hj2b1, hj2a2, hj2d2, hj2c2, hj2b2] <;> rfl)) ((left_24 _).plain fun _ _ h => h) ?_ ?_
     all_goals try (refine And.intro ?_ (And.intro ?_ (And.intro ?_ ?_)) <;> first | rfl | simp only [go_sem])
     all_goals simp only [go_sem, hb, hcv, Int.toNat_one, Int.reduceTMod, Int.reduceTDiv, Int.mul_zero, hcq, hs1, W16.ls, W16.sh, W16.unsh, hm4, hm5, hj2a1, hj2d1, hj2c1, hj2b1, hj2a2, hj2d2, hj2c2, hj2b2]
     all_goals repeat' (first | apply And.intro | intro _)
     refine hK146 _ _ trivial ?_
     refine sd_k [162, 163, 164, 165, 166, 167, 168, 169, 170, 171, 172] [0, 0, 3, 7, 0, 0, 48, 112, 255, 0, 1023, 2047] [] mixed (by kernel_rfl) (by simp only [go_sem]) fun K147 hK147 => ?_
     simp only [go_sem, hb, hcv, Int.toNat_one, Int.reduceTMod, Int.reduceTDiv, Int.mul_zero, hcq, hs1, W16.ls, W16.sh, W16.unsh, hm4, hm5, hj2a1, hj2d1, hj2c1, hj2b1, hj2a2, hj2d2, hj2c2, hj2b2]
     repeat' (first | apply And.intro | intro _)
     refine hK147 _ _ trivial ?_
     refine draw_k [173, 174, 175, 176, 177, 178, 179, 180, 181, 182, 183, 184, 185] [0, 0, 0, 6, 14, 0, 0, 96, 224, 510, 1022, 0, 4095, 8191] [] mixed (by kernel_rfl) (by simp only [go_sem]) fun K148 hK148 => ?_
     simp only [go_sem, hb, hcv, Int.toNat_one, Int.reduceTMod, Int.reduceTDiv, Int.mul_zero, hcq, hs1, W16.ls, W16.sh, W16.unsh, hm4, hm5, hj2a1, hj2d1, hj2c1, hj2b1, hj2a2, hj2d2, hj2c2, hj2b2]
     repeat' (first | apply And.intro | intro _)
     all_goals refine call_draw (fun k => k) _ [] (fun _ _ => rfl) (by first | rfl | (simp only [go_sem, hb, hcv, Int.toNat_one, Int.reduceTMod, Int.reduceTDiv, Int.mul_zero, hcq, hs1, W16.ls, W16.sh, W16.unsh, hm4, hm5, hj2a1, hj2d1, hj2c1, hj2b1, hj2a2, hj2d2, hj2c2, hj2b2] <;> rfl)) ((left_25 _).plain fun _ _ h => h) ?_ ?_
     all_goals try (refine And.intro ?_ (And.intro ?_ (And.intro ?_ ?_)) <;> first | rfl | simp only [go_sem])
     all_goals simp only [go_sem, hb, hcv, Int.toNat_one, Int.reduceTMod, Int.reduceTDiv, Int.mul_zero, hcq, hs1, W16.ls, W16.sh, W16.unsh, hm4, hm5, hj2a1, hj2d1, hj2c1, hj2b1, hj2a2, hj2d2, hj2c2, hj2b2]
     all_goals repeat' (first | apply And.intro | intro _)
     refine hK148 _ _ trivial ?_
     refine bn138 _ ?_
     refine hN137 _ ?_
     refine region_k fun K149 hK149 => ?_
     simp only [go_sem, hb, hcv, Int.toNat_one, Int.reduceTMod, Int.reduceTDiv, Int.mul_zero, hcq, hs1, W16.ls, W16.sh, W16.unsh, hm4, hm5, hj2a1, hj2d1, hj2c1, hj2b1, hj2a2, hj2d2, hj2c2, hj2b2]
     repeat' (first | apply And.intro | intro _)
     refine hK149 _ ?_
     refine hN134 _ ?_
     refine rnd_forget [14, 15, 16, 67, 68, 69, 70, 71, 72, 73, 74, 75, 76, 77, 78, 79, 80, 81, 82, 83, 84, 85, 86, 87, 88, 89, 90, 91, 92, 93, 94, 95, 96, 97, 98, 99, 100, 101, 102, 103, 104, 105, 106, 107, 108, 109, 110, 111, 112, 113, 114, 115, 116, 117, 118, 119, 120, 121, 122, 123, 124, 125, 126, 127, 128, 129, 130, 131, 132, 133, 134, 135, 136, 137, 138, 139, 140, 141, 142, 143, 144, 145, 146, 147, 148, 149, 150, 151, 152, 153, 154, 155, 156, 157, 158, 159, 160, 161, 162, 163, 164, 165, 166, 167, 168, 169, 170, 171, 172, 173, 174, 175, 176, 177, 178, 179, 180, 181, 182, 183, 184, 185, 186] ?_
     simp only [go_sem, St.forget, fgt]
     refine rnd_k fun N150 M150 hN150 hM150 => ?_
     refine sr_k fun K151 hK151 => ?_
     simp only [go_sem, hb, hcv, Int.toNat_one, Int.reduceTMod, Int.reduceTDiv, Int.mul_zero, hcq, hs1, W16.ls, W16.sh, W16.unsh, hm6, hm7, hj3a1, hj3d1, hj3c1, hj3b1, hj3a2, hj3d2, hj3c2, hj3b2]
     repeat' (first | apply And.intro | intro _)
     refine hK151 _ ?_
     refine seq_k fun N152 M152 hN152 hM152 => ?_
     refine condT_k (by first | rfl | (simp [go_sem, hb, hcv, Int.toNat_one, Int.reduceTMod, Int.reduceTDiv, Int.mul_zero, hcq, hs1, W16.ls, W16.sh, W16.unsh, hm6, hm7, hj3a1, hj3d1, hj3c1, hj3b1, hj3a2, hj3d2, hj3c2, hj3b2]; done)) ?_
     refine skip_k ?_
     refine hN152 _ ?_
     refine seq_k fun N153 M153 hN153 hM153 => ?_
     refine block_k fun B154 bn154 bx154 br154 bi154 => ?_
     refine sr_k fun K155 hK155 => ?_
     simp only [go_sem, hb, hcv, Int.toNat_one, Int.reduceTMod, Int.reduceTDiv, Int.mul_zero, hcq, hs1, W16.ls, W16.sh, W16.unsh, hm6, hm7, hj3a1, hj3d1, hj3c1, hj3b1, hj3a2, hj3d2, hj3c2, hj3b2]
     repeat' (first | apply And.intro | intro _)
     refine hK155 _ ?_
     refine sr_k fun K156 hK156 => ?_
     simp only [go_sem, hb, hcv, Int.toNat_one, Int.reduceTMod, Int.reduceTDiv, Int.mul_zero, hcq, hs1, W16.ls, W16.sh, W16.unsh, hm6, hm7, hj3a1, hj3d1, hj3c1, hj3b1, hj3a2, hj3d2, hj3c2, hj3b2]
     repeat' (first | apply And.intro | intro _)
     all_goals (refine call_fn (caps := [5]) false [(500000, 5)] (fun k => k) ?_ ?_ (fun _ _ => rfl) ?_ (by decide) ?_ (word_6 b hb k hlt) ?_; iterate 4 (focus (first | rfl | (simp only [go_sem, hb, hcv, Int.toNat_one, Int.reduceTMod, Int.reduceTDiv, Int.mul_zero, hcq, hs1, W16.ls, W16.sh, W16.unsh, hm6, hm7, hj3a1, hj3d1, hj3c1, hj3b1, hj3a2, hj3d2, hj3c2, hj3b2] <;> first | done | rfl | simp))))
     all_goals (rintro v m ⟨hR, hm⟩; subst hR; subst hm)
     all_goals (refine And.intro ?_ (And.intro ?_ (And.intro ?_ ?_)); iterate 3 (focus (first | rfl | (simp only [go_sem, hb, hcv, Int.toNat_one, Int.reduceTMod, Int.reduceTDiv, Int.mul_zero, hcq, hs1, W16.ls, W16.sh, W16.unsh, hm6, hm7, hj3a1, hj3d1, hj3c1, hj3b1, hj3a2, hj3d2, hj3c2, hj3b2]; done) | (simp [go_sem, look, hb, hcv, Int.toNat_one, Int.reduceTMod, Int.reduceTDiv, Int.mul_zero, hcq, hs1, W16.ls, W16.sh, W16.unsh, hm6, hm7, hj3a1, hj3d1, hj3c1, hj3b1, hj3a2, hj3d2, hj3c2, hj3b2]; done))))
     all_goals (try simp only [go_sem, hb, hcv, Int.toNat_one, Int.reduceTMod, Int.reduceTDiv, Int.mul_zero, hcq, hs1, W16.ls, W16.sh, W16.unsh, hm6, hm7, hj3a1, hj3d1, hj3c1, hj3b1, hj3a2, hj3d2, hj3c2, hj3b2])
     all_goals (try simp only [go_sem, hb, hcv, Int.toNat_one, Int.reduceTMod, Int.reduceTDiv, Int.mul_zero, hcq, hs1, W16.ls, W16.sh, W16.unsh, hm6, hm7, hj3a1, hj3d1, hj3c1, hj3b1, hj3a2, hj3d2, hj3c2, hj3b2])
     all_goals repeat' (first | apply And.intro | intro _)
     all_goals (refine call_fn (caps := [5]) false [(500000, 5)] (fun k => k) ?_ ?_ (fun _ _ => rfl) ?_ (by decide) ?_ (word_7 b hb k hlt) ?_; iterate 4 (focus (first | rfl | (simp only [go_sem, hb, hcv, Int.toNat_one, Int.reduceTMod, Int.reduceTDiv, Int.mul_zero, hcq, hs1, W16.ls, W16.sh, W16.unsh, hm6, hm7, hj3a1, hj3d1, hj3c1, hj3b1, hj3a2, hj3d2, hj3c2, hj3b2] <;> first | done | rfl | simp))))
     all_goals (rintro v m ⟨hR, hm⟩; subst hR; subst hm)
     all_goals (refine And.intro ?_ (And.intro ?_ (And.intro ?_ ?_)); iterate 3 (focus (first | rfl | (simp only [go_sem, hb, hcv, Int.toNat_one, Int.reduceTMod, Int.reduceTDiv, Int.mul_zero, hcq, hs1, W16.ls, W16.sh, W16.unsh, hm6, hm7, hj3a1, hj3d1, hj3c1, hj3b1, hj3a2, hj3d2, hj3c2, hj3b2]; done) | (simp [go_sem, look, hb, hcv, Int.toNat_one, Int.reduceTMod, Int.reduceTDiv, Int.mul_zero, hcq, hs1, W16.ls, W16.sh, W16.unsh, hm6, hm7, hj3a1, hj3d1, hj3c1, hj3b1, hj3a2, hj3d2, hj3c2, hj3b2]; done))))
     all_goals (try simp only [go_sem, hb, hcv, Int.toNat_one, Int.reduceTMod, Int.reduceTDiv, Int.mul_zero, hcq, hs1, W16.ls, W16.sh, W16.unsh, hm6, hm7, hj3a1, hj3d1, hj3c1, hj3b1, hj3a2, hj3d2, hj3c2, hj3b2])
     all_goals (try simp only [go_sem, hb, hcv, Int.toNat_one, Int.reduceTMod, Int.reduceTDiv, Int.mul_zero, hcq, hs1, W16.ls, W16.sh, W16.unsh, hm6, hm7, hj3a1, hj3d1, hj3c1, hj3b1, hj3a2, hj3d2, hj3c2, hj3b2])
     all_goals repeat' (first | apply And.intro | intro _)
     refine hK156 _ ?_
     refine sd_k [86, 87, 88, 89, 90, 91, 92, 93, 94, 95, 96, 97, 98] [0, 0, 3, 7, 0, 0, 48, 112, 0, 496, 1023, 0, 4095, 8191] [] mixed (by kernel_rfl) (by simp only [go_sem]) fun K157 hK157 => ?_
     simp only [go_sem, hb, hcv, Int.toNat_one, Int.reduceTMod, Int.reduceTDiv, Int.mul_zero, hcq, hs1, W16.ls, W16.sh, W16.unsh, hm6, hm7, hj3a1, hj3d1, hj3c1, hj3b1, hj3a2, hj3d2, hj3c2, hj3b2]
     repeat' (first | apply And.intro | intro _)
     refine hK157 _ _ trivial ?_
     refine sd_k [99, 100, 101, 102, 103, 104, 105, 106, 107, 108, 109, 110, 111] [0, 0, 0, 6, 14, 0, 0, 96, 224, 510, 1022, 0, 4095, 8191] [] mixed (by kernel_rfl) (by simp only [go_sem]) fun K158 hK158 => ?_
     simp only [go_sem, hb, hcv, Int.toNat_one, Int.reduceTMod, Int.reduceTDiv, Int.mul_zero, hcq, hs1, W16.ls, W16.sh, W16.unsh, hm6, hm7, hj3a1, hj3d1, hj3c1, hj3b1, hj3a2, hj3d2, hj3c2, hj3b2]
     repeat' (first | apply And.intro | intro _)
     all_goals refine call_draw (fun k => k) _ [] (fun _ _ => rfl) (by first | rfl | (simp only [go_sem, hb, hcv, Int.toNat_one, Int.reduceTMod, Int.reduceTDiv, Int.mul_zero, hcq, hs1, W16.ls, W16.sh, W16.unsh, hm6, hm7, hj3a1, hj3d1, hj3c1, hj3b1, hj3a2, hj3d2, hj3c2, hj3b2] <;> rfl)) ((left_16 _).plain fun _ _ h => h) ?_ ?_
     all_goals try (refine And.intro ?_ (And.intro ?_ (And.intro ?_ ?_)) <;> first | rfl | simp only [go_sem])
     all_goals simp only [go_sem, hb, hcv, Int.toNat_one, Int.reduceTMod, Int.reduceTDiv, Int.mul_zero, hcq, hs1, W16.ls, W16.sh, W16.unsh, hm6, hm7, hj3a1, hj3d1, hj3c1, hj3b1, hj3a2, hj3d2, hj3c2, hj3b2]
     all_goals repeat' (first | apply And.intro | intro _)
     refine hK158 _ _ trivial ?_
     refine sd_k [112, 113, 114, 115, 116, 117, 118, 119, 120, 121, 122] [0, 0, 3, 7, 0, 0, 48, 112, 255, 0, 1023, 2047] [] mixed (by kernel_rfl) (by simp only [go_sem]) fun K159 hK159 => ?_
     simp only [go_sem, hb, hcv, Int.toNat_one, Int.reduceTMod, Int.reduceTDiv, Int.mul_zero, hcq, hs1, W16.ls, W16.sh, W16.unsh, hm6, hm7, hj3a1, hj3d1, hj3c1, hj3b1, hj3a2, hj3d2, hj3c2, hj3b2]
     repeat' (first | apply And.intro | intro _)
     refine hK159 _ _ trivial ?_
     refine sd_k [123, 124, 125, 126, 127, 128, 129, 130, 131, 132, 133, 134, 135] [0, 0, 0, 6, 14, 0, 0, 96, 224, 510, 1022, 0, 4095, 8191] [] mixed (by kernel_rfl) (by simp only [go_sem]) fun K160 hK160 => ?_
     simp only [go_sem, hb, hcv, Int.toNat_one, Int.reduceTMod, Int.reduceTDiv, Int.mul_zero, hcq, hs1, W16.ls, W16.sh, W16.unsh, hm6, hm7, hj3a1, hj3d1, hj3c1, hj3b1, hj3a2, hj3d2, hj3c2, hj3b2]
     repeat' (first | apply And.intro | intro _)
     all_goals refine call_draw (fun k => k) _ [] (fun _ _ => rfl) (by first | rfl | (simp only [go_sem, hb, hcv, Int.toNat_one, Int.reduceTMod, Int.reduceTDiv, Int.mul_zero, hcq, hs1, W16.ls, W16.sh, W16.unsh, hm6, hm7, hj3a1, hj3d1, hj3c1, hj3b1, hj3a2, hj3d2, hj3c2, hj3b2] <;> rfl)) ((left_20 _).plain fun _ _ h => h) ?_ ?_
     all_goals try (refine And.intro ?_ (And.intro ?_ (And.intro ?_ ?_)) <;> first | rfl | simp only [go_sem])
     all_goals simp only [go_sem, hb, hcv, Int.toNat_one, Int.reduceTMod, Int.reduceTDiv, Int.mul_zero, hcq, hs1, W16.ls, W16.sh, W16.unsh, hm6, hm7, hj3a1, hj3d1, hj3c1, hj3b1, hj3a2, hj3d2, hj3c2, hj3b2]
     all_goals repeat' (first | apply And.intro | intro _)
     refine hK160 _ _ trivial ?_
     refine sd_k [136, 137, 138, 139, 140, 141, 142, 143, 144, 145, 146, 147, 148] [0, 0, 3, 7, 0, 0, 48, 112, 0, 496, 1023, 0, 4095, 8191] [] mixed (by kernel_rfl) (by simp only [go_sem]) fun K161 hK161 => ?_
     simp only [go_sem, hb, hcv, Int.toNat_one, Int.reduceTMod, Int.reduceTDiv, Int.mul_zero, hcq, hs1, W16.ls, W16.sh, W16.unsh, hm6, hm7, hj3a1, hj3d1, hj3c1, hj3b1, hj3a2, hj3d2, hj3c2, hj3b2]
     repeat' (first | apply And.intro | intro _)
     refine hK161 _ _ trivial ?_
     refine sd_k [149, 150, 151, 152, 153, 154, 155, 156, 157, 158, 159, 160, 161] [0, 0, 0, 6, 14, 0, 0, 96, 224, 510, 1022, 0, 4095, 8191] [] mixed (by kernel_rfl) (by simp only [go_sem]) fun K162 hK162 => ?_
     simp only [go_sem, hb, hcv, Int.toNat_one, Int.reduceTMod, Int.reduceTDiv, Int.mul_zero, hcq, hs1, W16.ls, W16.sh, W16.unsh, hm6, hm7, hj3a1, hj3d1, hj3c1, hj3b1, hj3a2, hj3d2, hj3c2, hj3b2]
     repeat' (first | apply And.intro | intro _)
     all_goals refine call_draw (fun k => k) _ [] (fun _ _ => rfl) (by first | rfl | (simp only [go_sem, hb, hcv, Int.toNat_one, Int.reduceTMod, Int.reduceTDiv, Int.mul_zero, hcq, hs1, W16.ls, W16.sh, W16.unsh, hm6, hm7, hj3a1, hj3d1, hj3c1, hj3b1, hj3a2, hj3d2, hj3c2, hj3b2] <;> rfl)) ((left_24 _).plain fun _ _ h => h) ?_ ?_
     all_goals try (refine And.intro ?_ (And.intro ?_ (And.intro ?_ ?_)) <;> first | rfl | simp only [go_sem])
     all_goals simp only [go_sem, hb, hcv, Int.toNat_one, Int.reduceTMod, Int.reduceTDiv, Int.mul_zero, hcq, hs1, W16.ls, W16.sh, W16.unsh, hm6, hm7, hj3a1, hj3d1, hj3c1, hj3b1, hj3a2, hj3d2, hj3c2, hj3b2]
     all_goals repeat' (first | apply And.intro | intro _)
     refine hK162 _ _ trivial ?_
     refine sd_k [162, 163, 164, 165, 166, 167, 168, 169, 170, 171, 172] [0, 0, 3, 7, 0, 0, 48, 112, 255, 0, 1023, 2047] [] mixed (by kernel_rfl) (by simp only [go_sem]) fun K163 hK163 => ?_
     simp only [go_sem, hb, hcv, Int.toNat_one, Int.reduceTMod, Int.reduceTDiv, Int.mul_zero, hcq, hs1, W16.ls, W16.sh, W16.unsh, hm6, hm7, hj3a1, hj3d1, hj3c1, hj3b1, hj3a2, hj3d2, hj3c2, hj3b2]
     repeat' (first | apply And.intro | intro _)
     refine hK163 _ _ trivial ?_
     refine draw_k [173, 174, 175, 176, 177, 178, 179, 180, 181, 182, 183, 184, 185] [0, 0, 0, 6, 14, 0, 0, 96, 224, 510, 1022, 0, 4095, 8191] [] mixed (by kernel_rfl) (by simp only [go_sem]) fun K164 hK164 => ?_
     simp only [go_sem, hb, hcv, Int.toNat_one, Int.reduceTMod, Int.reduceTDiv, Int.mul_zero, hcq, hs1, W16.ls, W16.sh, W16.unsh, hm6, hm7, hj3a1, hj3d1, hj3c1, hj3b1, hj3a2, hj3d2, hj3c2, hj3b2]
     repeat' (first | apply And.intro | intro _)
     all_goals refine call_draw (fun k => k) _ [] (fun _ _ => rfl) (by first | rfl | (simp only [go_sem, hb, hcv, Int.toNat_one, Int.reduceTMod, Int.reduceTDiv, Int.mul_zero, hcq, hs1, W16.ls, W16.sh, W16.unsh, hm6, hm7, hj3a1, hj3d1, hj3c1, hj3b1, hj3a2, hj3d2, hj3c2, hj3b2] <;> rfl)) ((left_25 _).plain fun _ _ h => h) ?_ ?_
     all_goals try (refine And.intro ?_ (And.intro ?_ (And.intro ?_ ?_)) <;> first | rfl | simp only [go_sem])
     all_goals simp only [go_sem, hb, hcv, Int.toNat_one, Int.reduceTMod, Int.reduceTDiv, Int.mul_zero, hcq, hs1, W16.ls, W16.sh, W16.unsh, hm6, hm7, hj3a1, hj3d1, hj3c1, hj3b1, hj3a2, hj3d2, hj3c2, hj3b2]
     all_goals repeat' (first | apply And.intro | intro _)
     refine hK164 _ _ trivial ?_
     refine bn154 _ ?_
     refine hN153 _ ?_
     refine region_k fun K165 hK165 => ?_
     simp only [go_sem, hb, hcv, Int.toNat_one, Int.reduceTMod, Int.reduceTDiv, Int.mul_zero, hcq, hs1, W16.ls, W16.sh, W16.unsh, hm6, hm7, hj3a1, hj3d1, hj3c1, hj3b1, hj3a2, hj3d2, hj3c2, hj3b2]
     repeat' (first | apply And.intro | intro _)
     refine hK165 _ ?_
     refine hN150 _ ?_
     refine rnd_forget [14, 15, 16, 67, 68, 69, 70, 71, 72, 73, 74, 75, 76, 77, 78, 79, 80, 81, 82, 83, 84, 85, 86, 87, 88, 89, 90, 91, 92, 93, 94, 95, 96, 97, 98, 99, 100, 101, 102, 103, 104, 105, 106, 107, 108, 109, 110, 111, 112, 113, 114, 115, 116, 117, 118, 119, 120, 121, 122, 123, 124, 125, 126, 127, 128, 129, 130, 131, 132, 133, 134, 135, 136, 137, 138, 139, 140, 141, 142, 143, 144, 145, 146, 147, 148, 149, 150, 151, 152, 153, 154, 155, 156, 157, 158, 159, 160, 161, 162, 163, 164, 165, 166, 167, 168, 169, 170, 171, 172, 173, 174, 175, 176, 177, 178, 179, 180, 181, 182, 183, 184, 185, 186] ?_
     simp only [go_sem, St.forget, fgt]
     refine rnd_k fun N166 M166 hN166 hM166 => ?_
     refine sr_k fun K167 hK167 => ?_
     simp only [go_sem, hb, hcv, Int.toNat_one, Int.reduceTMod, Int.reduceTDiv, Int.mul_zero, hcq, hs1, W16.ls, W16.sh, W16.unsh]
     repeat' (first | apply And.intro | intro _)
     refine hK167 _ ?_
     refine seq_k fun N168 M168 hN168 hM168 => ?_
     refine condF_k (by first | rfl | (simp [go_sem, hb, hcv, Int.toNat_one, Int.reduceTMod, Int.reduceTDiv, Int.mul_zero, hcq, hs1, W16.ls, W16.sh, W16.unsh]; done)) ?_
     refine exit_k ?_
     refine hM168 _ _ ?_
     refine hM166 _ _ ?_
     refine bx100 _ ?_
     refine hN98 _ ?_
     refine region_k fun K169 hK169 => ?_
     simp only [go_sem, hb, hcv, Int.toNat_one, Int.reduceTMod, Int.reduceTDiv, Int.mul_zero, hcq, hs1, W16.ls, W16.sh, W16.unsh]
     repeat' (first | apply And.intro | intro _)
     all_goals refine call_view (fun k => k) (fun _ _ => rfl) (by first | rfl | (simp only [go_sem, hb, hcv, Int.toNat_one, Int.reduceTMod, Int.reduceTDiv, Int.mul_zero, hcq, hs1, W16.ls, W16.sh, W16.unsh] <;> rfl)) ((shifted_0 j0a2 j1a2 j2a2 j3a2 j0b2 j1b2 j2b2 j3b2 j0c2 j1c2 j2c2 j3c2 j0d2 j1d2 j2d2 j3d2).plain fun _ _ h => h) ?_
     all_goals (rintro v m ⟨hR, hm⟩; subst hR; subst hm)
     all_goals refine And.intro (by first | rfl | simp only [go_sem, hb, hcv, Int.toNat_one, Int.reduceTMod, Int.reduceTDiv, Int.mul_zero, hcq, hs1, W16.ls, W16.sh, W16.unsh]) (And.intro (by first | rfl | simp only [go_sem, hb, hcv, Int.toNat_one, Int.reduceTMod, Int.reduceTDiv, Int.mul_zero, hcq, hs1, W16.ls, W16.sh, W16.unsh]) ?_)
     all_goals simp only [go_sem, hb, hcv, Int.toNat_one, Int.reduceTMod, Int.reduceTDiv, Int.mul_zero, hcq, hs1, W16.ls, W16.sh, W16.unsh]
     all_goals repeat' (first | apply And.intro | intro _)
     refine hK169 _ ?_
     refine bn95 _ ?_
     refine hN94 _ ?_
     refine region_k fun K170 hK170 => ?_
     simp only [go_sem, hb, hcv, Int.toNat_one, Int.reduceTMod, Int.reduceTDiv, Int.mul_zero, hcq, hs1, W16.ls, W16.sh, W16.unsh]
     repeat' (first | apply And.intro | intro _)
     refine hK170 _ ?_
     refine hN91 _ ?_
     refine rnd_forget [13, 14, 15, 16, 61, 62, 63, 64, 65, 66, 67, 68, 69, 70, 71, 72, 73, 74, 75, 76, 77, 78, 79, 80, 81, 82, 83, 84, 85, 86, 87, 88, 89, 90, 91, 92, 93, 94, 95, 96, 97, 98, 99, 100, 101, 102, 103, 104, 105, 106, 107, 108, 109, 110, 111, 112, 113, 114, 115, 116, 117, 118, 119, 120, 121, 122, 123, 124, 125, 126, 127, 128, 129, 130, 131, 132, 133, 134, 135, 136, 137, 138, 139, 140, 141, 142, 143, 144, 145, 146, 147, 148, 149, 150, 151, 152, 153, 154, 155, 156, 157, 158, 159, 160, 161, 162, 163, 164, 165, 166, 167, 168, 169, 170, 171, 172, 173, 174, 175, 176, 177, 178, 179, 180, 181, 182, 183, 184, 185, 186, 187, 188, 189, 190, 191] ?_
     simp only [go_sem, St.forget, fgt]
     refine rnd_k fun N171 M171 hN171 hM171 => ?_
     refine sr_k fun K172 hK172 => ?_
     simp only [go_sem, hb, hcv, Int.toNat_one, Int.reduceTMod, Int.reduceTDiv, Int.mul_zero, hcq, hs1, W16.ls, W16.sh, W16.unsh]
     repeat' (first | apply And.intro | intro _)
     refine hK172 _ ?_
     refine seq_k fun N173 M173 hN173 hM173 => ?_
     refine condT_k (by first | rfl | (simp [go_sem, hb, hcv, Int.toNat_one, Int.reduceTMod, Int.reduceTDiv, Int.mul_zero, hcq, hs1, W16.ls, W16.sh, W16.unsh]; done)) ?_
     refine skip_k ?_
     refine hN173 _ ?_
     refine seq_k fun N174 M174 hN174 hM174 => ?_
     refine block_k fun B175 bn175 bx175 br175 bi175 => ?_
     refine sr_k fun K176 hK176 => ?_
     simp only [go_sem, hb, hcv, Int.toNat_one, Int.reduceTMod, Int.reduceTDiv, Int.mul_zero, hcq, hs1, W16.ls, W16.sh, W16.unsh]
     repeat' (first | apply And.intro | intro _)
     refine hK176 _ ?_
     refine sr_k fun K177 hK177 => ?_
     simp only [go_sem, hb, hcv, Int.toNat_one, Int.reduceTMod, Int.reduceTDiv, Int.mul_zero, hcq, hs1, W16.ls, W16.sh, W16.unsh]
     repeat' (first | apply And.intro | intro _)
     all_goals refine call_view (fun k => k) (fun _ _ => rfl) (by first | rfl | (simp only [go_sem, hb, hcv, Int.toNat_one, Int.reduceTMod, Int.reduceTDiv, Int.mul_zero, hcq, hs1, W16.ls, W16.sh, W16.unsh] <;> rfl)) ((shifted_1 j0a2 j1a2 j2a2 j3a2 j0b2 j1b2 j2b2 j3b2 j0c2 j1c2 j2c2 j3c2 j0d2 j1d2 j2d2 j3d2).plain fun _ _ h => h) ?_
     all_goals (rintro v m ⟨hR, hm⟩; subst hR; subst hm)
     all_goals refine And.intro (by first | rfl | simp only [go_sem, hb, hcv, Int.toNat_one, Int.reduceTMod, Int.reduceTDiv, Int.mul_zero, hcq, hs1, W16.ls, W16.sh, W16.unsh]) (And.intro (by first | rfl | simp only [go_sem, hb, hcv, Int.toNat_one, Int.reduceTMod, Int.reduceTDiv, Int.mul_zero, hcq, hs1, W16.ls, W16.sh, W16.unsh]) ?_)
     all_goals simp only [go_sem, hb, hcv, Int.toNat_one, Int.reduceTMod, Int.reduceTDiv, Int.mul_zero, hcq, hs1, W16.ls, W16.sh, W16.unsh]
     all_goals repeat' (first | apply And.intro | intro _)
     refine hK177 _ ?_
     refine seq_k fun N178 M178 hN178 hM178 => ?_
     refine sr_k fun K179 hK179 => ?_
     simp only [go_sem, hb, hcv, Int.toNat_one, Int.reduceTMod, Int.reduceTDiv, Int.mul_zero, hcq, hs1, W16.ls, W16.sh, W16.unsh]
     repeat' (first | apply And.intro | intro _)
     refine hK179 _ ?_
     refine block_k fun B180 bn180 bx180 br180 bi180 => ?_
     refine rounds_k 5 ?_
     refine rnd_k fun N182 M182 hN182 hM182 => ?_
     refine sr_k fun K183 hK183 => ?_
     simp only [go_sem, hb, hcv, Int.toNat_one, Int.reduceTMod, Int.reduceTDiv, Int.mul_zero, hcq, hs1, W16.ls, W16.sh, W16.unsh, hm8, hm9, hj4a1, hj4d1, hj4c1, hj4b1, hj4a2, hj4d2, hj4c2, hj4b2]
     repeat' (first | apply And.intro | intro _)
     refine hK183 _ ?_
     refine seq_k fun N184 M184 hN184 hM184 => ?_
     refine condT_k (by first | rfl | (simp [go_sem, hb, hcv, Int.toNat_one, Int.reduceTMod, Int.reduceTDiv, Int.mul_zero, hcq, hs1, W16.ls, W16.sh, W16.unsh, hm8, hm9, hj4a1, hj4d1, hj4c1, hj4b1, hj4a2, hj4d2, hj4c2, hj4b2]; done)) ?_
     refine skip_k ?_
     refine hN184 _ ?_
     refine seq_k fun N185 M185 hN185 hM185 => ?_
     refine block_k fun B186 bn186 bx186 br186 bi186 => ?_
     refine sr_k fun K187 hK187 => ?_
     simp only [go_sem, hb, hcv, Int.toNat_one, Int.reduceTMod, Int.reduceTDiv, Int.mul_zero, hcq, hs1, W16.ls, W16.sh, W16.unsh, hm8, hm9, hj4a1, hj4d1, hj4c1, hj4b1, hj4a2, hj4d2, hj4c2, hj4b2]
     repeat' (first | apply And.intro | intro _)
     refine hK187 _ ?_
     refine sr_k fun K188 hK188 => ?_
     simp only [go_sem, hb, hcv, Int.toNat_one, Int.reduceTMod, Int.reduceTDiv, Int.mul_zero, hcq, hs1, W16.ls, W16.sh, W16.unsh, hm8, hm9, hj4a1, hj4d1, hj4c1, hj4b1, hj4a2, hj4d2, hj4c2, hj4b2]
     repeat' (first | apply And.intro | intro _)
     all_goals (refine call_fn (caps := [5]) false [(500000, 5)] (fun k => k) ?_ ?_ (fun _ _ => rfl) ?_ (by decide) ?_ (word_8 b hb k hlt) ?_; iterate 4 (focus (first | rfl | (simp only [go_sem, hb, hcv, Int.toNat_one, Int.reduceTMod, Int.reduceTDiv, Int.mul_zero, hcq, hs1, W16.ls, W16.sh, W16.unsh, hm8, hm9, hj4a1, hj4d1, hj4c1, hj4b1, hj4a2, hj4d2, hj4c2, hj4b2] <;> first | done | rfl | simp))))
     all_goals (rintro v m ⟨hR, hm⟩; subst hR; subst hm)
     all_goals (refine And.intro ?_ (And.intro ?_ (And.intro ?_ ?_)); iterate 3 (focus (first | rfl | (simp only [go_sem, hb, hcv, Int.toNat_one, Int.reduceTMod, Int.reduceTDiv, Int.mul_zero, hcq, hs1, W16.ls, W16.sh, W16.unsh, hm8, hm9, hj4a1, hj4d1, hj4c1, hj4b1, hj4a2, hj4d2, hj4c2, hj4b2]; done) | (simp [go_sem, look, hb, hcv, Int.toNat_one, Int.reduceTMod, Int.reduceTDiv, Int.mul_zero, hcq, hs1, W16.ls, W16.sh, W16.unsh, hm8, hm9, hj4a1, hj4d1, hj4c1, hj4b1, hj4a2, hj4d2, hj4c2, hj4b2]; done))))
     all_goals (try simp only [go_sem, hb, hcv, Int.toNat_one, Int.reduceTMod, Int.reduceTDiv, Int.mul_zero, hcq, hs1, W16.ls, W16.sh, W16.unsh, hm8, hm9, hj4a1, hj4d1, hj4c1, hj4b1, hj4a2, hj4d2, hj4c2, hj4b2])
     all_goals (try simp only [go_sem, hb, hcv, Int.toNat_one, Int.reduceTMod, Int.reduceTDiv, Int.mul_zero, hcq, hs1, W16.ls, W16.sh, W16.unsh, hm8, hm9, hj4a1, hj4d1, hj4c1, hj4b1, hj4a2, hj4d2, hj4c2, hj4b2])
     all_goals repeat' (first | apply And.intro | intro _)
     all_goals (refine call_fn (caps := [5]) false [(500000, 5)] (fun k => k) ?_ ?_ (fun _ _ => rfl) ?_ (by decide) ?_ (word_9 b hb k hlt) ?_; iterate 4 (focus (first | rfl | (simp only [go_sem, hb, hcv, Int.toNat_one, Int.reduceTMod, Int.reduceTDiv, Int.mul_zero, hcq, hs1, W16.ls, W16.sh, W16.unsh, hm8, hm9, hj4a1, hj4d1, hj4c1, hj4b1, hj4a2, hj4d2, hj4c2, hj4b2] <;> first | done | rfl | simp))))
     all_goals (rintro v m ⟨hR, hm⟩; subst hR; subst hm)
     all_goals (refine And.intro ?_ (And.intro ?_ (And.intro ?_ ?_)); iterate 3 (focus (first | rfl | (simp only [go_sem, hb, hcv, Int.toNat_one, Int.reduceTMod, Int.reduceTDiv, Int.mul_zero, hcq, hs1, W16.ls, W16.sh, W16.unsh, hm8, hm9, hj4a1, hj4d1, hj4c1, hj4b1, hj4a2, hj4d2, hj4c2, hj4b2]; done) | (simp [go_sem, look, hb, hcv, Int.toNat_one, Int.reduceTMod, Int.reduceTDiv, Int.mul_zero, hcq, hs1, W16.ls, W16.sh, W16.unsh, hm8, hm9, hj4a1, hj4d1, hj4c1, hj4b1, hj4a2, hj4d2, hj4c2, hj4b2]; done))))
     all_goals (try simp only [go_sem, hb, hcv, Int.toNat_one, Int.reduceTMod, Int.reduceTDiv, Int.mul_zero, hcq, hs1, W16.ls, W16.sh, W16.unsh, hm8, hm9, hj4a1, hj4d1, hj4c1, hj4b1, hj4a2, hj4d2, hj4c2, hj4b2])
     all_goals (try simp only [go_sem, hb, hcv, Int.toNat_one, Int.reduceTMod, Int.reduceTDiv, Int.mul_zero, hcq, hs1, W16.ls, W16.sh, W16.unsh, hm8, hm9, hj4a1, hj4d1, hj4c1, hj4b1, hj4a2, hj4d2, hj4c2, hj4b2])
     all_goals repeat' (first | apply And.intro | intro _)
     refine hK188 _ ?_
     refine sd_k [86, 87, 88, 89, 90, 91, 92, 93, 94, 95, 96, 97, 98] [0, 0, 3, 7, 0, 0, 48, 112, 0, 496, 1023, 0, 4095, 8191] [] mixed (by kernel_rfl) (by simp only [go_sem]) fun K189 hK189 => ?_
     simp only [go_sem, hb, hcv, Int.toNat_one, Int.reduceTMod, Int.reduceTDiv, Int.mul_zero, hcq, hs1, W16.ls, W16.sh, W16.unsh, hm8, hm9, hj4a1, hj4d1, hj4c1, hj4b1, hj4a2, hj4d2, hj4c2, hj4b2]
     repeat' (first | apply And.intro | intro _)
     refine hK189 _ _ trivial ?_
     refine sd_k [99, 100, 101, 102, 103, 104, 105, 106, 107, 108, 109, 110, 111] [0, 0, 0, 6, 14, 0, 0, 96, 224, 510, 1022, 0, 4095, 8191] [] mixed (by kernel_rfl) (by simp only [go_sem]) fun K190 hK190 => ?_
     simp only [go_sem, hb, hcv, Int.toNat_one, Int.reduceTMod, Int.reduceTDiv, Int.mul_zero, hcq, hs1, W16.ls, W16.sh, W16.unsh, hm8, hm9, hj4a1, hj4d1, hj4c1, hj4b1, hj4a2, hj4d2, hj4c2, hj4b2]
     repeat' (first | apply And.intro | intro _)
     all_goals refine call_draw (fun k => k) _ [] (fun _ _ => rfl) (by first | rfl | (simp only [go_sem, hb, hcv, Int.toNat_one, Int.reduceTMod, Int.reduceTDiv, Int.mul_zero, hcq, hs1, W16.ls, W16.sh, W16.unsh, hm8, hm9, hj4a1, hj4d1, hj4c1, hj4b1, hj4a2, hj4d2, hj4c2, hj4b2] <;> rfl)) ((left_16 _).plain fun _ _ h => h) ?_ ?_
     all_goals try (refine And.intro ?_ (And.intro ?_ (And.intro ?_ ?_)) <;> first | rfl | simp only [go_sem])
     all_goals simp only [go_sem, hb, hcv, Int.toNat_one, Int.reduceTMod, Int.reduceTDiv, Int.mul_zero, hcq, hs1, W16.ls, W16.sh, W16.unsh, hm8, hm9, hj4a1, hj4d1, hj4c1, hj4b1, hj4a2, hj4d2, hj4c2, hj4b2]
     all_goals repeat' (first | apply And.intro | intro _)
     refine hK190 _ _ trivial ?_
     refine sd_k [112, 113, 114, 115, 116, 117, 118, 119, 120, 121, 122] [0, 0, 3, 7, 0, 0, 48, 112, 255, 0, 1023, 2047] [] mixed (by kernel_rfl) (by simp only [go_sem]) fun K191 hK191 => ?_
     simp only [go_sem, hb, hcv, Int.toNat_one, Int.reduceTMod, Int.reduceTDiv, Int.mul_zero, hcq, hs1, W16.ls, W16.sh, W16.unsh, hm8, hm9, hj4a1, hj4d1, hj4c1, hj4b1, hj4a2, hj4d2, hj4c2, hj4b2]
     repeat' (first | apply And.intro | intro _)
     refine hK191 _ _ trivial ?_
     refine sd_k [123, 124, 125, 126, 127, 128, 129, 130, 131, 132, 133, 134, 135] [0, 0, 0, 6, 14, 0, 0, 96, 224, 510, 1022, 0, 4095, 8191] [] mixed (by kernel_rfl) (by simp only [go_sem]) fun K192 hK192 => ?_
     simp only [go_sem, hb, hcv, Int.toNat_one, Int.reduceTMod, Int.reduceTDiv, Int.mul_zero, hcq, hs1, W16.ls, W16.sh, W16.unsh, hm8, hm9, hj4a1, hj4d1, hj4c1, hj4b1, hj4a2, hj4d2, hj4c2, hj4b2]
     repeat' (first | apply And.intro | intro _)
     all_goals refine call_draw (fun k => k) _ [] (fun _ _ => rfl) (by first | rfl | (simp only [go_sem, hb, hcv, Int.toNat_one, Int.reduceTMod, Int.reduceTDiv, Int.mul_zero, hcq, hs1, W16.ls, W16.sh, W16.unsh, hm8, hm9, hj4a1, hj4d1, hj4c1, hj4b1, hj4a2, hj4d2, hj4c2, hj4b2] <;> rfl)) ((left_20 _).plain fun _ _ h => h) ?_ ?_
     all_goals try (refine And.intro ?_ (And.intro ?_ (And.intro ?_ ?_)) <;> first | rfl | simp only [go_sem])
     all_goals simp only [go_sem, hb, hcv, Int.toNat_one, Int.reduceTMod, Int.reduceTDiv, Int.mul_zero, hcq, hs1, W16.ls, W16.sh, W16.unsh, hm8, hm9, hj4a1, hj4d1, hj4c1, hj4b1, hj4a2, hj4d2, hj4c2, hj4b2]
     all_goals repeat' (first | apply And.intro | intro _)
     refine hK192 _ _ trivial ?_
     refine sd_k [136, 137, 138, 139, 140, 141, 142, 143, 144, 145, 146, 147, 148] [0, 0, 3, 7, 0, 0, 48, 112, 0, 496, 1023, 0, 4095, 8191] [] mixed (by kernel_rfl) (by simp only [go_sem]) fun K193 hK193 => ?_
     simp only [go_sem, hb, hcv, Int.toNat_one, Int.reduceTMod, Int.reduceTDiv, Int.mul_zero, hcq, hs1, W16.ls, W16.sh, W16.unsh, hm8, hm9, hj4a1, hj4d1, hj4c1, hj4b1, hj4a2, hj4d2, hj4c2, hj4b2]
     repeat' (first | apply And.intro | intro _)
     refine hK193 _ _ trivial ?_
     refine sd_k [149, 150, 151, 152, 153, 154, 155, 156, 157, 158, 159, 160, 161] [0, 0, 0, 6, 14, 0, 0, 96, 224, 510, 1022, 0, 4095, 8191] [] mixed (by kernel_rfl) (by simp only [go_sem]) fun K194 hK194 => ?_
     simp only [go_sem, hb, hcv, Int.toNat_one, Int.reduceTMod, Int.reduceTDiv, Int.mul_zero, hcq, hs1, W16.ls, W16.sh, W16.unsh, hm8, hm9, hj4a1, hj4d1, hj4c1, hj4b1, hj4a2, hj4d2, hj4c2, hj4b2]
     repeat' (first | apply And.intro | intro _)
     all_goals refine call_draw (fun k => k) _ [] (fun _ _ => rfl) (by first | rfl | (simp only [go_sem, hb, hcv, Int.toNat_one, Int.reduceTMod, Int.reduceTDiv, Int.mul_zero, hcq, hs1, W16.ls, W16.sh, W16.unsh, hm8, hm9, hj4a1, hj4d1, hj4c1, hj4b1, hj4a2, hj4d2, hj4c2, hj4b2] <;> rfl)) ((left_24 _).plain fun _ _ h => h) ?_ ?_
     all_goals try (refine And.intro ?_ (And.intro ?_ (And.intro ?_ ?_)) <;> first | rfl | simp only [go_sem])
     all_goals simp only [go_sem, hb, hcv, Int.toNat_one, Int.reduceTMod, Int.reduceTDiv, Int.mul_zero, hcq, hs1, W16.ls, W16.sh, W16.unsh, hm8, hm9, hj4a1, hj4d1, hj4c1, hj4b1, hj4a2, hj4d2, hj4c2, hj4b2]
     all_goals repeat' (first | apply And.intro | intro _)
     refine hK194 _ _ trivial ?_
     refine sd_k [162, 163, 164, 165, 166, 167, 168, 169, 170, 171, 172] [0, 0, 3, 7, 0, 0, 48, 112, 255, 0, 1023, 2047] [] mixed (by kernel_rfl) (by simp only [go_sem]) fun K195 hK195 => ?_
     simp only [go_sem, hb, hcv, Int.toNat_one, Int.reduceTMod, Int.reduceTDiv, Int.mul_zero, hcq, hs1, W16.ls, W16.sh, W16.unsh, hm8, hm9, hj4a1, hj4d1, hj4c1, hj4b1, hj4a2, hj4d2, hj4c2, hj4b2]
     repeat' (first | apply And.intro | intro _)
     refine hK195 _ _ trivial ?_
     refine draw_k [173, 174, 175, 176, 177, 178, 179, 180, 181, 182, 183, 184, 185] [0, 0, 0, 6, 14, 0, 0, 96, 224, 510, 1022, 0, 4095, 8191] [] mixed (by kernel_rfl) (by simp only [go_sem]) fun K196 hK196 => ?_
     simp only [go_sem, hb, hcv, Int.toNat_one, Int.reduceTMod, Int.reduceTDiv, Int.mul_zero, hcq, hs1, W16.ls, W16.sh, W16.unsh, hm8, hm9, hj4a1, hj4d1, hj4c1, hj4b1, hj4a2, hj4d2, hj4c2, hj4b2]
     repeat' (first | apply And.intro | intro _)
     all_goals refine call_draw (fun k => k) _ [] (fun _ _ => rfl) (by first | rfl | (simp only [go_sem, hb, hcv, Int.toNat_one, Int.reduceTMod, Int.reduceTDiv, Int.mul_zero, hcq, hs1, W16.ls, W16.sh, W16.unsh, hm8, hm9, hj4a1, hj4d1, hj4c1, hj4b1, hj4a2, hj4d2, hj4c2, hj4b2] <;> rfl)) ((left_25 _).plain fun _ _ h => h) ?_ ?_
     all_goals try (refine And.intro ?_ (And.intro ?_ (And.intro ?_ ?_)) <;> first | rfl | simp only [go_sem])
     all_goals simp only [go_sem, hb, hcv, Int.toNat_one, Int.reduceTMod, Int.reduceTDiv, Int.mul_zero, hcq, hs1, W16.ls, W16.sh, W16.unsh, hm8, hm9, hj4a1, hj4d1, hj4c1, hj4b1, hj4a2, hj4d2, hj4c2, hj4b2]
     all_goals repeat' (first | apply And.intro | intro _)
     refine hK196 _ _ trivial ?_
     refine bn186 _ ?_
     refine hN185 _ ?_
     refine region_k fun K197 hK197 => ?_
     simp only [go_sem, hb, hcv, Int.toNat_one, Int.reduceTMod, Int.reduceTDiv, Int.mul_zero, hcq, hs1, W16.ls, W16.sh, W16.unsh, hm8, hm9, hj4a1, hj4d1, hj4c1, hj4b1, hj4a2, hj4d2, hj4c2, hj4b2]
     repeat' (first | apply And.intro | intro _)
     refine hK197 _ ?_
     refine hN182 _ ?_
     refine rnd_forget [14, 15, 16, 67, 68, 69, 70, 71, 72, 73, 74, 75, 76, 77, 78, 79, 80, 81, 82, 83, 84, 85, 86, 87, 88, 89, 90, 91, 92, 93, 94, 95, 96, 97, 98, 99, 100, 101, 102, 103, 104, 105, 106, 107, 108, 109, 110, 111, 112, 113, 114, 115, 116, 117, 118, 119, 120, 121, 122, 123, 124, 125, 126, 127, 128, 129, 130, 131, 132, 133, 134, 135, 136, 137, 138, 139, 140, 141, 142, 143, 144, 145, 146, 147, 148, 149, 150, 151, 152, 153, 154, 155, 156, 157, 158, 159, 160, 161, 162, 163, 164, 165, 166, 167, 168, 169, 170, 171, 172, 173, 174, 175, 176, 177, 178, 179, 180, 181, 182, 183, 184, 185, 186] ?_
     simp only [go_sem, St.forget, fgt]
     refine rnd_k fun N198 M198 hN198 hM198 => ?_
     refine sr_k fun K199 hK199 => ?_
     simp only [go_sem, hb, hcv, Int.toNat_one, Int.reduceTMod, Int.reduceTDiv, Int.mul_zero, hcq, hs1, W16.ls, W16.sh, W16.unsh, hm10, hm11, hj5a1, hj5d1, hj5c1, hj5b1, hj5a2, hj5d2, hj5c2, hj5b2]
     repeat' (first | apply And.intro | intro _)
     refine hK199 _ ?_
     refine seq_k fun N200 M200 hN200 hM200 => ?_
     refine condT_k (by first | rfl | (simp [go_sem, hb, hcv, Int.toNat_one, Int.reduceTMod, Int.reduceTDiv, Int.mul_zero, hcq, hs1, W16.ls, W16.sh, W16.unsh, hm10, hm11, hj5a1, hj5d1, hj5c1, hj5b1, hj5a2, hj5d2, hj5c2, hj5b2]; done)) ?_
     refine skip_k ?_
     refine hN200 _ ?_
     refine seq_k fun N201 M201 hN201 hM201 => ?_
     refine block_k fun B202 bn202 bx202 br202 bi202 => ?_
     refine sr_k fun K203 hK203 => ?_
     simp only [go_sem, hb, hcv, Int.toNat_one, Int.reduceTMod, Int.reduceTDiv, Int.mul_zero, hcq, hs1, W16.ls, W16.sh, W16.unsh, hm10, hm11, hj5a1, hj5d1, hj5c1, hj5b1, hj5a2, hj5d2, hj5c2, hj5b2]
     repeat' (first | apply And.intro | intro _)
     refine hK203 _ ?_
     refine sr_k fun K204 hK204 => ?_
     simp only [go_sem, hb, hcv, Int.toNat_one, Int.reduceTMod, Int.reduceTDiv, Int.mul_zero, hcq, hs1, W16.ls, W16.sh, W16.unsh, hm10, hm11, hj5a1, hj5d1, hj5c1, hj5b1, hj5a2, hj5d2, hj5c2, hj5b2]
     repeat' (first | apply And.intro | intro _)
     all_goals (refine call_fn (caps := [5]) false [(500000, 5)] (fun k => k) ?_ ?_ (fun _ _ => rfl) ?_ (by decide) ?_ (word_10 b hb k hlt) ?_; iterate 4 (focus (first | rfl | (simp only [go_sem, hb, hcv, Int.toNat_one, Int.reduceTMod, Int.reduceTDiv, Int.mul_zero, hcq, hs1, W16.ls, W16.sh, W16.unsh, hm10, hm11, hj5a1, hj5d1, hj5c1, hj5b1, hj5a2, hj5d2, hj5c2, hj5b2] <;> first | done | rfl | simp))))
     all_goals (rintro v m ⟨hR, hm⟩; subst hR; subst hm)
     all_goals (refine And.intro ?_ (And.intro ?_ (And.intro ?_ ?_)); iterate 3 (focus (first | rfl | (simp only [go_sem, hb, hcv, Int.toNat_one, Int.reduceTMod, Int.reduceTDiv, Int.mul_zero, hcq, hs1, W16.ls, W16.sh, W16.unsh, hm10, hm11, hj5a1, hj5d1, hj5c1, hj5b1, hj5a2, hj5d2, hj5c2, hj5b2]; done) | (simp [go_sem, look, hb, hcv, Int.toNat_one, Int.reduceTMod, Int.reduceTDiv, Int.mul_zero, hcq, hs1, W16.ls, W16.sh, W16.unsh, hm10, hm11, hj5a1, hj5d1, hj5c1, hj5b1, hj5a2, hj5d2, hj5c2, hj5b2]; done))))
     all_goals (try simp only [go_sem, hb, hcv, Int.toNat_one, Int.reduceTMod, Int.reduceTDiv, Int.mul_zero, hcq, hs1, W16.ls, W16.sh, W16.unsh, hm10, hm11, hj5a1, hj5d1, hj5c1, hj5b1, hj5a2, hj5d2, hj5c2, hj5b2])
     all_goals (try simp only [go_sem, hb, hcv, Int.toNat_one, Int.reduceTMod, Int.reduceTDiv, Int.mul_zero, hcq, hs1, W16.ls, W16.sh, W16.unsh, hm10, hm11, hj5a1, hj5d1, hj5c1, hj5b1, hj5a2, hj5d2, hj5c2, hj5b2])
     all_goals repeat' (first | apply And.intro | intro _)
     all_goals (refine call_fn (caps := [5]) false [(500000, 5)] (fun k => k) ?_ ?_ (fun _ _ => rfl) ?_ (by decide) ?_ (word_11 b hb k hlt) ?_; iterate 4 (focus (first | rfl | (simp only [go_sem, hb, hcv, Int.toNat_one, Int.reduceTMod, Int.reduceTDiv, Int.mul_zero, hcq, hs1, W16.ls, W16.sh, W16.unsh, hm10, hm11, hj5a1, hj5d1, hj5c1, hj5b1, hj5a2, hj5d2, hj5c2, hj5b2] <;> first | done | rfl | simp))))
     all_goals (rintro v m ⟨hR, hm⟩; subst hR; subst hm)
     all_goals (refine And.intro ?_ (And.intro ?_ (And.intro ?_ ?_)); iterate 3 (focus (first | rfl | (simp only [go_sem, hb, hcv, Int.toNat_one, Int.reduceTMod, Int.reduceTDiv, Int.mul_zero, hcq, hs1, W16.ls, W16.sh, W16.unsh, hm10, hm11, hj5a1, hj5d1, hj5c1, hj5b1, hj5a2, hj5d2, hj5c2, hj5b2]; done) | (simp [go_sem, look, hb, hcv, Int.toNat_one, Int.reduceTMod, Int.reduceTDiv, Int.mul_zero, hcq, hs1, W16.ls, W16.sh, W16.unsh, hm10, hm11, hj5a1, hj5d1, hj5c1, hj5b1, hj5a2, hj5d2, hj5c2, hj5b2]; done))))
     all_goals (try simp only [go_sem, hb, hcv, Int.toNat_one, Int.reduceTMod, Int.reduceTDiv, Int.mul_zero, hcq, hs1, W16.ls, W16.sh, W16.unsh, hm10, hm11, hj5a1, hj5d1, hj5c1, hj5b1, hj5a2, hj5d2, hj5c2, hj5b2])
     all_goals (try simp only [go_sem, hb, hcv, Int.toNat_one, Int.reduceTMod, Int.reduceTDiv, Int.mul_zero, hcq, hs1, W16.ls, W16.sh, W16.unsh, hm10, hm11, hj5a1, hj5d1, hj5c1, hj5b1, hj5a2, hj5d2, hj5c2, hj5b2])
     all_goals repeat' (first | apply And.intro | intro _)
     refine hK204 _ ?_
     refine sd_k [86, 87, 88, 89, 90, 91, 92, 93, 94, 95, 96, 97, 98] [0, 0, 3, 7, 0, 0, 48, 112, 0, 496, 1023, 0, 4095, 8191] [] mixed (by kernel_rfl) (by simp only [go_sem]) fun K205 hK205 => ?_
     simp only [go_sem, hb, hcv, Int.toNat_one, Int.reduceTMod, Int.reduceTDiv, Int.mul_zero, hcq, hs1, W16.ls, W16.sh, W16.unsh, hm10, hm11, hj5a1, hj5d1, hj5c1, hj5b1, hj5a2, hj5d2, hj5c2, hj5b2]
     repeat' (first | apply And.intro | intro _)
     refine hK205 _ _ trivial ?_
     refine sd_k [99, 100, 101, 102, 103, 104, 105, 106, 107, 108, 109, 110, 111] [0, 0, 0, 6, 14, 0, 0, 96, 224, 510, 1022, 0, 4095, 8191] [] mixed (by kernel_rfl) (by simp only [go_sem]) fun K206 hK206 => ?_
     simp only [go_sem, hb, hcv, Int.toNat_one, Int.reduceTMod, Int.reduceTDiv, Int.mul_zero, hcq, hs1, W16.ls, W16.sh, W16.unsh, hm10, hm11, hj5a1, hj5d1, hj5c1, hj5b1, hj5a2, hj5d2, hj5c2, hj5b2]
     repeat' (first | apply And.intro | intro _)
     all_goals refine call_draw (fun k => k) _ [] (fun _ _ => rfl) (by first | rfl | (simp only [go_sem, hb, hcv, Int.toNat_one, Int.reduceTMod, Int.reduceTDiv, Int.mul_zero, hcq, hs1, W16.ls, W16.sh, W16.unsh, hm10, hm11, hj5a1, hj5d1, hj5c1, hj5b1, hj5a2, hj5d2, hj5c2, hj5b2] <;> rfl)) ((left_16 _).plain fun _ _ h => h) ?_ ?_
     all_goals try (refine And.intro ?_ (And.intro ?_ (And.intro ?_ ?_)) <;> first | rfl | simp only [go_sem])
     all_goals simp only [go_sem, hb, hcv, Int.toNat_one, Int.reduceTMod, Int.reduceTDiv, Int.mul_zero, hcq, hs1, W16.ls, W16.sh, W16.unsh, hm10, hm11, hj5a1, hj5d1, hj5c1, hj5b1, hj5a2, hj5d2, hj5c2, hj5b2]
     all_goals repeat' (first | apply And.intro | intro _)
     refine hK206 _ _ trivial ?_
     refine sd_k [112, 113, 114, 115, 116, 117, 118, 119, 120, 121, 122] [0, 0, 3, 7, 0, 0, 48, 112, 255, 0, 1023, 2047] [] mixed (by kernel_rfl) (by simp only [go_sem]) fun K207 hK207 => ?_
     simp only [go_sem, hb, hcv, Int.toNat_one, Int.reduceTMod, Int.reduceTDiv, Int.mul_zero, hcq, hs1, W16.ls, W16.sh, W16.unsh, hm10, hm11, hj5a1, hj5d1, hj5c1, hj5b1, hj5a2, hj5d2, hj5c2, hj5b2]
     repeat' (first | apply And.intro | intro _)
     refine hK207 _ _ trivial ?_
     refine sd_k [123, 124, 125, 126, 127, 128, 129, 130, 131, 132, 133, 134, 135] [0, 0, 0, 6, 14, 0, 0, 96, 224, 510, 1022, 0, 4095, 8191] [] mixed (by kernel_rfl) (by simp only [go_sem]) fun K208 hK208 => ?_
     simp only [go_sem, hb, hcv, Int.toNat_one, Int.reduceTMod, Int.reduceTDiv, Int.mul_zero, hcq, hs1, W16.ls, W16.sh, W16.unsh, hm10, hm11, hj5a1, hj5d1, hj5c1, hj5b1, hj5a2, hj5d2, hj5c2, hj5b2]
     repeat' (first | apply And.intro | intro _)
     all_goals refine call_draw (fun k => k) _ [] (fun _ _ => rfl) (by first | rfl | (simp only [go_sem, hb, hcv, Int.toNat_one, Int.reduceTMod, Int.reduceTDiv, Int.mul_zero, hcq, hs1, W16.ls, W16.sh, W16.unsh, hm10, hm11, hj5a1, hj5d1, hj5c1, hj5b1, hj5a2, hj5d2, hj5c2, hj5b2] <;> rfl)) ((left_20 _).plain fun _ _ h => h) ?_ ?_
     all_goals try (refine And.intro ?_ (And.intro ?_ (And.intro ?_ ?_)) <;> first | rfl | simp only [go_sem])
     all_goals simp only [go_sem, hb, hcv, Int.toNat_one, Int.reduceTMod, Int.reduceTDiv, Int.mul_zero, hcq, hs1, W16.ls, W16.sh, W16.unsh, hm10, hm11, hj5a1, hj5d1, hj5c1, hj5b1, hj5a2, hj5d2, hj5c2, hj5b2]
     all_goals repeat' (first | apply And.intro | intro _)
     refine hK208 _ _ trivial ?_
     refine sd_k [136, 137, 138, 139, 140, 141, 142, 143, 144, 145, 146, 147, 148] [0, 0, 3, 7, 0, 0, 48, 112, 0, 496, 1023, 0, 4095, 8191] [] mixed (by kernel_rfl) (by simp only [go_sem]) fun K209 hK209 => ?_
     simp only [go_sem, hb, hcv, Int.toNat_one, Int.reduceTMod, Int.reduceTDiv, Int.mul_zero, hcq, hs1, W16.ls, W16.sh, W16.unsh, hm10, hm11, hj5a1, hj5d1, hj5c1, hj5b1, hj5a2, hj5d2, hj5c2, hj5b2]
     repeat' (first | apply And.intro | intro _)
     refine hK209 _ _ trivial ?_
     refine sd_k [149, 150, 151, 152, 153, 154, 155, 156, 157, 158, 159, 160, 161] [0, 0, 0, 6, 14, 0, 0, 96, 224, 510, 1022, 0, 4095, 8191] [] mixed (by kernel_rfl) (by simp only [go_sem]) fun K210 hK210 => ?_
     simp only [go_sem, hb, hcv, Int.toNat_one, Int.reduceTMod, Int.reduceTDiv, Int.mul_zero, hcq, hs1, W16.ls, W16.sh, W16.unsh, hm10, hm11, hj5a1, hj5d1, hj5c1, hj5b1, hj5a2, hj5d2, hj5c2, hj5b2]
     repeat' (first | apply And.intro | intro _)
     all_goals refine call_draw (fun k => k) _ [] (fun _ _ => rfl) (by first | rfl | (simp only [go_sem, hb, hcv, Int.toNat_one, Int.reduceTMod, Int.reduceTDiv, Int.mul_zero, hcq, hs1, W16.ls, W16.sh, W16.unsh, hm10, hm11, hj5a1, hj5d1, hj5c1, hj5b1, hj5a2, hj5d2, hj5c2, hj5b2] <;> rfl)) ((left_24 _).plain fun _ _ h => h) ?_ ?_
     all_goals try (refine And.intro ?_ (And.intro ?_ (And.intro ?_ ?_)) <;> first | rfl | simp only [go_sem])
     all_goals simp only [go_sem, hb, hcv, Int.toNat_one, Int.reduceTMod, Int.reduceTDiv, Int.mul_zero, hcq, hs1, W16.ls, W16.sh, W16.unsh, hm10, hm11, hj5a1, hj5d1, hj5c1, hj5b1, hj5a2, hj5d2, hj5c2, hj5b2]
     all_goals repeat' (first | apply And.intro | intro _)
     refine hK210 _ _ trivial ?_
     refine sd_k [162, 163, 164, 165, 166, 167, 168, 169, 170, 171, 172] [0, 0, 3, 7, 0, 0, 48, 112, 255, 0, 1023, 2047] [] mixed (by kernel_rfl) (by simp only [go_sem]) fun K211 hK211 => ?_
     simp only [go_sem, hb, hcv, Int.toNat_one, Int.reduceTMod, Int.reduceTDiv, Int.mul_zero, hcq, hs1, W16.ls, W16.sh, W16.unsh, hm10, hm11, hj5a1, hj5d1, hj5c1, hj5b1, hj5a2, hj5d2, hj5c2, hj5b2]
     repeat' (first | apply And.intro | intro _)
     refine hK211 _ _ trivial ?_
     refine draw_k [173, 174, 175, 176, 177, 178, 179, 180, 181, 182, 183, 184, 185] [0, 0, 0, 6, 14, 0, 0, 96, 224, 510, 1022, 0, 4095, 8191] [] mixed (by kernel_rfl) (by simp only [go_sem]) fun K212 hK212 => ?_
     simp only [go_sem, hb, hcv, Int.toNat_one, Int.reduceTMod, Int.reduceTDiv, Int.mul_zero, hcq, hs1, W16.ls, W16.sh, W16.unsh, hm10, hm11, hj5a1, hj5d1, hj5c1, hj5b1, hj5a2, hj5d2, hj5c2, hj5b2]
     repeat' (first | apply And.intro | intro _)
     all_goals refine call_draw (fun k => k) _ [] (fun _ _ => rfl) (by first | rfl | (simp only [go_sem, hb, hcv, Int.toNat_one, Int.reduceTMod, Int.reduceTDiv, Int.mul_zero, hcq, hs1, W16.ls, W16.sh, W16.unsh, hm10, hm11, hj5a1, hj5d1, hj5c1, hj5b1, hj5a2, hj5d2, hj5c2, hj5b2] <;> rfl)) ((left_25 _).plain fun _ _ h => h) ?_ ?_
     all_goals try (refine And.intro ?_ (And.intro ?_ (And.intro ?_ ?_)) <;> first | rfl | simp only [go_sem])
     all_goals simp only [go_sem, hb, hcv, Int.toNat_one, Int.reduceTMod, Int.reduceTDiv, Int.mul_zero, hcq, hs1, W16.ls, W16.sh, W16.unsh, hm10, hm11, hj5a1, hj5d1, hj5c1, hj5b1, hj5a2, hj5d2, hj5c2, hj5b2]
     all_goals repeat' (first | apply And.intro | intro _)
     refine hK212 _ _ trivial ?_
     refine bn202 _ ?_
     refine hN201 _ ?_
     refine region_k fun K213 hK213 => ?_
     simp only [go_sem, hb, hcv, Int.toNat_one, Int.reduceTMod, Int.reduceTDiv, Int.mul_zero, hcq, hs1, W16.ls, W16.sh, W16.unsh, hm10, hm11, hj5a1, hj5d1, hj5c1, hj5b1, hj5a2, hj5d2, hj5c2, hj5b2]
     repeat' (first | apply And.intro | intro _)
     refine hK213 _ ?_
     refine hN198 _ ?_
     refine rnd_forget [14, 15, 16, 67, 68, 69, 70, 71, 72, 73, 74, 75, 76, 77, 78, 79, 80, 81, 82, 83, 84, 85, 86, 87, 88, 89, 90, 91, 92, 93, 94, 95, 96, 97, 98, 99, 100, 101, 102, 103, 104, 105, 106, 107, 108, 109, 110, 111, 112, 113, 114, 115, 116, 117, 118, 119, 120, 121, 122, 123, 124, 125, 126, 127, 128, 129, 130, 131, 132, 133, 134, 135, 136, 137, 138, 139, 140, 141, 142, 143, 144, 145, 146, 147, 148, 149, 150, 151, 152, 153, 154, 155, 156, 157, 158, 159, 160, 161, 162, 163, 164, 165, 166, 167, 168, 169, 170, 171, 172, 173, 174, 175, 176, 177, 178, 179, 180, 181, 182, 183, 184, 185, 186] ?_
     simp only [go_sem, St.forget, fgt]
     refine rnd_k fun N214 M214 hN214 hM214 => ?_
     refine sr_k fun K215 hK215 => ?_
     simp only [go_sem, hb, hcv, Int.toNat_one, Int.reduceTMod, Int.reduceTDiv, Int.mul_zero, hcq, hs1, W16.ls, W16.sh, W16.unsh, hm12, hm13, hj6a1, hj6d1, hj6c1, hj6b1, hj6a2, hj6d2, hj6c2, hj6b2]
     repeat' (first | apply And.intro | intro _)
     refine hK215 _ ?_
     refine seq_k fun N216 M216 hN216 hM216 => ?_
     refine condT_k (by first | rfl | (simp [go_sem, hb, hcv, Int.toNat_one, Int.reduceTMod, Int.reduceTDiv, Int.mul_zero, hcq, hs1, W16.ls, W16.sh, W16.unsh, hm12, hm13, hj6a1, hj6d1, hj6c1, hj6b1, hj6a2, hj6d2, hj6c2, hj6b2]; done)) ?_
     refine skip_k ?_
     refine hN216 _ ?_
     refine seq_k fun N217 M217 hN217 hM217 => ?_
     refine block_k fun B218 bn218 bx218 br218 bi218 => ?_
     refine sr_k fun K219 hK219 => ?_
     simp only [go_sem, hb, hcv, Int.toNat_one, Int.reduceTMod, Int.reduceTDiv, Int.mul_zero, hcq, hs1, W16.ls, W16.sh, W16.unsh, hm12, hm13, hj6a1, hj6d1, hj6c1, hj6b1, hj6a2, hj6d2, hj6c2, hj6b2]
     repeat' (first | apply And.intro | intro _)
     refine hK219 _ ?_
     refine sr_k fun K220 hK220 => ?_
     simp only [go_sem, hb, hcv, Int.toNat_one, Int.reduceTMod, Int.reduceTDiv, Int.mul_zero, hcq, hs1, W16.ls, W16.sh, W16.unsh, hm12, hm13, hj6a1, hj6d1, hj6c1, hj6b1, hj6a2, hj6d2, hj6c2, hj6b2]
     repeat' (first | apply And.intro | intro _)
     all_goals (refine call_fn (caps := [5]) false [(500000, 5)] (fun k => k) ?_ ?_ (fun _ _ => rfl) ?_ (by decide) ?_ (word_12 b hb k hlt) ?_; iterate 4 (focus (first | rfl | (simp only [go_sem, hb, hcv, Int.toNat_one, Int.reduceTMod, Int.reduceTDiv, Int.mul_zero, hcq, hs1, W16.ls, W16.sh, W16.unsh, hm12, hm13, hj6a1, hj6d1, hj6c1, hj6b1, hj6a2, hj6d2, hj6c2, hj6b2] <;> first | done | rfl | simp))))
     all_goals (rintro v m ⟨hR, hm⟩; subst hR; subst hm)
     all_goals (refine And.intro ?_ (And.intro ?_ (And.intro ?_ ?_)); iterate 3 (focus (first | rfl | (simp only [go_sem, hb, hcv, Int.toNat_one, Int.reduceTMod, Int.reduceTDiv, Int.mul_zero, hcq, hs1, W16.ls, W16.sh, W16.unsh, hm12, hm13, hj6a1, hj6d1, hj6c1, hj6b1, hj6a2, hj6d2, hj6c2, hj6b2]; done) | (simp [go_sem, look, hb, hcv, Int.toNat_one, Int.reduceTMod, Int.reduceTDiv, Int.mul_zero, hcq, hs1, W16.ls, W16.sh, W16.unsh, hm12, hm13, hj6a1, hj6d1, hj6c1, hj6b1, hj6a2, hj6d2, hj6c2, hj6b2]; done))))
     all_goals (try simp only [go_sem, hb, hcv, Int.toNat_one, Int.reduceTMod, Int.reduceTDiv, Int.mul_zero, hcq, hs1, W16.ls, W16.sh, W16.unsh, hm12, hm13, hj6a1, hj6d1, hj6c1, hj6b1, hj6a2, hj6d2, hj6c2, hj6b2])
     all_goals (try simp only [go_sem, hb, hcv, Int.toNat_one, Int.reduceTMod, Int.reduceTDiv, Int.mul_zero, hcq, hs1, W16.ls, W16.sh, W16.unsh, hm12, hm13, hj6a1, hj6d1, hj6c1, hj6b1, hj6a2, hj6d2, hj6c2, hj6b2])
     all_goals repeat' (first | apply And.intro | intro _)
     all_goals (refine call_fn (caps := [5]) false [(500000, 5)] (fun k => k) ?_ ?_ (fun _ _ => rfl) ?_ (by decide) ?_ (word_13 b hb k hlt) ?_; iterate 4 (focus (first | rfl | (simp only [go_sem, hb, hcv, Int.toNat_one, Int.reduceTMod, Int.reduceTDiv, Int.mul_zero, hcq, hs1, W16.ls, W16.sh, W16.unsh, hm12, hm13, hj6a1, hj6d1, hj6c1, hj6b1, hj6a2, hj6d2, hj6c2, hj6b2] <;> first | done | rfl | simp))))
     all_goals (rintro v m ⟨hR, hm⟩; subst hR; subst hm)
     all_goals (refine And.intro ?_ (And.intro ?_ (And.intro ?_ ?_)); iterate 3 (focus (first | rfl | (simp only [go_sem, hb, hcv, Int.toNat_one, Int.reduceTMod, Int.reduceTDiv, Int.mul_zero, hcq, hs1, W16.ls, W16.sh, W16.unsh, hm12, hm13, hj6a1, hj6d1, hj6c1, hj6b1, hj6a2, hj6d2, hj6c2, hj6b2]; done) | (simp [go_sem, look, hb, hcv, Int.toNat_one, Int.reduceTMod, Int.reduceTDiv, Int.mul_zero, hcq, hs1, W16.ls, W16.sh, W16.unsh, hm12, hm13, hj6a1, hj6d1, hj6c1, hj6b1, hj6a2, hj6d2, hj6c2, hj6b2]; done))))
     all_goals (try simp only [go_sem, hb, hcv, Int.toNat_one, Int.reduceTMod, Int.reduceTDiv, Int.mul_zero, hcq, hs1, W16.ls, W16.sh, W16.unsh, hm12, hm13, hj6a1, hj6d1, hj6c1, hj6b1, hj6a2, hj6d2, hj6c2, hj6b2])
     all_goals (try simp only [go_sem, hb, hcv, Int.toNat_one, Int.reduceTMod, Int.reduceTDiv, Int.mul_zero, hcq, hs1, W16.ls, W16.sh, W16.unsh, hm12, hm13, hj6a1, hj6d1, hj6c1, hj6b1, hj6a2, hj6d2, hj6c2, hj6b2])
     all_goals repeat' (first | apply And.intro | intro _)
     refine hK220 _ ?_
     refine sd_k [86, 87, 88, 89, 90, 91, 92, 93, 94, 95, 96, 97, 98] [0, 0, 3, 7, 0, 0, 48, 112, 0, 496, 1023, 0, 4095, 8191] [] mixed (by kernel_rfl) (by simp only [go_sem]) fun K221 hK221 => ?_
     simp only [go_sem, hb, hcv, Int.toNat_one, Int.reduceTMod, Int.reduceTDiv, Int.mul_zero, hcq, hs1, W16.ls, W16.sh, W16.unsh, hm12, hm13, hj6a1, hj6d1, hj6c1, hj6b1, hj6a2, hj6d2, hj6c2, hj6b2]
     repeat' (first | apply And.intro | intro _)
     refine hK221 _ _ trivial ?_
     refine sd_k [99, 100, 101, 102, 103, 104, 105, 106, 107, 108, 109, 110, 111] [0, 0, 0, 6, 14, 0, 0, 96, 224, 510, 1022, 0, 4095, 8191] [] mixed (by kernel_rfl) (by simp only [go_sem]) fun K222 hK222 => ?_
     simp only [go_sem, hb, hcv, Int.toNat_one, Int.reduceTMod, Int.reduceTDiv, Int.mul_zero, hcq, hs1, W16.ls, W16.sh, W16.unsh, hm12, hm13, hj6a1, hj6d1, hj6c1, hj6b1, hj6a2, hj6d2, hj6c2, hj6b2]
     repeat' (first | apply And.intro | intro _)
     all_goals refine call_draw (fun k => k) _ [] (fun _ _ => rfl) (by first | rfl | (simp only [go_sem, hb, hcv, Int.toNat_one, Int.reduceTMod, Int.reduceTDiv, Int.mul_zero, hcq, hs1, W16.ls, W16.sh, W16.unsh, hm12, hm13, hj6a1, hj6d1, hj6c1, hj6b1, hj6a2, hj6d2, hj6c2, hj6b2] <;> rfl)) ((left_16 _).plain fun _ _ h => h) ?_ ?_
     all_goals try (refine And.intro ?_ (And.intro ?_ (And.intro ?_ ?_)) <;> first | rfl | simp only [go_sem])
     all_goals simp only [go_sem, hb, hcv, Int.toNat_one, Int.reduceTMod, Int.reduceTDiv, Int.mul_zero, hcq, hs1, W16.ls, W16.sh, W16.unsh, hm12, hm13, hj6a1, hj6d1, hj6c1, hj6b1, hj6a2, hj6d2, hj6c2, hj6b2]
     all_goals repeat' (first | apply And.intro | intro _)
     refine hK222 _ _ trivial ?_
     refine sd_k [112, 113, 114, 115, 116, 117, 118, 119, 120, 121, 122] [0, 0, 3, 7, 0, 0, 48, 112, 255, 0, 1023, 2047] [] mixed (by kernel_rfl) (by simp only [go_sem]) fun K223 hK223 => ?_
     simp only [go_sem, hb, hcv, Int.toNat_one, Int.reduceTMod, Int.reduceTDiv, Int.mul_zero, hcq, hs1, W16.ls, W16.sh, W16.unsh, hm12, hm13, hj6a1, hj6d1, hj6c1, hj6b1, hj6a2, hj6d2, hj6c2, hj6b2]
     repeat' (first | apply And.intro | intro _)
     refine hK223 _ _ trivial ?_
     refine sd_k [123, 124, 125, 126, 127, 128, 129, 130, 131, 132, 133, 134, 135] [0, 0, 0, 6, 14, 0, 0, 96, 224, 510, 1022, 0, 4095, 8191] [] mixed (by kernel_rfl) (by simp only [go_sem]) fun K224 hK224 => ?_
     simp only [go_sem, hb, hcv, Int.toNat_one, Int.reduceTMod, Int.reduceTDiv, Int.mul_zero, hcq, hs1, W16.ls, W16.sh, W16.unsh, hm12, hm13, hj6a1, hj6d1, hj6c1, hj6b1, hj6a2, hj6d2, hj6c2, hj6b2]
     repeat' (first | apply And.intro | intro _)
     all_goals refine call_draw (fun k => k) _ [] (fun _ _ => rfl) (by first | rfl | (simp only [go_sem, hb, hcv, Int.toNat_one, Int.reduceTMod, Int.reduceTDiv, Int.mul_zero, hcq, hs1, W16.ls, W16.sh, W16.unsh, hm12, hm13, hj6a1, hj6d1, hj6c1, hj6b1, hj6a2, hj6d2, hj6c2, hj6b2] <;> rfl)) ((left_20 _).plain fun _ _ h => h) ?_ ?_
     all_goals try (refine And.intro ?_ (And.intro ?_ (And.intro ?_ ?_)) <;> first | rfl | simp only [go_sem])
     all_goals simp only [go_sem, hb, hcv, Int.toNat_one, Int.reduceTMod, Int.reduceTDiv, Int.mul_zero, hcq, hs1, W16.ls, W16.sh, W16.unsh, hm12, hm13, hj6a1, hj6d1, hj6c1, hj6b1, hj6a2, hj6d2, hj6c2, hj6b2]
     all_goals repeat' (first | apply And.intro | intro _)
     refine hK224 _ _ trivial ?_
     refine sd_k [136, 137, 138, 139, 140, 141, 142, 143, 144, 145, 146, 147, 148] [0, 0, 3, 7, 0, 0, 48, 112, 0, 496, 1023, 0, 4095, 8191] [] mixed (by kernel_rfl) (by simp only [go_sem]) fun K225 hK225 => ?_
     simp only [go_sem, hb, hcv, Int.toNat_one, Int.reduceTMod, Int.reduceTDiv, Int.mul_zero, hcq, hs1, W16.ls, W16.sh, W16.unsh, hm12, hm13, hj6a1, hj6d1, hj6c1, hj6b1, hj6a2, hj6d2, hj6c2, hj6b2]
     repeat' (first | apply And.intro | intro _)
     refine hK225 _ _ trivial ?_
     refine sd_k [149, 150, 151, 152, 153, 154, 155, 156, 157, 158, 159, 160, 161] [0, 0, 0, 6, 14, 0, 0, 96, 224, 510, 1022, 0, 4095, 8191] [] mixed (by kernel_rfl) (by simp only [go_sem]) fun K226 hK226 => ?_
     simp only [go_sem, hb, hcv, Int.toNat_one, Int.reduceTMod, Int.reduceTDiv, Int.mul_zero, hcq, hs1, W16.ls, W16.sh, W16.unsh, hm12, hm13, hj6a1, hj6d1, hj6c1, hj6b1, hj6a2, hj6d2, hj6c2, hj6b2]
     repeat' (first | apply And.intro | intro _)
     all_goals refine call_draw (fun k => k) _ [] (fun _ _ => rfl) (by first | rfl | (simp only [go_sem, hb, hcv, Int.toNat_one, Int.reduceTMod, Int.reduceTDiv, Int.mul_zero, hcq, hs1, W16.ls, W16.sh, W16.unsh, hm12, hm13, hj6a1, hj6d1, hj6c1, hj6b1, hj6a2, hj6d2, hj6c2, hj6b2] <;> rfl)) ((left_24 _).plain fun _ _ h => h) ?_ ?_
     all_goals try (refine And.intro ?_ (And.intro ?_ (And.intro ?_ ?_)) <;> first | rfl | simp only [go_sem])
     all_goals simp only [go_sem, hb, hcv, Int.toNat_one, Int.reduceTMod, Int.reduceTDiv, Int.mul_zero, hcq, hs1, W16.ls, W16.sh, W16.unsh, hm12, hm13, hj6a1, hj6d1, hj6c1, hj6b1, hj6a2, hj6d2, hj6c2, hj6b2]
     all_goals repeat' (first | apply And.intro | intro _)
     refine hK226 _ _ trivial ?_
     refine sd_k [162, 163, 164, 165, 166, 167, 168, 169, 170, 171, 172] [0, 0, 3, 7, 0, 0, 48, 112, 255, 0, 1023, 2047] [] mixed (by kernel_rfl) (by simp only [go_sem]) fun K227 hK227 => ?_
     simp only [go_sem, hb, hcv, Int.toNat_one, Int.reduceTMod, Int.reduceTDiv, Int.mul_zero, hcq, hs1, W16.ls, W16.sh, W16.unsh, hm12, hm13, hj6a1, hj6d1, hj6c1, hj6b1, hj6a2, hj6d2, hj6c2, hj6b2]
     repeat' (first | apply And.intro | intro _)
     refine hK227 _ _ trivial ?_
     refine draw_k [173, 174, 175, 176, 177, 178, 179, 180, 181, 182, 183, 184, 185] [0, 0, 0, 6, 14, 0, 0, 96, 224, 510, 1022, 0, 4095, 8191] [] mixed (by kernel_rfl) (by simp only [go_sem]) fun K228 hK228 => ?_
     simp only [go_sem, hb, hcv, Int.toNat_one, Int.reduceTMod, Int.reduceTDiv, Int.mul_zero, hcq, hs1, W16.ls, W16.sh, W16.unsh, hm12, hm13, hj6a1, hj6d1, hj6c1, hj6b1, hj6a2, hj6d2, hj6c2, hj6b2]
     repeat' (first | apply And.intro | intro _)
     all_goals refine call_draw (fun k => k) _ [] (fun _ _ => rfl) (by first | rfl | (simp only [go_sem, hb, hcv, Int.toNat_one, Int.reduceTMod, Int.reduceTDiv, Int.mul_zero, hcq, hs1, W16.ls, W16.sh, W16.unsh, hm12, hm13, hj6a1, hj6d1, hj6c1, hj6b1, hj6a2, hj6d2, hj6c2, hj6b2] <;> rfl)) ((left_25 _).plain fun _ _ h => h) ?_ ?_
     all_goals try (refine And.intro ?_ (And.intro ?_ (And.intro ?_ ?_)) <;> first | rfl | simp only [go_sem])
     all_goals simp only [go_sem, hb, hcv, Int.toNat_one, Int.reduceTMod, Int.reduceTDiv, Int.mul_zero, hcq, hs1, W16.ls, W16.sh, W16.unsh, hm12, hm13, hj6a1, hj6d1, hj6c1, hj6b1, hj6a2, hj6d2, hj6c2, hj6b2]
     all_goals repeat' (first | apply And.intro | intro _)
     refine hK228 _ _ trivial ?_
     refine bn218 _ ?_
     refine hN217 _ ?_
     refine region_k fun K229 hK229 => ?_
     simp only [go_sem, hb, hcv, Int.toNat_one, Int.reduceTMod, Int.reduceTDiv, Int.mul_zero, hcq, hs1, W16.ls, W16.sh, W16.unsh, hm12, hm13, hj6a1, hj6d1, hj6c1, hj6b1, hj6a2, hj6d2, hj6c2, hj6b2]
     repeat' (first | apply And.intro | intro _)
     refine hK229 _ ?_
     refine hN214 _ ?_
     refine rnd_forget [14, 15, 16, 67, 68, 69, 70, 71, 72, 73, 74, 75, 76, 77, 78, 79, 80, 81, 82, 83, 84, 85, 86, 87, 88, 89, 90, 91, 92, 93, 94, 95, 96, 97, 98, 99, 100, 101, 102, 103, 104, 105, 106, 107, 108, 109, 110, 111, 112, 113, 114, 115, 116, 117, 118, 119, 120, 121, 122, 123, 124, 125, 126, 127, 128, 129, 130, 131, 132, 133, 134, 135, 136, 137, 138, 139, 140, 141, 142, 143, 144, 145, 146, 147, 148, 149, 150, 151, 152, 153, 154, 155, 156, 157, 158, 159, 160, 161, 162, 163, 164, 165, 166, 167, 168, 169, 170, 171, 172, 173, 174, 175, 176, 177, 178, 179, 180, 181, 182, 183, 184, 185, 186] ?_
     simp only [go_sem, St.forget, fgt]
     refine rnd_k fun N230 M230 hN230 hM230 => ?_
     refine sr_k fun K231 hK231 => ?_
     simp only [go_sem, hb, hcv, Int.toNat_one, Int.reduceTMod, Int.reduceTDiv, Int.mul_zero, hcq, hs1, W16.ls, W16.sh, W16.unsh, hm14, hm15, hj7a1, hj7d1, hj7c1, hj7b1, hj7a2, hj7d2, hj7c2, hj7b2]
     repeat' (first | apply And.intro | intro _)
     refine hK231 _ ?_
     refine seq_k fun N232 M232 hN232 hM232 => ?_
     refine condT_k (by first | rfl | (simp [go_sem, hb, hcv, Int.toNat_one, Int.reduceTMod, Int.reduceTDiv, Int.mul_zero, hcq, hs1, W16.ls, W16.sh, W16.unsh, hm14, hm15, hj7a1, hj7d1, hj7c1, hj7b1, hj7a2, hj7d2, hj7c2, hj7b2]; done)) ?_
     refine skip_k ?_
     refine hN232 _ ?_
     refine seq_k fun N233 M233 hN233 hM233 => ?_
     refine block_k fun B234 bn234 bx234 br234 bi234 => ?_
     refine sr_k fun K235 hK235 => ?_
     simp only [go_sem, hb, hcv, Int.toNat_one, Int.reduceTMod, Int.reduceTDiv, Int.mul_zero, hcq, hs1, W16.ls, W16.sh, W16.unsh, hm14, hm15, hj7a1, hj7d1, hj7c1, hj7b1, hj7a2, hj7d2, hj7c2, hj7b2]
     repeat' (first | apply And.intro | intro _)
     refine hK235 _ ?_
     refine sr_k fun K236 hK236 => ?_
     simp only [go_sem, hb, hcv, Int.toNat_one, Int.reduceTMod, Int.reduceTDiv, Int.mul_zero, hcq, hs1, W16.ls, W16.sh, W16.unsh, hm14, hm15, hj7a1, hj7d1, hj7c1, hj7b1, hj7a2, hj7d2, hj7c2, hj7b2]
     repeat' (first | apply And.intro | intro _)
     all_goals (refine call_fn (caps := [5]) false [(500000, 5)] (fun k => k) ?_ ?_ (fun _ _ => rfl) ?_ (by decide) ?_ (word_14 b hb k hlt) ?_; iterate 4 (focus (first | rfl | (simp only [go_sem, hb, hcv, Int.toNat_one, Int.reduceTMod, Int.reduceTDiv, Int.mul_zero, hcq, hs1, W16.ls, W16.sh, W16.unsh, hm14, hm15, hj7a1, hj7d1, hj7c1, hj7b1, hj7a2, hj7d2, hj7c2, hj7b2] <;> first | done | rfl | simp))))
     all_goals (rintro v m ⟨hR, hm⟩; subst hR; subst hm)
     all_goals (refine And.intro ?_ (And.intro ?_ (And.intro ?_ ?_)); iterate 3 (focus (first | rfl | (simp only [go_sem, hb, hcv, Int.toNat_one, Int.reduceTMod, Int.reduceTDiv, Int.mul_zero, hcq, hs1, W16.ls, W16.sh, W16.unsh, hm14, hm15, hj7a1, hj7d1, hj7c1, hj7b1, hj7a2, hj7d2, hj7c2, hj7b2]; done) | (simp [go_sem, look, hb, hcv, Int.toNat_one, Int.reduceTMod, Int.reduceTDiv, Int.mul_zero, hcq, hs1, W16.ls, W16.sh, W16.unsh, hm14, hm15, hj7a1, hj7d1, hj7c1, hj7b1, hj7a2, hj7d2, hj7c2, hj7b2]; done))))
     all_goals (try simp only [go_sem, hb, hcv, Int.toNat_one, Int.reduceTMod, Int.reduceTDiv, Int.mul_zero, hcq, hs1, W16.ls, W16.sh, W16.unsh, hm14, hm15, hj7a1, hj7d1, hj7c1, hj7b1, hj7a2, hj7d2, hj7c2, hj7b2])
     all_goals (try simp only [go_sem, hb, hcv, Int.toNat_one, Int.reduceTMod, Int.reduceTDiv, Int.mul_zero, hcq, hs1, W16.ls, W16.sh, W16.unsh, hm14, hm15, hj7a1, hj7d1, hj7c1, hj7b1, hj7a2, hj7d2, hj7c2, hj7b2])
     all_goals repeat' (first | apply And.intro | intro _)
     all_goals (refine call_fn (caps := [5]) false [(500000, 5)] (fun k => k) ?_ ?_ (fun _ _ => rfl) ?_ (by decide) ?_ (word_15 b hb k hlt) ?_; iterate 4 (focus (first | rfl | (simp only [go_sem, hb, hcv, Int.toNat_one, Int.reduceTMod, Int.reduceTDiv, Int.mul_zero, hcq, hs1, W16.ls, W16.sh, W16.unsh, hm14, hm15, hj7a1, hj7d1, hj7c1, hj7b1, hj7a2, hj7d2, hj7c2, hj7b2] <;> first | done | rfl | simp))))
     all_goals (rintro v m ⟨hR, hm⟩; subst hR; subst hm)
     all_goals (refine And.intro ?_ (And.intro ?_ (And.intro ?_ ?_)); iterate 3 (focus (first | rfl | (simp only [go_sem, hb, hcv, Int.toNat_one, Int.reduceTMod, Int.reduceTDiv, Int.mul_zero, hcq, hs1, W16.ls, W16.sh, W16.unsh, hm14, hm15, hj7a1, hj7d1, hj7c1, hj7b1, hj7a2, hj7d2, hj7c2, hj7b2]; done) | (simp [go_sem, look, hb, hcv, Int.toNat_one, Int.reduceTMod, Int.reduceTDiv, Int.mul_zero, hcq, hs1, W16.ls, W16.sh, W16.unsh, hm14, hm15, hj7a1, hj7d1, hj7c1, hj7b1, hj7a2, hj7d2, hj7c2, hj7b2]; done))))
     all_goals (try simp only [go_sem, hb, hcv, Int.toNat_one, Int.reduceTMod, Int.reduceTDiv, Int.mul_zero, hcq, hs1, W16.ls, W16.sh, W16.unsh, hm14, hm15, hj7a1, hj7d1, hj7c1, hj7b1, hj7a2, hj7d2, hj7c2, hj7b2])
     all_goals (try simp only [go_sem, hb, hcv, Int.toNat_one, Int.reduceTMod, Int.reduceTDiv, Int.mul_zero, hcq, hs1, W16.ls, W16.sh, W16.unsh, hm14, hm15, hj7a1, hj7d1, hj7c1, hj7b1, hj7a2, hj7d2, hj7c2, hj7b2])
     all_goals repeat' (first | apply And.intro | intro _)
     refine hK236 _ ?_
     refine sd_k [86, 87, 88, 89, 90, 91, 92, 93, 94, 95, 96, 97, 98] [0, 0, 3, 7, 0, 0, 48, 112, 0, 496, 1023, 0, 4095, 8191] [] mixed (by kernel_rfl) (by simp only [go_sem]) fun K237 hK237 => ?_
     simp only [go_sem, hb, hcv, Int.toNat_one, Int.reduceTMod, Int.reduceTDiv, Int.mul_zero, hcq, hs1, W16.ls, W16.sh, W16.unsh, hm14, hm15, hj7a1, hj7d1, hj7c1, hj7b1, hj7a2, hj7d2, hj7c2, hj7b2]
     repeat' (first | apply And.intro | intro _)
     refine hK237 _ _ trivial ?_
     refine sd_k [99, 100, 101, 102, 103, 104, 105, 106, 107, 108, 109, 110, 111] [0, 0, 0, 6, 14, 0, 0, 96, 224, 510, 1022, 0, 4095, 8191] [] mixed (by kernel_rfl) (by simp only [go_sem]) fun K238 hK238 => ?_
     simp only [go_sem, hb, hcv, Int.toNat_one, Int.reduceTMod, Int.reduceTDiv, Int.mul_zero, hcq, hs1, W16.ls, W16.sh, W16.unsh, hm14, hm15, hj7a1, hj7d1, hj7c1, hj7b1, hj7a2, hj7d2, hj7c2, hj7b2]
     repeat' (first | apply And.intro | intro _)
     all_goals refine call_draw (fun k => k) _ [] (fun _ _ => rfl) (by first | rfl | (simp only [go_sem, hb, hcv, Int.toNat_one, Int.reduceTMod, Int.reduceTDiv, Int.mul_zero, hcq, hs1, W16.ls, W16.sh, W16.unsh, hm14, hm15, hj7a1, hj7d1, hj7c1, hj7b1, hj7a2, hj7d2, hj7c2, hj7b2] <;> rfl)) ((left_16 _).plain fun _ _ h => h) ?_ ?_
     all_goals try (refine And.intro ?_ (And.intro ?_ (And.intro ?_ ?_)) <;> first | rfl | simp only [go_sem])
     all_goals simp only [go_sem, hb, hcv, Int.toNat_one, Int.reduceTMod, Int.reduceTDiv, Int.mul_zero, hcq, hs1, W16.ls, W16.sh, W16.unsh, hm14, hm15, hj7a1, hj7d1, hj7c1, hj7b1, hj7a2, hj7d2, hj7c2, hj7b2]
     all_goals repeat' (first | apply And.intro | intro _)
     refine hK238 _ _ trivial ?_
     refine sd_k [112, 113, 114, 115, 116, 117, 118, 119, 120, 121, 122] [0, 0, 3, 7, 0, 0, 48, 112, 255, 0, 1023, 2047] [] mixed (by kernel_rfl) (by simp only [go_sem]) fun K239 hK239 => ?_
     simp only [go_sem, hb, hcv, Int.toNat_one, Int.reduceTMod, Int.reduceTDiv, Int.mul_zero, hcq, hs1, W16.ls, W16.sh, W16.unsh, hm14, hm15, hj7a1, hj7d1, hj7c1, hj7b1, hj7a2, hj7d2, hj7c2, hj7b2]
     repeat' (first | apply And.intro | intro _)
     refine hK239 _ _ trivial ?_
     refine sd_k [123, 124, 125, 126, 127, 128, 129, 130, 131, 132, 133, 134, 135] [0, 0, 0, 6, 14, 0, 0, 96, 224, 510, 1022, 0, 4095, 8191] [] mixed (by kernel_rfl) (by simp only [go_sem]) fun K240 hK240 => ?_
     simp only [go_sem, hb, hcv, Int.toNat_one, Int.reduceTMod, Int.reduceTDiv, Int.mul_zero, hcq, hs1, W16.ls, W16.sh, W16.unsh, hm14, hm15, hj7a1, hj7d1, hj7c1, hj7b1, hj7a2, hj7d2, hj7c2, hj7b2]
     repeat' (first | apply And.intro | intro _)
     all_goals refine call_draw (fun k => k) _ [] (fun _ _ => rfl) (by first | rfl | (simp only [go_sem, hb, hcv, Int.toNat_one, Int.reduceTMod, Int.reduceTDiv, Int.mul_zero, hcq, hs1, W16.ls, W16.sh, W16.unsh, hm14, hm15, hj7a1, hj7d1, hj7c1, hj7b1, hj7a2, hj7d2, hj7c2, hj7b2] <;> rfl)) ((left_20 _).plain fun _ _ h => h) ?_ ?_
     all_goals try (refine And.intro ?_ (And.intro ?_ (And.intro ?_ ?_)) <;> first | rfl | simp only [go_sem])
     all_goals simp only [go_sem, hb, hcv, Int.toNat_one, Int.reduceTMod, Int.reduceTDiv, Int.mul_zero, hcq, hs1, W16.ls, W16.sh, W16.unsh, hm14, hm15, hj7a1, hj7d1, hj7c1, hj7b1, hj7a2, hj7d2, hj7c2, hj7b2]
     all_goals repeat' (first | apply And.intro | intro _)
     refine hK240 _ _ trivial ?_
     refine sd_k [136, 137, 138, 139, 140, 141, 142, 143, 144, 145, 146, 147, 148] [0, 0, 3, 7, 0, 0, 48, 112, 0, 496, 1023, 0, 4095, 8191] [] mixed (by kernel_rfl) (by simp only [go_sem]) fun K241 hK241 => ?_
     simp only [go_sem, hb, hcv, Int.toNat_one, Int.reduceTMod, Int.reduceTDiv, Int.mul_zero, hcq, hs1, W16.ls, W16.sh, W16.unsh, hm14, hm15, hj7a1, hj7d1, hj7c1, hj7b1, hj7a2, hj7d2, hj7c2, hj7b2]
     repeat' (first | apply And.intro | intro _)
     refine hK241 _ _ trivial ?_
     refine sd_k [149, 150, 151, 152, 153, 154, 155, 156, 157, 158, 159, 160, 161] [0, 0, 0, 6, 14, 0, 0, 96, 224, 510, 1022, 0, 4095, 8191] [] mixed (by kernel_rfl) (by simp only [go_sem]) fun K242 hK242 => ?_
     simp only [go_sem, hb, hcv, Int.toNat_one, Int.reduceTMod, Int.reduceTDiv, Int.mul_zero, hcq, hs1, W16.ls, W16.sh, W16.unsh, hm14, hm15, hj7a1, hj7d1, hj7c1, hj7b1, hj7a2, hj7d2, hj7c2, hj7b2]
     repeat' (first | apply And.intro | intro _)
     all_goals refine call_draw (fun k => k) _ [] (fun _ _ => rfl) (by first | rfl | (simp only [go_sem, hb, hcv, Int.toNat_one, Int.reduceTMod, Int.reduceTDiv, Int.mul_zero, hcq, hs1, W16.ls, W16.sh, W16.unsh, hm14, hm15, hj7a1, hj7d1, hj7c1, hj7b1, hj7a2, hj7d2, hj7c2, hj7b2] <;> rfl)) ((left_24 _).plain fun _ _ h => h) ?_ ?_
     all_goals try (refine And.intro ?_ (And.intro ?_ (And.intro ?_ ?_)) <;> first | rfl | simp only [go_sem])
     all_goals simp only [go_sem, hb, hcv, Int.toNat_one, Int.reduceTMod, Int.reduceTDiv, Int.mul_zero, hcq, hs1, W16.ls, W16.sh, W16.unsh, hm14, hm15, hj7a1, hj7d1, hj7c1, hj7b1, hj7a2, hj7d2, hj7c2, hj7b2]
     all_goals repeat' (first | apply And.intro | intro _)
     refine hK242 _ _ trivial ?_
     refine sd_k [162, 163, 164, 165, 166, 167, 168, 169, 170, 171, 172] [0, 0, 3, 7, 0, 0, 48, 112, 255, 0, 1023, 2047] [] mixed (by kernel_rfl) (by simp only [go_sem]) fun K243 hK243 => ?_
     simp only [go_sem, hb, hcv, Int.toNat_one, Int.reduceTMod, Int.reduceTDiv, Int.mul_zero, hcq, hs1, W16.ls, W16.sh, W16.unsh, hm14, hm15, hj7a1, hj7d1, hj7c1, hj7b1, hj7a2, hj7d2, hj7c2, hj7b2]
     repeat' (first | apply And.intro | intro _)
     refine hK243 _ _ trivial ?_
     refine draw_k [173, 174, 175, 176, 177, 178, 179, 180, 181, 182, 183, 184, 185] [0, 0, 0, 6, 14, 0, 0, 96, 224, 510, 1022, 0, 4095, 8191] [] mixed (by kernel_rfl) (by simp only [go_sem]) fun K244 hK244 => ?_
     simp only [go_sem, hb, hcv, Int.toNat_one, Int.reduceTMod, Int.reduceTDiv, Int.mul_zero, hcq, hs1, W16.ls, W16.sh, W16.unsh, hm14, hm15, hj7a1, hj7d1, hj7c1, hj7b1, hj7a2, hj7d2, hj7c2, hj7b2]
     repeat' (first | apply And.intro | intro _)
     all_goals refine call_draw (fun k => k) _ [] (fun _ _ => rfl) (by first | rfl | (simp only [go_sem, hb, hcv, Int.toNat_one, Int.reduceTMod, Int.reduceTDiv, Int.mul_zero, hcq, hs1, W16.ls, W16.sh, W16.unsh, hm14, hm15, hj7a1, hj7d1, hj7c1, hj7b1, hj7a2, hj7d2, hj7c2, hj7b2] <;> rfl)) ((left_25 _).plain fun _ _ h => h) ?_ ?_
     all_goals try (refine And.intro ?_ (And.intro ?_ (And.intro ?_ ?_)) <;> first | rfl | simp only [go_sem])
     all_goals simp only [go_sem, hb, hcv, Int.toNat_one, Int.reduceTMod, Int.reduceTDiv, Int.mul_zero, hcq, hs1, W16.ls, W16.sh, W16.unsh, hm14, hm15, hj7a1, hj7d1, hj7c1, hj7b1, hj7a2, hj7d2, hj7c2, hj7b2]
     all_goals repeat' (first | apply And.intro | intro _)
     refine hK244 _ _ trivial ?_
     refine bn234 _ ?_
     refine hN233 _ ?_
     refine region_k fun K245 hK245 => ?_
     simp only [go_sem, hb, hcv, Int.toNat_one, Int.reduceTMod, Int.reduceTDiv, Int.mul_zero, hcq, hs1, W16.ls, W16.sh, W16.unsh, hm14, hm15, hj7a1, hj7d1, hj7c1, hj7b1, hj7a2, hj7d2, hj7c2, hj7b2]
     repeat' (first | apply And.intro | intro _)
     refine hK245 _ ?_
     refine hN230 _ ?_
     refine rnd_forget [14, 15, 16, 67, 68, 69, 70, 71, 72, 73, 74, 75, 76, 77, 78, 79, 80, 81, 82, 83, 84, 85, 86, 87, 88, 89, 90, 91, 92, 93, 94, 95, 96, 97, 98, 99, 100, 101, 102, 103, 104, 105, 106, 107, 108, 109, 110, 111, 112, 113, 114, 115, 116, 117, 118, 119, 120, 121, 122, 123, 124, 125, 126, 127, 128, 129, 130, 131, 132, 133, 134, 135, 136, 137, 138, 139, 140, 141, 142, 143, 144, 145, 146, 147, 148, 149, 150, 151, 152, 153, 154, 155, 156, 157, 158, 159, 160, 161, 162, 163, 164, 165, 166, 167, 168, 169, 170, 171, 172, 173, 174, 175, 176, 177, 178, 179, 180, 181, 182, 183, 184, 185, 186] ?_
     simp only [go_sem, St.forget, fgt]
     refine rnd_k fun N246 M246 hN246 hM246 => ?_
     refine sr_k fun K247 hK247 => ?_
     simp only [go_sem, hb, hcv, Int.toNat_one, Int.reduceTMod, Int.reduceTDiv, Int.mul_zero, hcq, hs1, W16.ls, W16.sh, W16.unsh]
     repeat' (first | apply And.intro | intro _)
     refine hK247 _ ?_
     refine seq_k fun N248 M248 hN248 hM248 => ?_
     refine condF_k (by first | rfl | (simp [go_sem, hb, hcv, Int.toNat_one, Int.reduceTMod, Int.reduceTDiv, Int.mul_zero, hcq, hs1, W16.ls, W16.sh, W16.unsh]; done)) ?_
     refine exit_k ?_
     refine hM248 _ _ ?_
     refine hM246 _ _ ?_
     refine bx180 _ ?_
     refine hN178 _ ?_
     refine region_k fun K249 hK249 => ?_
     simp only [go_sem, hb, hcv, Int.toNat_one, Int.reduceTMod, Int.reduceTDiv, Int.mul_zero, hcq, hs1, W16.ls, W16.sh, W16.unsh]
     repeat' (first | apply And.intro | intro _)
     all_goals refine call_view (fun k => k) (fun _ _ => rfl) (by first | rfl | (simp only [go_sem, hb, hcv, Int.toNat_one, Int.reduceTMod, Int.reduceTDiv, Int.mul_zero, hcq, hs1, W16.ls, W16.sh, W16.unsh] <;> rfl)) ((shifted_m j4a2 j5a2 j6a2 j7a2 j4b2 j5b2 j6b2 j7b2 j4c2 j5c2 j6c2 j7c2 j4d2 j5d2 j6d2 j7d2).plain fun _ _ h => h) ?_
     all_goals (rintro v m ⟨hR, hm⟩; subst hR; subst hm)
     all_goals refine And.intro (by first | rfl | simp only [go_sem, hb, hcv, Int.toNat_one, Int.reduceTMod, Int.reduceTDiv, Int.mul_zero, hcq, hs1, W16.ls, W16.sh, W16.unsh]) (And.intro (by first | rfl | simp only [go_sem, hb, hcv, Int.toNat_one, Int.reduceTMod, Int.reduceTDiv, Int.mul_zero, hcq, hs1, W16.ls, W16.sh, W16.unsh]) ?_)
     all_goals simp only [go_sem, hb, hcv, Int.toNat_one, Int.reduceTMod, Int.reduceTDiv, Int.mul_zero, hcq, hs1, W16.ls, W16.sh, W16.unsh]
     all_goals repeat' (first | apply And.intro | intro _)
     refine hK249 _ ?_
     refine bn175 _ ?_
     refine hN174 _ ?_
     refine region_k fun K250 hK250 => ?_
     simp only [go_sem, hb, hcv, Int.toNat_one, Int.reduceTMod, Int.reduceTDiv, Int.mul_zero, hcq, hs1, W16.ls, W16.sh, W16.unsh]
     repeat' (first | apply And.intro | intro _)
     refine hK250 _ ?_
     refine hN171 _ ?_
     refine rnd_forget [13, 14, 15, 16, 61, 62, 63, 64, 65, 66, 67, 68, 69, 70, 71, 72, 73, 74, 75, 76, 77, 78, 79, 80, 81, 82, 83, 84, 85, 86, 87, 88, 89, 90, 91, 92, 93, 94, 95, 96, 97, 98, 99, 100, 101, 102, 103, 104, 105, 106, 107, 108, 109, 110, 111, 112, 113, 114, 115, 116, 117, 118, 119, 120, 121, 122, 123, 124, 125, 126, 127, 128, 129, 130, 131, 132, 133, 134, 135, 136, 137, 138, 139, 140, 141, 142, 143, 144, 145, 146, 147, 148, 149, 150, 151, 152, 153, 154, 155, 156, 157, 158, 159, 160, 161, 162, 163, 164, 165, 166, 167, 168, 169, 170, 171, 172, 173, 174, 175, 176, 177, 178, 179, 180, 181, 182, 183, 184, 185, 186, 187, 188, 189, 190, 191] ?_
     simp only [go_sem, St.forget, fgt]
     refine rnd_k fun N251 M251 hN251 hM251 => ?_
     refine sr_k fun K252 hK252 => ?_
     simp only [go_sem, hb, hcv, Int.toNat_one, Int.reduceTMod, Int.reduceTDiv, Int.mul_zero, hcq, hs1, W16.ls, W16.sh, W16.unsh]
     repeat' (first | apply And.intro | intro _)
     refine hK252 _ ?_
     refine seq_k fun N253 M253 hN253 hM253 => ?_
     refine condF_k (by first | rfl | (simp [go_sem, hb, hcv, Int.toNat_one, Int.reduceTMod, Int.reduceTDiv, Int.mul_zero, hcq, hs1, W16.ls, W16.sh, W16.unsh]; done)) ?_
     refine exit_k ?_
     refine hM253 _ _ ?_
     refine hM251 _ _ ?_
     refine bx89 _ ?_
     refine bn86 _ ?_
     refine hN85 _ ?_
     refine region_k fun K254 hK254 => ?_
     simp only [go_sem, hb, hcv, Int.toNat_one, Int.reduceTMod, Int.reduceTDiv, Int.mul_zero, hcq, hs1, W16.ls, W16.sh, W16.unsh]
     repeat' (first | apply And.intro | intro _)
     refine hK254 _ ?_
     refine hN82 ⟨k + 1, hlt⟩ _ ?_ ?_ ?_
     · (exact Nat.sub_lt_sub_left hlt (Nat.lt_succ_self k))
     · (simp only [go_sem, leX, List.cons_append, List.nil_append]; try simp)
     · (simp only [roundB, hw, go_sem, leX, List.cons_append, List.nil_append]; first | done | rfl | (simp only [W16.ls, W16.col, W16.diag, hm0, hm1, hm2, hm3, hm4, hm5, hm6, hm7, hm8, hm9, hm10, hm11, hm12, hm13, hm14, hm15, hmA0, hmB0, hmC0, hmD0, hmA1, hmB1, hmC1, hmD1, hmA2, hmB2, hmC2, hmD2, hmA3, hmB3, hmC3, hmD3, hmA4, hmB4, hmC4, hmD4, hmA5, hmB5, hmC5, hmD5, hmA6, hmB6, hmC6, hmD6, hmA7, hmB7, hmC7, hmD7]; (try simp [leX, look]); done))
   · obtain rfl : k = 10 := by omega
     have hcq : ¬ ((10 : Nat) : Int) < 10 := by omega
     obtain ⟨w, hw⟩ : ∃ w, roundB b 10 Wi = w := ⟨_, rfl⟩
     have hsk : soakB ⟨h0, h1, h2, h3, h4, h5, h6, h7⟩ b len last = outW ⟨h0, h1, h2, h3, h4, h5, h6, h7⟩ w := by rw [soakB, hW, hw]
     simp only [hw]
     obtain ⟨x0, x1, x2, x3, x4, x5, x6, x7, x8, x9, x10, x11, x12, x13, x14, x15⟩ := w
     simp only [W16.ls]
     refine sr_k fun K255 hK255 => ?_
     simp only [go_sem, hb, hcv, Int.toNat_one, Int.reduceTMod, Int.reduceTDiv, Int.mul_zero, hcq]
     repeat' (first | apply And.intro | intro _)
     refine hK255 _ ?_
     refine seq_k fun N256 M256 hN256 hM256 => ?_
     refine condF_k (by first | rfl | (simp [go_sem, hb, hcv, Int.toNat_one, Int.reduceTMod, Int.reduceTDiv, Int.mul_zero, hcq]; done)) ?_
     refine exit_k ?_
     refine hM256 _ _ ?_
     refine hM82 _ _ ?_
     refine bx81 _ ?_
     refine hN79 _ ?_
     refine seq_k fun N257 M257 hN257 hM257 => ?_
     refine sr_k fun K258 hK258 => ?_
     simp only [go_sem, hb, hcv, Int.toNat_one, Int.reduceTMod, Int.reduceTDiv, Int.mul_zero, hcq]
     repeat' (first | apply And.intro | intro _)
     refine hK258 _ ?_
     refine block_k fun B259 bn259 bx259 br259 bi259 => ?_
     refine rounds_k 9 ?_
     refine rnd_k fun N261 M261 hN261 hM261 => ?_
     refine sr_k fun K262 hK262 => ?_
     simp only [go_sem, hb, hcv, Int.toNat_one, Int.reduceTMod, Int.reduceTDiv, Int.mul_zero, hcq]
     repeat' (first | apply And.intro | intro _)
     refine hK262 _ ?_
     refine seq_k fun N263 M263 hN263 hM263 => ?_
     refine condT_k (by first | rfl | (simp [go_sem, hb, hcv, Int.toNat_one, Int.reduceTMod, Int.reduceTDiv, Int.mul_zero, hcq]; done)) ?_
     refine skip_k ?_
     refine hN263 _ ?_
     refine seq_k fun N264 M264 hN264 hM264 => ?_
     refine block_k fun B265 bn265 bx265 br265 bi265 => ?_
     refine sr_k fun K266 hK266 => ?_
     simp only [go_sem, hb, hcv, Int.toNat_one, Int.reduceTMod, Int.reduceTDiv, Int.mul_zero, hcq]
     repeat' (first | apply And.intro | intro _)
     refine hK266 _ ?_
     refine draw_k [196, 197, 198, 199, 200, 201, 202, 203, 204, 205, 206, 207, 208, 209, 210, 211, 212, 213, 214, 215, 216] [0, 1, 3, 0, 8, 0, 32, 24, 248, 504, 0, 1024, 3072, 0, 8192, 7168, 64512, 130048, 262136, 524287, 1048575, 2097151] [] mixed (by kernel_rfl) (by simp only [go_sem]) fun K267 hK267 => ?_
     simp only [go_sem, hb, hcv, Int.toNat_one, Int.reduceTMod, Int.reduceTDiv, Int.mul_zero, hcq]
     repeat' (first | apply And.intro | intro _)
     refine hK267 _ _ trivial ?_
     refine bn265 _ ?_
     refine hN264 _ ?_
     refine region_k fun K268 hK268 => ?_
     simp only [go_sem, hb, hcv, Int.toNat_one, Int.reduceTMod, Int.reduceTDiv, Int.mul_zero, hcq]
     repeat' (first | apply And.intro | intro _)
     refine hK268 _ ?_
     refine hN261 _ ?_
     refine rnd_forget [17, 194, 195, 196, 197, 198, 199, 200, 201, 202, 203, 204, 205, 206, 207, 208, 209, 210, 211, 212, 213, 214, 215, 216, 217] ?_
     simp only [go_sem, St.forget, fgt]
     refine rnd_k fun N269 M269 hN269 hM269 => ?_
     refine sr_k fun K270 hK270 => ?_
     simp only [go_sem, hb, hcv, Int.toNat_one, Int.reduceTMod, Int.reduceTDiv, Int.mul_zero, hcq]
     repeat' (first | apply And.intro | intro _)
     refine hK270 _ ?_
     refine seq_k fun N271 M271 hN271 hM271 => ?_
     refine condT_k (by first | rfl | (simp [go_sem, hb, hcv, Int.toNat_one, Int.reduceTMod, Int.reduceTDiv, Int.mul_zero, hcq]; done)) ?_
     refine skip_k ?_
     refine hN271 _ ?_
     refine seq_k fun N272 M272 hN272 hM272 => ?_
     refine block_k fun B273 bn273 bx273 br273 bi273 => ?_
     refine sr_k fun K274 hK274 => ?_
     simp only [go_sem, hb, hcv, Int.toNat_one, Int.reduceTMod, Int.reduceTDiv, Int.mul_zero, hcq]
     repeat' (first | apply And.intro | intro _)
     refine hK274 _ ?_
     refine draw_k [196, 197, 198, 199, 200, 201, 202, 203, 204, 205, 206, 207, 208, 209, 210, 211, 212, 213, 214, 215, 216] [0, 1, 3, 0, 8, 0, 32, 24, 248, 504, 0, 1024, 3072, 0, 8192, 7168, 64512, 130048, 262136, 524287, 1048575, 2097151] [] mixed (by kernel_rfl) (by simp only [go_sem]) fun K275 hK275 => ?_
     simp only [go_sem, hb, hcv, Int.toNat_one, Int.reduceTMod, Int.reduceTDiv, Int.mul_zero, hcq]
     repeat' (first | apply And.intro | intro _)
     refine hK275 _ _ trivial ?_
     refine bn273 _ ?_
     refine hN272 _ ?_
     refine region_k fun K276 hK276 => ?_
     simp only [go_sem, hb, hcv, Int.toNat_one, Int.reduceTMod, Int.reduceTDiv, Int.mul_zero, hcq]
     repeat' (first | apply And.intro | intro _)
     refine hK276 _ ?_
     refine hN269 _ ?_
     refine rnd_forget [17, 194, 195, 196, 197, 198, 199, 200, 201, 202, 203, 204, 205, 206, 207, 208, 209, 210, 211, 212, 213, 214, 215, 216, 217] ?_
     simp only [go_sem, St.forget, fgt]
     refine rnd_k fun N277 M277 hN277 hM277 => ?_
     refine sr_k fun K278 hK278 => ?_
     simp only [go_sem, hb, hcv, Int.toNat_one, Int.reduceTMod, Int.reduceTDiv, Int.mul_zero, hcq]
     repeat' (first | apply And.intro | intro _)
     refine hK278 _ ?_
     refine seq_k fun N279 M279 hN279 hM279 => ?_
     refine condT_k (by first | rfl | (simp [go_sem, hb, hcv, Int.toNat_one, Int.reduceTMod, Int.reduceTDiv, Int.mul_zero, hcq]; done)) ?_
     refine skip_k ?_
     refine hN279 _ ?_
     refine seq_k fun N280 M280 hN280 hM280 => ?_
     refine block_k fun B281 bn281 bx281 br281 bi281 => ?_
     refine sr_k fun K282 hK282 => ?_
     simp only [go_sem, hb, hcv, Int.toNat_one, Int.reduceTMod, Int.reduceTDiv, Int.mul_zero, hcq]
     repeat' (first | apply And.intro | intro _)
     refine hK282 _ ?_
     refine draw_k [196, 197, 198, 199, 200, 201, 202, 203, 204, 205, 206, 207, 208, 209, 210, 211, 212, 213, 214, 215, 216] [0, 1, 3, 0, 8, 0, 32, 24, 248, 504, 0, 1024, 3072, 0, 8192, 7168, 64512, 130048, 262136, 524287, 1048575, 2097151] [] mixed (by kernel_rfl) (by simp only [go_sem]) fun K283 hK283 => ?_
     simp only [go_sem, hb, hcv, Int.toNat_one, Int.reduceTMod, Int.reduceTDiv, Int.mul_zero, hcq]
     repeat' (first | apply And.intro | intro _)
     refine hK283 _ _ trivial ?_
     refine bn281 _ ?_
     refine hN280 _ ?_
     refine region_k fun K284 hK284 => ?_
     simp only [go_sem, hb, hcv, Int.toNat_one, Int.reduceTMod, Int.reduceTDiv, Int.mul_zero, hcq]
     repeat' (first | apply And.intro | intro _)
     refine hK284 _ ?_
     refine hN277 _ ?_
     refine rnd_forget [17, 194, 195, 196, 197, 198, 199, 200, 201, 202, 203, 204, 205, 206, 207, 208, 209, 210, 211, 212, 213, 214, 215, 216, 217] ?_
     simp only [go_sem, St.forget, fgt]
     refine rnd_k fun N285 M285 hN285 hM285 => ?_
     refine sr_k fun K286 hK286 => ?_
     simp only [go_sem, hb, hcv, Int.toNat_one, Int.reduceTMod, Int.reduceTDiv, Int.mul_zero, hcq]
     repeat' (first | apply And.intro | intro _)
     refine hK286 _ ?_
     refine seq_k fun N287 M287 hN287 hM287 => ?_
     refine condT_k (by first | rfl | (simp [go_sem, hb, hcv, Int.toNat_one, Int.reduceTMod, Int.reduceTDiv, Int.mul_zero, hcq]; done)) ?_
     refine skip_k ?_
     refine hN287 _ ?_
     refine seq_k fun N288 M288 hN288 hM288 => ?_
     refine block_k fun B289 bn289 bx289 br289 bi289 => ?_
     refine sr_k fun K290 hK290 => ?_
     simp only [go_sem, hb, hcv, Int.toNat_one, Int.reduceTMod, Int.reduceTDiv, Int.mul_zero, hcq]
     repeat' (first | apply And.intro | intro _)
     refine hK290 _ ?_
     refine draw_k [196, 197, 198, 199, 200, 201, 202, 203, 204, 205, 206, 207, 208, 209, 210, 211, 212, 213, 214, 215, 216] [0, 1, 3, 0, 8, 0, 32, 24, 248, 504, 0, 1024, 3072, 0, 8192, 7168, 64512, 130048, 262136, 524287, 1048575, 2097151] [] mixed (by kernel_rfl) (by simp only [go_sem]) fun K291 hK291 => ?_
     simp only [go_sem, hb, hcv, Int.toNat_one, Int.reduceTMod, Int.reduceTDiv, Int.mul_zero, hcq]
     repeat' (first | apply And.intro | intro _)
     refine hK291 _ _ trivial ?_
     refine bn289 _ ?_
     refine hN288 _ ?_
     refine region_k fun K292 hK292 => ?_
     simp only [go_sem, hb, hcv, Int.toNat_one, Int.reduceTMod, Int.reduceTDiv, Int.mul_zero, hcq]
     repeat' (first | apply And.intro | intro _)
     refine hK292 _ ?_
     refine hN285 _ ?_
     refine rnd_forget [17, 194, 195, 196, 197, 198, 199, 200, 201, 202, 203, 204, 205, 206, 207, 208, 209, 210, 211, 212, 213, 214, 215, 216, 217] ?_
     simp only [go_sem, St.forget, fgt]
     refine rnd_k fun N293 M293 hN293 hM293 => ?_
     refine sr_k fun K294 hK294 => ?_
     simp only [go_sem, hb, hcv, Int.toNat_one, Int.reduceTMod, Int.reduceTDiv, Int.mul_zero, hcq]
     repeat' (first | apply And.intro | intro _)
     refine hK294 _ ?_
     refine seq_k fun N295 M295 hN295 hM295 => ?_
     refine condT_k (by first | rfl | (simp [go_sem, hb, hcv, Int.toNat_one, Int.reduceTMod, Int.reduceTDiv, Int.mul_zero, hcq]; done)) ?_
     refine skip_k ?_
     refine hN295 _ ?_
     refine seq_k fun N296 M296 hN296 hM296 => ?_
     refine block_k fun B297 bn297 bx297 br297 bi297 => ?_
     refine sr_k fun K298 hK298 => ?_
     simp only [go_sem, hb, hcv, Int.toNat_one, Int.reduceTMod, Int.reduceTDiv, Int.mul_zero, hcq]
     repeat' (first | apply And.intro | intro _)
     refine hK298 _ ?_
     refine draw_k [196, 197, 198, 199, 200, 201, 202, 203, 204, 205, 206, 207, 208, 209, 210, 211, 212, 213, 214, 215, 216] [0, 1, 3, 0, 8, 0, 32, 24, 248, 504, 0, 1024, 3072, 0, 8192, 7168, 64512, 130048, 262136, 524287, 1048575, 2097151] [] mixed (by kernel_rfl) (by simp only [go_sem]) fun K299 hK299 => ?_
     simp only [go_sem, hb, hcv, Int.toNat_one, Int.reduceTMod, Int.reduceTDiv, Int.mul_zero, hcq]
     repeat' (first | apply And.intro | intro _)
     refine hK299 _ _ trivial ?_
     refine bn297 _ ?_
     refine hN296 _ ?_
     refine region_k fun K300 hK300 => ?_
     simp only [go_sem, hb, hcv, Int.toNat_one, Int.reduceTMod, Int.reduceTDiv, Int.mul_zero, hcq]
     repeat' (first | apply And.intro | intro _)
     refine hK300 _ ?_
     refine hN293 _ ?_
     refine rnd_forget [17, 194, 195, 196, 197, 198, 199, 200, 201, 202, 203, 204, 205, 206, 207, 208, 209, 210, 211, 212, 213, 214, 215, 216, 217] ?_
     simp only [go_sem, St.forget, fgt]
     refine rnd_k fun N301 M301 hN301 hM301 => ?_
     refine sr_k fun K302 hK302 => ?_
     simp only [go_sem, hb, hcv, Int.toNat_one, Int.reduceTMod, Int.reduceTDiv, Int.mul_zero, hcq]
     repeat' (first | apply And.intro | intro _)
     refine hK302 _ ?_
     refine seq_k fun N303 M303 hN303 hM303 => ?_
     refine condT_k (by first | rfl | (simp [go_sem, hb, hcv, Int.toNat_one, Int.reduceTMod, Int.reduceTDiv, Int.mul_zero, hcq]; done)) ?_
     refine skip_k ?_
     refine hN303 _ ?_
     refine seq_k fun N304 M304 hN304 hM304 => ?_
     refine block_k fun B305 bn305 bx305 br305 bi305 => ?_
     refine sr_k fun K306 hK306 => ?_
     simp only [go_sem, hb, hcv, Int.toNat_one, Int.reduceTMod, Int.reduceTDiv, Int.mul_zero, hcq]
     repeat' (first | apply And.intro | intro _)
     refine hK306 _ ?_
     refine draw_k [196, 197, 198, 199, 200, 201, 202, 203, 204, 205, 206, 207, 208, 209, 210, 211, 212, 213, 214, 215, 216] [0, 1, 3, 0, 8, 0, 32, 24, 248, 504, 0, 1024, 3072, 0, 8192, 7168, 64512, 130048, 262136, 524287, 1048575, 2097151] [] mixed (by kernel_rfl) (by simp only [go_sem]) fun K307 hK307 => ?_
     simp only [go_sem, hb, hcv, Int.toNat_one, Int.reduceTMod, Int.reduceTDiv, Int.mul_zero, hcq]
     repeat' (first | apply And.intro | intro _)
     refine hK307 _ _ trivial ?_
     refine bn305 _ ?_
     refine hN304 _ ?_
     refine region_k fun K308 hK308 => ?_
     simp only [go_sem, hb, hcv, Int.toNat_one, Int.reduceTMod, Int.reduceTDiv, Int.mul_zero, hcq]
     repeat' (first | apply And.intro | intro _)
     refine hK308 _ ?_
     refine hN301 _ ?_
     refine rnd_forget [17, 194, 195, 196, 197, 198, 199, 200, 201, 202, 203, 204, 205, 206, 207, 208, 209, 210, 211, 212, 213, 214, 215, 216, 217] ?_
     simp only [go_sem, St.forget, fgt]
     refine rnd_k fun N309 M309 hN309 hM309 => ?_
     refine sr_k fun K310 hK310 => ?_
     simp only [go_sem, hb, hcv, Int.toNat_one, Int.reduceTMod, Int.reduceTDiv, Int.mul_zero, hcq]
     repeat' (first | apply And.intro | intro _)
     refine hK310 _ ?_
     refine seq_k fun N311 M311 hN311 hM311 => ?_
     refine condT_k (by first | rfl | (simp [go_sem, hb, hcv, Int.toNat_one, Int.reduceTMod, Int.reduceTDiv, Int.mul_zero, hcq]; done)) ?_
     refine skip_k ?_
     refine hN311 _ ?_
     refine seq_k fun N312 M312 hN312 hM312 => ?_
     refine block_k fun B313 bn313 bx313 br313 bi313 => ?_
     refine sr_k fun K314 hK314 => ?_
     simp only [go_sem, hb, hcv, Int.toNat_one, Int.reduceTMod, Int.reduceTDiv, Int.mul_zero, hcq]
     repeat' (first | apply And.intro | intro _)
     refine hK314 _ ?_
     refine draw_k [196, 197, 198, 199, 200, 201, 202, 203, 204, 205, 206, 207, 208, 209, 210, 211, 212, 213, 214, 215, 216] [0, 1, 3, 0, 8, 0, 32, 24, 248, 504, 0, 1024, 3072, 0, 8192, 7168, 64512, 130048, 262136, 524287, 1048575, 2097151] [] mixed (by kernel_rfl) (by simp only [go_sem]) fun K315 hK315 => ?_
     simp only [go_sem, hb, hcv, Int.toNat_one, Int.reduceTMod, Int.reduceTDiv, Int.mul_zero, hcq]
     repeat' (first | apply And.intro | intro _)
     refine hK315 _ _ trivial ?_
     refine bn313 _ ?_
     refine hN312 _ ?_
     refine region_k fun K316 hK316 => ?_
     simp only [go_sem, hb, hcv, Int.toNat_one, Int.reduceTMod, Int.reduceTDiv, Int.mul_zero, hcq]
     repeat' (first | apply And.intro | intro _)
     refine hK316 _ ?_
     refine hN309 _ ?_
     refine rnd_forget [17, 194, 195, 196, 197, 198, 199, 200, 201, 202, 203, 204, 205, 206, 207, 208, 209, 210, 211, 212, 213, 214, 215, 216, 217] ?_
     simp only [go_sem, St.forget, fgt]
     refine rnd_k fun N317 M317 hN317 hM317 => ?_
     refine sr_k fun K318 hK318 => ?_
     simp only [go_sem, hb, hcv, Int.toNat_one, Int.reduceTMod, Int.reduceTDiv, Int.mul_zero, hcq]
     repeat' (first | apply And.intro | intro _)
     refine hK318 _ ?_
     refine seq_k fun N319 M319 hN319 hM319 => ?_
     refine condT_k (by first | rfl | (simp [go_sem, hb, hcv, Int.toNat_one, Int.reduceTMod, Int.reduceTDiv, Int.mul_zero, hcq]; done)) ?_
     refine skip_k ?_
     refine hN319 _ ?_
     refine seq_k fun N320 M320 hN320 hM320 => ?_
     refine block_k fun B321 bn321 bx321 br321 bi321 => ?_
     refine sr_k fun K322 hK322 => ?_
     simp only [go_sem, hb, hcv, Int.toNat_one, Int.reduceTMod, Int.reduceTDiv, Int.mul_zero, hcq]
     repeat' (first | apply And.intro | intro _)
     refine hK322 _ ?_
     refine draw_k [196, 197, 198, 199, 200, 201, 202, 203, 204, 205, 206, 207, 208, 209, 210, 211, 212, 213, 214, 215, 216] [0, 1, 3, 0, 8, 0, 32, 24, 248, 504, 0, 1024, 3072, 0, 8192, 7168, 64512, 130048, 262136, 524287, 1048575, 2097151] [] mixed (by kernel_rfl) (by simp only [go_sem]) fun K323 hK323 => ?_
     simp only [go_sem, hb, hcv, Int.toNat_one, Int.reduceTMod, Int.reduceTDiv, Int.mul_zero, hcq]
     repeat' (first | apply And.intro | intro _)
     refine hK323 _ _ trivial ?_
     refine bn321 _ ?_
     refine hN320 _ ?_
     refine region_k fun K324 hK324 => ?_
     simp only [go_sem, hb, hcv, Int.toNat_one, Int.reduceTMod, Int.reduceTDiv, Int.mul_zero, hcq]
     repeat' (first | apply And.intro | intro _)
     refine hK324 _ ?_
     refine hN317 _ ?_
     refine rnd_forget [17, 194, 195, 196, 197, 198, 199, 200, 201, 202, 203, 204, 205, 206, 207, 208, 209, 210, 211, 212, 213, 214, 215, 216, 217] ?_
     simp only [go_sem, St.forget, fgt]
     refine rnd_k fun N325 M325 hN325 hM325 => ?_
     refine sr_k fun K326 hK326 => ?_
     simp only [go_sem, hb, hcv, Int.toNat_one, Int.reduceTMod, Int.reduceTDiv, Int.mul_zero, hcq]
     repeat' (first | apply And.intro | intro _)
     refine hK326 _ ?_
     refine seq_k fun N327 M327 hN327 hM327 => ?_
     refine condF_k (by first | rfl | (simp [go_sem, hb, hcv, Int.toNat_one, Int.reduceTMod, Int.reduceTDiv, Int.mul_zero, hcq]; done)) ?_
     refine exit_k ?_
     refine hM327 _ _ ?_
     refine hM325 _ _ ?_
     refine bx259 _ ?_
     refine hN257 _ ?_
     refine sr_k fun K328 hK328 => ?_
     simp only [go_sem, hb, hcv, Int.toNat_one, Int.reduceTMod, Int.reduceTDiv, Int.mul_zero, hcq]
     repeat' (first | apply And.intro | intro _)
     refine hK328 _ ?_
     refine ret_k ?_
     simp only [go_sem, hb, hcv, Int.toNat_one, Int.reduceTMod, Int.reduceTDiv, Int.mul_zero, hcq]
     all_goals (exact told_plain rfl ⟨by rw [hsk]; rfl, rfl⟩)
end Go.Sy

