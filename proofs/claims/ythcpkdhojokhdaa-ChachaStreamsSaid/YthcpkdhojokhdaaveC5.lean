/- Walks: the document's rounds. -/
import Derived.Test.YthcpkdhojokhdaaveC4
set_option linter.unusedVariables false
set_option linter.unusedSimpArgs false
namespace Go.Sy
open Go.Proofs
attribute [local irreducible] atCall HT runOps runD onC onE onO onG goV goA goS onSt onGuard
def W16.sh (w : W16) : W16 := ⟨w.x0, w.x1, w.x2, w.x3, w.x5, w.x6, w.x7, w.x4, w.x10, w.x11, w.x8, w.x9, w.x15, w.x12, w.x13, w.x14⟩
def W16.unsh (w : W16) : W16 := ⟨w.x0, w.x1, w.x2, w.x3, w.x7, w.x4, w.x5, w.x6, w.x10, w.x11, w.x8, w.x9, w.x13, w.x14, w.x15, w.x12⟩
theorem sh_diag (w : W16) : w.sh.col.unsh = w.diag := rfl
set_option maxHeartbeats 1600000 in
set_option maxRecDepth 100000 in
theorem round_ (x0 x1 x2 x3 x4 x5 x6 x7 x8 x9 x10 x11 x12 x13 x14 x15 : UInt32) :
 Ct Try.prog 50 [.w (.agg [.pl (.u32 x0), .pl (.u32 x1), .pl (.u32 x2), .pl (.u32 x3), .pl (.u32 x4), .pl (.u32 x5), .pl (.u32 x6), .pl (.u32 x7), .pl (.u32 x8), .pl (.u32 x9), .pl (.u32 x10), .pl (.u32 x11), .pl (.u32 x12), .pl (.u32 x13), .pl (.u32 x14), .pl (.u32 x15)])] (fun v m => v = .w (.agg (⟨x0, x1, x2, x3, x4, x5, x6, x7, x8, x9, x10, x11, x12, x13, x14, x15⟩ : W16).col.ls)) := by
 refine Ct.k Try.func50 rfl Try.ntmps50 (congrArg Array.toList Try.results50) (by simp) fun w0 ro => ?_
 refine sr_k fun K1 hK1 => ?_
 simp only [go_sem, Int.toNat_one]
 all_goals repeat' (first | apply And.intro | intro _)
 refine hK1 _ ?_
 refine seq_k fun N2 M2 hN2 hM2 => ?_
 refine sr_k fun K3 hK3 => ?_
 simp only [go_sem, Int.toNat_one]
 all_goals repeat' (first | apply And.intro | intro _)
 refine hK3 _ ?_
 refine block_k fun B4 bn4 bx4 br4 bi4 => ?_
 refine rounds_k 5 ?_
 refine rnd_k fun N6 M6 hN6 hM6 => ?_
 refine sr_k fun K7 hK7 => ?_
 simp only [go_sem, Int.toNat_one]
 all_goals repeat' (first | apply And.intro | intro _)
 refine hK7 _ ?_
 refine seq_k fun N8 M8 hN8 hM8 => ?_
 refine condT_k (by first | rfl | (simp [go_sem, Int.toNat_one]; done)) ?_
 refine skip_k ?_
 refine hN8 _ ?_
 refine seq_k fun N9 M9 hN9 hM9 => ?_
 refine block_k fun B10 bn10 bx10 br10 bi10 => ?_
 refine sr_k fun K11 hK11 => ?_
 simp only [go_sem, Int.toNat_one]
 all_goals repeat' (first | apply And.intro | intro _)
 refine hK11 _ ?_
 refine sd_k [11, 12, 13, 14, 15, 16, 17, 18, 19, 20, 21, 22, 23, 24, 25, 26, 4, 5, 6, 7] [0, 0, 3, 7, 0, 0, 48, 112, 0, 0, 768, 1792, 0, 0, 12288, 28672, 15, 65791, 200703, 524287] [] mixed (by kernel_rfl) (by simp only [go_sem]) fun K12 hK12 => ?_
 simp only [go_sem, Int.toNat_one]
 all_goals repeat' (first | apply And.intro | intro _)
 refine hK12 _ _ ?_ ?_
 · first | trivial | (simp only [go_sem]; done) | (simp only [go_sem]; simp; done) | (simp only [go_sem]; simp; simp only [go_sem])
 refine sr_k fun K13 hK13 => ?_
 simp only [go_sem, Int.toNat_one]
 all_goals repeat' (first | apply And.intro | intro _)
 refine hK13 _ ?_
 refine sr_k fun K14 hK14 => ?_
 simp only [go_sem, Int.toNat_one]
 all_goals repeat' (first | apply And.intro | intro _)
 all_goals refine call_view (fun k => k) (fun _ _ => rfl) (by first | rfl | (simp only [go_sem, Int.toNat_one]; rfl) | simp only [go_sem, Int.toNat_one]) ((left_16 _).plain fun _ _ h => h) ?_
 all_goals (rintro v m ⟨hR, hm⟩; subst hR; subst hm)
 all_goals refine And.intro (by first | rfl | simp only [go_sem, Int.toNat_one]) (And.intro (by first | rfl | simp only [go_sem, Int.toNat_one]) ?_)
 all_goals simp only [go_sem, Int.toNat_one]
 all_goals repeat' (first | apply And.intro | intro _)
 refine hK14 _ ?_
 refine sr_k fun K15 hK15 => ?_
 simp only [go_sem, Int.toNat_one]
 all_goals repeat' (first | apply And.intro | intro _)
 refine hK15 _ ?_
 refine sr_k fun K16 hK16 => ?_
 simp only [go_sem, Int.toNat_one]
 all_goals repeat' (first | apply And.intro | intro _)
 all_goals refine call_view (fun k => k) (fun _ _ => rfl) (by first | rfl | (simp only [go_sem, Int.toNat_one]; rfl) | simp only [go_sem, Int.toNat_one]) ((left_12 _).plain fun _ _ h => h) ?_
 all_goals (rintro v m ⟨hR, hm⟩; subst hR; subst hm)
 all_goals refine And.intro (by first | rfl | simp only [go_sem, Int.toNat_one]) (And.intro (by first | rfl | simp only [go_sem, Int.toNat_one]) ?_)
 all_goals simp only [go_sem, Int.toNat_one]
 all_goals repeat' (first | apply And.intro | intro _)
 refine hK16 _ ?_
 refine sr_k fun K17 hK17 => ?_
 simp only [go_sem, Int.toNat_one]
 all_goals repeat' (first | apply And.intro | intro _)
 refine hK17 _ ?_
 refine sr_k fun K18 hK18 => ?_
 simp only [go_sem, Int.toNat_one]
 all_goals repeat' (first | apply And.intro | intro _)
 all_goals refine call_view (fun k => k) (fun _ _ => rfl) (by first | rfl | (simp only [go_sem, Int.toNat_one]; rfl) | simp only [go_sem, Int.toNat_one]) ((left_8 _).plain fun _ _ h => h) ?_
 all_goals (rintro v m ⟨hR, hm⟩; subst hR; subst hm)
 all_goals refine And.intro (by first | rfl | simp only [go_sem, Int.toNat_one]) (And.intro (by first | rfl | simp only [go_sem, Int.toNat_one]) ?_)
 all_goals simp only [go_sem, Int.toNat_one]
 all_goals repeat' (first | apply And.intro | intro _)
 refine hK18 _ ?_
 refine sr_k fun K19 hK19 => ?_
 simp only [go_sem, Int.toNat_one]
 all_goals repeat' (first | apply And.intro | intro _)
 refine hK19 _ ?_
 refine sr_k fun K20 hK20 => ?_
 simp only [go_sem, Int.toNat_one]
 all_goals repeat' (first | apply And.intro | intro _)
 all_goals refine call_view (fun k => k) (fun _ _ => rfl) (by first | rfl | (simp only [go_sem, Int.toNat_one]; rfl) | simp only [go_sem, Int.toNat_one]) ((left_7 _).plain fun _ _ h => h) ?_
 all_goals (rintro v m ⟨hR, hm⟩; subst hR; subst hm)
 all_goals refine And.intro (by first | rfl | simp only [go_sem, Int.toNat_one]) (And.intro (by first | rfl | simp only [go_sem, Int.toNat_one]) ?_)
 all_goals simp only [go_sem, Int.toNat_one]
 all_goals repeat' (first | apply And.intro | intro _)
 refine hK20 _ ?_
 refine region_k fun K21 hK21 => ?_
 simp only [go_sem, Int.toNat_one]
 all_goals repeat' (first | apply And.intro | intro _)
 refine hK21 _ ?_
 refine bn10 _ ?_
 refine hN9 _ ?_
 refine region_k fun K22 hK22 => ?_
 simp only [go_sem, Int.toNat_one]
 all_goals repeat' (first | apply And.intro | intro _)
 refine hK22 _ ?_
 refine hN6 _ ?_
 refine rnd_forget [3, 4, 5, 6, 7, 9, 10, 11, 12, 13, 14, 15, 16, 17, 18, 19, 20, 21, 22, 23, 24, 25, 26, 27, 28, 29, 30, 31, 32, 33, 34, 35, 36, 37, 38, 39, 40, 41, 42, 43, 44, 45, 46, 47, 48, 49, 50, 51, 52, 53, 54, 55, 56, 57, 58, 59, 60, 61, 62, 63, 64, 65, 66, 67, 68, 69, 70, 71] ?_
 simp only [go_sem, St.forget, fgt]
 refine rnd_k fun N23 M23 hN23 hM23 => ?_
 refine sr_k fun K24 hK24 => ?_
 simp only [go_sem, Int.toNat_one]
 all_goals repeat' (first | apply And.intro | intro _)
 refine hK24 _ ?_
 refine seq_k fun N25 M25 hN25 hM25 => ?_
 refine condT_k (by first | rfl | (simp [go_sem, Int.toNat_one]; done)) ?_
 refine skip_k ?_
 refine hN25 _ ?_
 refine seq_k fun N26 M26 hN26 hM26 => ?_
 refine block_k fun B27 bn27 bx27 br27 bi27 => ?_
 refine sr_k fun K28 hK28 => ?_
 simp only [go_sem, Int.toNat_one]
 all_goals repeat' (first | apply And.intro | intro _)
 refine hK28 _ ?_
 refine sd_k [11, 12, 13, 14, 15, 16, 17, 18, 19, 20, 21, 22, 23, 24, 25, 26, 4, 5, 6, 7] [0, 0, 3, 7, 0, 0, 48, 112, 0, 0, 768, 1792, 0, 0, 12288, 28672, 15, 65791, 200703, 524287] [] mixed (by kernel_rfl) (by simp only [go_sem]) fun K29 hK29 => ?_
 simp only [go_sem, Int.toNat_one]
 all_goals repeat' (first | apply And.intro | intro _)
 refine hK29 _ _ ?_ ?_
 · first | trivial | (simp only [go_sem]; done) | (simp only [go_sem]; simp; done) | (simp only [go_sem]; simp; simp only [go_sem])
 refine sr_k fun K30 hK30 => ?_
 simp only [go_sem, Int.toNat_one]
 all_goals repeat' (first | apply And.intro | intro _)
 refine hK30 _ ?_
 refine sr_k fun K31 hK31 => ?_
 simp only [go_sem, Int.toNat_one]
 all_goals repeat' (first | apply And.intro | intro _)
 all_goals refine call_view (fun k => k) (fun _ _ => rfl) (by first | rfl | (simp only [go_sem, Int.toNat_one]; rfl) | simp only [go_sem, Int.toNat_one]) ((left_16 _).plain fun _ _ h => h) ?_
 all_goals (rintro v m ⟨hR, hm⟩; subst hR; subst hm)
 all_goals refine And.intro (by first | rfl | simp only [go_sem, Int.toNat_one]) (And.intro (by first | rfl | simp only [go_sem, Int.toNat_one]) ?_)
 all_goals simp only [go_sem, Int.toNat_one]
 all_goals repeat' (first | apply And.intro | intro _)
 refine hK31 _ ?_
 refine sr_k fun K32 hK32 => ?_
 simp only [go_sem, Int.toNat_one]
 all_goals repeat' (first | apply And.intro | intro _)
 refine hK32 _ ?_
 refine sr_k fun K33 hK33 => ?_
 simp only [go_sem, Int.toNat_one]
 all_goals repeat' (first | apply And.intro | intro _)
 all_goals refine call_view (fun k => k) (fun _ _ => rfl) (by first | rfl | (simp only [go_sem, Int.toNat_one]; rfl) | simp only [go_sem, Int.toNat_one]) ((left_12 _).plain fun _ _ h => h) ?_
 all_goals (rintro v m ⟨hR, hm⟩; subst hR; subst hm)
 all_goals refine And.intro (by first | rfl | simp only [go_sem, Int.toNat_one]) (And.intro (by first | rfl | simp only [go_sem, Int.toNat_one]) ?_)
 all_goals simp only [go_sem, Int.toNat_one]
 all_goals repeat' (first | apply And.intro | intro _)
 refine hK33 _ ?_
 refine sr_k fun K34 hK34 => ?_
 simp only [go_sem, Int.toNat_one]
 all_goals repeat' (first | apply And.intro | intro _)
 refine hK34 _ ?_
 refine sr_k fun K35 hK35 => ?_
 simp only [go_sem, Int.toNat_one]
 all_goals repeat' (first | apply And.intro | intro _)
 all_goals refine call_view (fun k => k) (fun _ _ => rfl) (by first | rfl | (simp only [go_sem, Int.toNat_one]; rfl) | simp only [go_sem, Int.toNat_one]) ((left_8 _).plain fun _ _ h => h) ?_
 all_goals (rintro v m ⟨hR, hm⟩; subst hR; subst hm)
 all_goals refine And.intro (by first | rfl | simp only [go_sem, Int.toNat_one]) (And.intro (by first | rfl | simp only [go_sem, Int.toNat_one]) ?_)
 all_goals simp only [go_sem, Int.toNat_one]
 all_goals repeat' (first | apply And.intro | intro _)
 refine hK35 _ ?_
 refine sr_k fun K36 hK36 => ?_
 simp only [go_sem, Int.toNat_one]
 all_goals repeat' (first | apply And.intro | intro _)
 refine hK36 _ ?_
 refine sr_k fun K37 hK37 => ?_
 simp only [go_sem, Int.toNat_one]
 all_goals repeat' (first | apply And.intro | intro _)
 all_goals refine call_view (fun k => k) (fun _ _ => rfl) (by first | rfl | (simp only [go_sem, Int.toNat_one]; rfl) | simp only [go_sem, Int.toNat_one]) ((left_7 _).plain fun _ _ h => h) ?_
 all_goals (rintro v m ⟨hR, hm⟩; subst hR; subst hm)
 all_goals refine And.intro (by first | rfl | simp only [go_sem, Int.toNat_one]) (And.intro (by first | rfl | simp only [go_sem, Int.toNat_one]) ?_)
 all_goals simp only [go_sem, Int.toNat_one]
 all_goals repeat' (first | apply And.intro | intro _)
 refine hK37 _ ?_
 refine region_k fun K38 hK38 => ?_
 simp only [go_sem, Int.toNat_one]
 all_goals repeat' (first | apply And.intro | intro _)
 refine hK38 _ ?_
 refine bn27 _ ?_
 refine hN26 _ ?_
 refine region_k fun K39 hK39 => ?_
 simp only [go_sem, Int.toNat_one]
 all_goals repeat' (first | apply And.intro | intro _)
 refine hK39 _ ?_
 refine hN23 _ ?_
 refine rnd_forget [3, 4, 5, 6, 7, 9, 10, 11, 12, 13, 14, 15, 16, 17, 18, 19, 20, 21, 22, 23, 24, 25, 26, 27, 28, 29, 30, 31, 32, 33, 34, 35, 36, 37, 38, 39, 40, 41, 42, 43, 44, 45, 46, 47, 48, 49, 50, 51, 52, 53, 54, 55, 56, 57, 58, 59, 60, 61, 62, 63, 64, 65, 66, 67, 68, 69, 70, 71] ?_
 simp only [go_sem, St.forget, fgt]
 refine rnd_k fun N40 M40 hN40 hM40 => ?_
 refine sr_k fun K41 hK41 => ?_
 simp only [go_sem, Int.toNat_one]
 all_goals repeat' (first | apply And.intro | intro _)
 refine hK41 _ ?_
 refine seq_k fun N42 M42 hN42 hM42 => ?_
 refine condT_k (by first | rfl | (simp [go_sem, Int.toNat_one]; done)) ?_
 refine skip_k ?_
 refine hN42 _ ?_
 refine seq_k fun N43 M43 hN43 hM43 => ?_
 refine block_k fun B44 bn44 bx44 br44 bi44 => ?_
 refine sr_k fun K45 hK45 => ?_
 simp only [go_sem, Int.toNat_one]
 all_goals repeat' (first | apply And.intro | intro _)
 refine hK45 _ ?_
 refine sd_k [11, 12, 13, 14, 15, 16, 17, 18, 19, 20, 21, 22, 23, 24, 25, 26, 4, 5, 6, 7] [0, 0, 3, 7, 0, 0, 48, 112, 0, 0, 768, 1792, 0, 0, 12288, 28672, 15, 65791, 200703, 524287] [] mixed (by kernel_rfl) (by simp only [go_sem]) fun K46 hK46 => ?_
 simp only [go_sem, Int.toNat_one]
 all_goals repeat' (first | apply And.intro | intro _)
 refine hK46 _ _ ?_ ?_
 · first | trivial | (simp only [go_sem]; done) | (simp only [go_sem]; simp; done) | (simp only [go_sem]; simp; simp only [go_sem])
 refine sr_k fun K47 hK47 => ?_
 simp only [go_sem, Int.toNat_one]
 all_goals repeat' (first | apply And.intro | intro _)
 refine hK47 _ ?_
 refine sr_k fun K48 hK48 => ?_
 simp only [go_sem, Int.toNat_one]
 all_goals repeat' (first | apply And.intro | intro _)
 all_goals refine call_view (fun k => k) (fun _ _ => rfl) (by first | rfl | (simp only [go_sem, Int.toNat_one]; rfl) | simp only [go_sem, Int.toNat_one]) ((left_16 _).plain fun _ _ h => h) ?_
 all_goals (rintro v m ⟨hR, hm⟩; subst hR; subst hm)
 all_goals refine And.intro (by first | rfl | simp only [go_sem, Int.toNat_one]) (And.intro (by first | rfl | simp only [go_sem, Int.toNat_one]) ?_)
 all_goals simp only [go_sem, Int.toNat_one]
 all_goals repeat' (first | apply And.intro | intro _)
 refine hK48 _ ?_
 refine sr_k fun K49 hK49 => ?_
 simp only [go_sem, Int.toNat_one]
 all_goals repeat' (first | apply And.intro | intro _)
 refine hK49 _ ?_
 refine sr_k fun K50 hK50 => ?_
 simp only [go_sem, Int.toNat_one]
 all_goals repeat' (first | apply And.intro | intro _)
 all_goals refine call_view (fun k => k) (fun _ _ => rfl) (by first | rfl | (simp only [go_sem, Int.toNat_one]; rfl) | simp only [go_sem, Int.toNat_one]) ((left_12 _).plain fun _ _ h => h) ?_
 all_goals (rintro v m ⟨hR, hm⟩; subst hR; subst hm)
 all_goals refine And.intro (by first | rfl | simp only [go_sem, Int.toNat_one]) (And.intro (by first | rfl | simp only [go_sem, Int.toNat_one]) ?_)
 all_goals simp only [go_sem, Int.toNat_one]
 all_goals repeat' (first | apply And.intro | intro _)
 refine hK50 _ ?_
 refine sr_k fun K51 hK51 => ?_
 simp only [go_sem, Int.toNat_one]
 all_goals repeat' (first | apply And.intro | intro _)
 refine hK51 _ ?_
 refine sr_k fun K52 hK52 => ?_
 simp only [go_sem, Int.toNat_one]
 all_goals repeat' (first | apply And.intro | intro _)
 all_goals refine call_view (fun k => k) (fun _ _ => rfl) (by first | rfl | (simp only [go_sem, Int.toNat_one]; rfl) | simp only [go_sem, Int.toNat_one]) ((left_8 _).plain fun _ _ h => h) ?_
 all_goals (rintro v m ⟨hR, hm⟩; subst hR; subst hm)
 all_goals refine And.intro (by first | rfl | simp only [go_sem, Int.toNat_one]) (And.intro (by first | rfl | simp only [go_sem, Int.toNat_one]) ?_)
 all_goals simp only [go_sem, Int.toNat_one]
 all_goals repeat' (first | apply And.intro | intro _)
 refine hK52 _ ?_
 refine sr_k fun K53 hK53 => ?_
 simp only [go_sem, Int.toNat_one]
 all_goals repeat' (first | apply And.intro | intro _)
 refine hK53 _ ?_
 refine sr_k fun K54 hK54 => ?_
 simp only [go_sem, Int.toNat_one]
 all_goals repeat' (first | apply And.intro | intro _)
 all_goals refine call_view (fun k => k) (fun _ _ => rfl) (by first | rfl | (simp only [go_sem, Int.toNat_one]; rfl) | simp only [go_sem, Int.toNat_one]) ((left_7 _).plain fun _ _ h => h) ?_
 all_goals (rintro v m ⟨hR, hm⟩; subst hR; subst hm)
 all_goals refine And.intro (by first | rfl | simp only [go_sem, Int.toNat_one]) (And.intro (by first | rfl | simp only [go_sem, Int.toNat_one]) ?_)
 all_goals simp only [go_sem, Int.toNat_one]
 all_goals repeat' (first | apply And.intro | intro _)
 refine hK54 _ ?_
 refine region_k fun K55 hK55 => ?_
 simp only [go_sem, Int.toNat_one]
 all_goals repeat' (first | apply And.intro | intro _)
 refine hK55 _ ?_
 refine bn44 _ ?_
 refine hN43 _ ?_
 refine region_k fun K56 hK56 => ?_
 simp only [go_sem, Int.toNat_one]
 all_goals repeat' (first | apply And.intro | intro _)
 refine hK56 _ ?_
 refine hN40 _ ?_
 refine rnd_forget [3, 4, 5, 6, 7, 9, 10, 11, 12, 13, 14, 15, 16, 17, 18, 19, 20, 21, 22, 23, 24, 25, 26, 27, 28, 29, 30, 31, 32, 33, 34, 35, 36, 37, 38, 39, 40, 41, 42, 43, 44, 45, 46, 47, 48, 49, 50, 51, 52, 53, 54, 55, 56, 57, 58, 59, 60, 61, 62, 63, 64, 65, 66, 67, 68, 69, 70, 71] ?_
 simp only [go_sem, St.forget, fgt]
 refine rnd_k fun N57 M57 hN57 hM57 => ?_
 refine sr_k fun K58 hK58 => ?_
 simp only [go_sem, Int.toNat_one]
 all_goals repeat' (first | apply And.intro | intro _)
 refine hK58 _ ?_
 refine seq_k fun N59 M59 hN59 hM59 => ?_
 refine condT_k (by first | rfl | (simp [go_sem, Int.toNat_one]; done)) ?_
 refine skip_k ?_
 refine hN59 _ ?_
 refine seq_k fun N60 M60 hN60 hM60 => ?_
 refine block_k fun B61 bn61 bx61 br61 bi61 => ?_
 refine sr_k fun K62 hK62 => ?_
 simp only [go_sem, Int.toNat_one]
 all_goals repeat' (first | apply And.intro | intro _)
 refine hK62 _ ?_
 refine sd_k [11, 12, 13, 14, 15, 16, 17, 18, 19, 20, 21, 22, 23, 24, 25, 26, 4, 5, 6, 7] [0, 0, 3, 7, 0, 0, 48, 112, 0, 0, 768, 1792, 0, 0, 12288, 28672, 15, 65791, 200703, 524287] [] mixed (by kernel_rfl) (by simp only [go_sem]) fun K63 hK63 => ?_
 simp only [go_sem, Int.toNat_one]
 all_goals repeat' (first | apply And.intro | intro _)
 refine hK63 _ _ ?_ ?_
 · first | trivial | (simp only [go_sem]; done) | (simp only [go_sem]; simp; done) | (simp only [go_sem]; simp; simp only [go_sem])
 refine sr_k fun K64 hK64 => ?_
 simp only [go_sem, Int.toNat_one]
 all_goals repeat' (first | apply And.intro | intro _)
 refine hK64 _ ?_
 refine sr_k fun K65 hK65 => ?_
 simp only [go_sem, Int.toNat_one]
 all_goals repeat' (first | apply And.intro | intro _)
 all_goals refine call_view (fun k => k) (fun _ _ => rfl) (by first | rfl | (simp only [go_sem, Int.toNat_one]; rfl) | simp only [go_sem, Int.toNat_one]) ((left_16 _).plain fun _ _ h => h) ?_
 all_goals (rintro v m ⟨hR, hm⟩; subst hR; subst hm)
 all_goals refine And.intro (by first | rfl | simp only [go_sem, Int.toNat_one]) (And.intro (by first | rfl | simp only [go_sem, Int.toNat_one]) ?_)
 all_goals simp only [go_sem, Int.toNat_one]
 all_goals repeat' (first | apply And.intro | intro _)
 refine hK65 _ ?_
 refine sr_k fun K66 hK66 => ?_
 simp only [go_sem, Int.toNat_one]
 all_goals repeat' (first | apply And.intro | intro _)
 refine hK66 _ ?_
 refine sr_k fun K67 hK67 => ?_
 simp only [go_sem, Int.toNat_one]
 all_goals repeat' (first | apply And.intro | intro _)
 all_goals refine call_view (fun k => k) (fun _ _ => rfl) (by first | rfl | (simp only [go_sem, Int.toNat_one]; rfl) | simp only [go_sem, Int.toNat_one]) ((left_12 _).plain fun _ _ h => h) ?_
 all_goals (rintro v m ⟨hR, hm⟩; subst hR; subst hm)
 all_goals refine And.intro (by first | rfl | simp only [go_sem, Int.toNat_one]) (And.intro (by first | rfl | simp only [go_sem, Int.toNat_one]) ?_)
 all_goals simp only [go_sem, Int.toNat_one]
 all_goals repeat' (first | apply And.intro | intro _)
 refine hK67 _ ?_
 refine sr_k fun K68 hK68 => ?_
 simp only [go_sem, Int.toNat_one]
 all_goals repeat' (first | apply And.intro | intro _)
 refine hK68 _ ?_
 refine sr_k fun K69 hK69 => ?_
 simp only [go_sem, Int.toNat_one]
 all_goals repeat' (first | apply And.intro | intro _)
 all_goals refine call_view (fun k => k) (fun _ _ => rfl) (by first | rfl | (simp only [go_sem, Int.toNat_one]; rfl) | simp only [go_sem, Int.toNat_one]) ((left_8 _).plain fun _ _ h => h) ?_
 all_goals (rintro v m ⟨hR, hm⟩; subst hR; subst hm)
 all_goals refine And.intro (by first | rfl | simp only [go_sem, Int.toNat_one]) (And.intro (by first | rfl | simp only [go_sem, Int.toNat_one]) ?_)
 all_goals simp only [go_sem, Int.toNat_one]
 all_goals repeat' (first | apply And.intro | intro _)
 refine hK69 _ ?_
 refine sr_k fun K70 hK70 => ?_
 simp only [go_sem, Int.toNat_one]
 all_goals repeat' (first | apply And.intro | intro _)
 refine hK70 _ ?_
 refine sr_k fun K71 hK71 => ?_
 simp only [go_sem, Int.toNat_one]
 all_goals repeat' (first | apply And.intro | intro _)
 all_goals refine call_view (fun k => k) (fun _ _ => rfl) (by first | rfl | (simp only [go_sem, Int.toNat_one]; rfl) | simp only [go_sem, Int.toNat_one]) ((left_7 _).plain fun _ _ h => h) ?_
 all_goals (rintro v m ⟨hR, hm⟩; subst hR; subst hm)
 all_goals refine And.intro (by first | rfl | simp only [go_sem, Int.toNat_one]) (And.intro (by first | rfl | simp only [go_sem, Int.toNat_one]) ?_)
 all_goals simp only [go_sem, Int.toNat_one]
 all_goals repeat' (first | apply And.intro | intro _)
 refine hK71 _ ?_
 refine region_k fun K72 hK72 => ?_
 simp only [go_sem, Int.toNat_one]
 all_goals repeat' (first | apply And.intro | intro _)
 refine hK72 _ ?_
 refine bn61 _ ?_
 refine hN60 _ ?_
 refine region_k fun K73 hK73 => ?_
 simp only [go_sem, Int.toNat_one]
 all_goals repeat' (first | apply And.intro | intro _)
 refine hK73 _ ?_
 refine hN57 _ ?_
 refine rnd_forget [3, 4, 5, 6, 7, 9, 10, 11, 12, 13, 14, 15, 16, 17, 18, 19, 20, 21, 22, 23, 24, 25, 26, 27, 28, 29, 30, 31, 32, 33, 34, 35, 36, 37, 38, 39, 40, 41, 42, 43, 44, 45, 46, 47, 48, 49, 50, 51, 52, 53, 54, 55, 56, 57, 58, 59, 60, 61, 62, 63, 64, 65, 66, 67, 68, 69, 70, 71] ?_
 simp only [go_sem, St.forget, fgt]
 refine rnd_k fun N74 M74 hN74 hM74 => ?_
 refine sr_k fun K75 hK75 => ?_
 simp only [go_sem, Int.toNat_one]
 all_goals repeat' (first | apply And.intro | intro _)
 refine hK75 _ ?_
 refine seq_k fun N76 M76 hN76 hM76 => ?_
 refine condF_k (by first | rfl | (simp [go_sem, Int.toNat_one]; done)) ?_
 refine exit_k ?_
 refine hM76 _ _ ?_
 refine hM74 _ _ ?_
 refine bx4 _ ?_
 refine hN2 _ ?_
 refine sr_k fun K77 hK77 => ?_
 simp only [go_sem, Int.toNat_one]
 all_goals repeat' (first | apply And.intro | intro _)
 refine hK77 _ ?_
 refine ret_k ?_
 simp only [go_sem, Int.toNat_one]
 all_goals (rfl)
set_option maxHeartbeats 1600000 in
set_option maxRecDepth 100000 in
theorem shifted_1 (x0 x1 x2 x3 x4 x5 x6 x7 x8 x9 x10 x11 x12 x13 x14 x15 : UInt32) :
 Ct Try.prog 49 [.w (.agg [.pl (.u32 x0), .pl (.u32 x1), .pl (.u32 x2), .pl (.u32 x3), .pl (.u32 x4), .pl (.u32 x5), .pl (.u32 x6), .pl (.u32 x7), .pl (.u32 x8), .pl (.u32 x9), .pl (.u32 x10), .pl (.u32 x11), .pl (.u32 x12), .pl (.u32 x13), .pl (.u32 x14), .pl (.u32 x15)]), .w (.one (.pl (.i 1)))] (fun v m => v = .w (.agg (⟨x0, x1, x2, x3, x4, x5, x6, x7, x8, x9, x10, x11, x12, x13, x14, x15⟩ : W16).sh.ls)) := by
 refine Ct.k Try.func49 rfl Try.ntmps49 (congrArg Array.toList Try.results49) (by simp) fun w0 ro => ?_
 refine sr_k fun K1 hK1 => ?_
 simp only [go_sem, Int.reduceTMod, Int.toNat_one, Int.mul_zero]
 all_goals repeat' (first | apply And.intro | intro _)
 refine hK1 _ ?_
 refine sr_k fun K2 hK2 => ?_
 simp only [go_sem, Int.reduceTMod, Int.toNat_one, Int.mul_zero]
 all_goals repeat' (first | apply And.intro | intro _)
 refine hK2 _ ?_
 refine seq_k fun N3 M3 hN3 hM3 => ?_
 refine sr_k fun K4 hK4 => ?_
 simp only [go_sem, Int.reduceTMod, Int.toNat_one, Int.mul_zero]
 all_goals repeat' (first | apply And.intro | intro _)
 refine hK4 _ ?_
 refine block_k fun B5 bn5 bx5 br5 bi5 => ?_
 refine rounds_k 5 ?_
 refine rnd_k fun N7 M7 hN7 hM7 => ?_
 refine sr_k fun K8 hK8 => ?_
 simp only [go_sem, Int.reduceTMod, Int.toNat_one, Int.mul_zero]
 all_goals repeat' (first | apply And.intro | intro _)
 refine hK8 _ ?_
 refine seq_k fun N9 M9 hN9 hM9 => ?_
 refine condT_k (by first | rfl | (simp [go_sem, Int.reduceTMod, Int.toNat_one, Int.mul_zero]; done)) ?_
 refine skip_k ?_
 refine hN9 _ ?_
 refine seq_k fun N10 M10 hN10 hM10 => ?_
 refine block_k fun B11 bn11 bx11 br11 bi11 => ?_
 refine sr_k fun K12 hK12 => ?_
 simp only [go_sem, Int.reduceTMod, Int.toNat_one, Int.mul_zero]
 all_goals repeat' (first | apply And.intro | intro _)
 refine hK12 _ ?_
 refine sr_k fun K13 hK13 => ?_
 simp only [go_sem, Int.reduceTMod, Int.toNat_one, Int.mul_zero]
 all_goals repeat' (first | apply And.intro | intro _)
 refine hK13 _ ?_
 refine block_k fun B14 bn14 bx14 br14 bi14 => ?_
 refine rounds_k 5 ?_
 refine rnd_k fun N16 M16 hN16 hM16 => ?_
 refine sr_k fun K17 hK17 => ?_
 simp only [go_sem, Int.reduceTMod, Int.toNat_one, Int.mul_zero]
 all_goals repeat' (first | apply And.intro | intro _)
 refine hK17 _ ?_
 refine seq_k fun N18 M18 hN18 hM18 => ?_
 refine condT_k (by first | rfl | (simp [go_sem, Int.reduceTMod, Int.toNat_one, Int.mul_zero]; done)) ?_
 refine skip_k ?_
 refine hN18 _ ?_
 refine seq_k fun N19 M19 hN19 hM19 => ?_
 refine block_k fun B20 bn20 bx20 br20 bi20 => ?_
 refine sr_k fun K21 hK21 => ?_
 simp only [go_sem, Int.reduceTMod, Int.toNat_one, Int.mul_zero]
 all_goals repeat' (first | apply And.intro | intro _)
 refine hK21 _ ?_
 refine draw_k [14, 15, 16, 17, 18, 19, 20, 21, 22, 23, 24, 25, 26, 27, 28] [0, 0, 0, 0, 8, 0, 0, 96, 248, 504, 4, 2044, 4092, 1, 16383, 32767] [] mixed (by kernel_rfl) (by simp only [go_sem]) fun K22 hK22 => ?_
 simp only [go_sem, Int.reduceTMod, Int.toNat_one, Int.mul_zero]
 all_goals repeat' (first | apply And.intro | intro _)
 refine hK22 _ _ ?_ ?_
 · first | trivial | (simp only [go_sem]; done) | (simp only [go_sem]; simp; done) | (simp only [go_sem]; simp; simp only [go_sem])
 refine bn20 _ ?_
 refine hN19 _ ?_
 refine region_k fun K23 hK23 => ?_
 simp only [go_sem, Int.reduceTMod, Int.toNat_one, Int.mul_zero]
 all_goals repeat' (first | apply And.intro | intro _)
 refine hK23 _ ?_
 refine hN16 _ ?_
 refine rnd_forget [7, 12, 13, 14, 15, 16, 17, 18, 19, 20, 21, 22, 23, 24, 25, 26, 27, 28, 29] ?_
 simp only [go_sem, St.forget, fgt]
 refine rnd_k fun N24 M24 hN24 hM24 => ?_
 refine sr_k fun K25 hK25 => ?_
 simp only [go_sem, Int.reduceTMod, Int.toNat_one, Int.mul_zero]
 all_goals repeat' (first | apply And.intro | intro _)
 refine hK25 _ ?_
 refine seq_k fun N26 M26 hN26 hM26 => ?_
 refine condT_k (by first | rfl | (simp [go_sem, Int.reduceTMod, Int.toNat_one, Int.mul_zero]; done)) ?_
 refine skip_k ?_
 refine hN26 _ ?_
 refine seq_k fun N27 M27 hN27 hM27 => ?_
 refine block_k fun B28 bn28 bx28 br28 bi28 => ?_
 refine sr_k fun K29 hK29 => ?_
 simp only [go_sem, Int.reduceTMod, Int.toNat_one, Int.mul_zero]
 all_goals repeat' (first | apply And.intro | intro _)
 refine hK29 _ ?_
 refine draw_k [14, 15, 16, 17, 18, 19, 20, 21, 22, 23, 24, 25, 26, 27, 28] [0, 0, 0, 0, 8, 0, 0, 96, 248, 504, 4, 2044, 4092, 1, 16383, 32767] [] mixed (by kernel_rfl) (by simp only [go_sem]) fun K30 hK30 => ?_
 simp only [go_sem, Int.reduceTMod, Int.toNat_one, Int.mul_zero]
 all_goals repeat' (first | apply And.intro | intro _)
 refine hK30 _ _ ?_ ?_
 · first | trivial | (simp only [go_sem]; done) | (simp only [go_sem]; simp; done) | (simp only [go_sem]; simp; simp only [go_sem])
 refine bn28 _ ?_
 refine hN27 _ ?_
 refine region_k fun K31 hK31 => ?_
 simp only [go_sem, Int.reduceTMod, Int.toNat_one, Int.mul_zero]
 all_goals repeat' (first | apply And.intro | intro _)
 refine hK31 _ ?_
 refine hN24 _ ?_
 refine rnd_forget [7, 12, 13, 14, 15, 16, 17, 18, 19, 20, 21, 22, 23, 24, 25, 26, 27, 28, 29] ?_
 simp only [go_sem, St.forget, fgt]
 refine rnd_k fun N32 M32 hN32 hM32 => ?_
 refine sr_k fun K33 hK33 => ?_
 simp only [go_sem, Int.reduceTMod, Int.toNat_one, Int.mul_zero]
 all_goals repeat' (first | apply And.intro | intro _)
 refine hK33 _ ?_
 refine seq_k fun N34 M34 hN34 hM34 => ?_
 refine condT_k (by first | rfl | (simp [go_sem, Int.reduceTMod, Int.toNat_one, Int.mul_zero]; done)) ?_
 refine skip_k ?_
 refine hN34 _ ?_
 refine seq_k fun N35 M35 hN35 hM35 => ?_
 refine block_k fun B36 bn36 bx36 br36 bi36 => ?_
 refine sr_k fun K37 hK37 => ?_
 simp only [go_sem, Int.reduceTMod, Int.toNat_one, Int.mul_zero]
 all_goals repeat' (first | apply And.intro | intro _)
 refine hK37 _ ?_
 refine draw_k [14, 15, 16, 17, 18, 19, 20, 21, 22, 23, 24, 25, 26, 27, 28] [0, 0, 0, 0, 8, 0, 0, 96, 248, 504, 4, 2044, 4092, 1, 16383, 32767] [] mixed (by kernel_rfl) (by simp only [go_sem]) fun K38 hK38 => ?_
 simp only [go_sem, Int.reduceTMod, Int.toNat_one, Int.mul_zero]
 all_goals repeat' (first | apply And.intro | intro _)
 refine hK38 _ _ ?_ ?_
 · first | trivial | (simp only [go_sem]; done) | (simp only [go_sem]; simp; done) | (simp only [go_sem]; simp; simp only [go_sem])
 refine bn36 _ ?_
 refine hN35 _ ?_
 refine region_k fun K39 hK39 => ?_
 simp only [go_sem, Int.reduceTMod, Int.toNat_one, Int.mul_zero]
 all_goals repeat' (first | apply And.intro | intro _)
 refine hK39 _ ?_
 refine hN32 _ ?_
 refine rnd_forget [7, 12, 13, 14, 15, 16, 17, 18, 19, 20, 21, 22, 23, 24, 25, 26, 27, 28, 29] ?_
 simp only [go_sem, St.forget, fgt]
 refine rnd_k fun N40 M40 hN40 hM40 => ?_
 refine sr_k fun K41 hK41 => ?_
 simp only [go_sem, Int.reduceTMod, Int.toNat_one, Int.mul_zero]
 all_goals repeat' (first | apply And.intro | intro _)
 refine hK41 _ ?_
 refine seq_k fun N42 M42 hN42 hM42 => ?_
 refine condT_k (by first | rfl | (simp [go_sem, Int.reduceTMod, Int.toNat_one, Int.mul_zero]; done)) ?_
 refine skip_k ?_
 refine hN42 _ ?_
 refine seq_k fun N43 M43 hN43 hM43 => ?_
 refine block_k fun B44 bn44 bx44 br44 bi44 => ?_
 refine sr_k fun K45 hK45 => ?_
 simp only [go_sem, Int.reduceTMod, Int.toNat_one, Int.mul_zero]
 all_goals repeat' (first | apply And.intro | intro _)
 refine hK45 _ ?_
 refine draw_k [14, 15, 16, 17, 18, 19, 20, 21, 22, 23, 24, 25, 26, 27, 28] [0, 0, 0, 0, 8, 0, 0, 96, 248, 504, 4, 2044, 4092, 1, 16383, 32767] [] mixed (by kernel_rfl) (by simp only [go_sem]) fun K46 hK46 => ?_
 simp only [go_sem, Int.reduceTMod, Int.toNat_one, Int.mul_zero]
 all_goals repeat' (first | apply And.intro | intro _)
 refine hK46 _ _ ?_ ?_
 · first | trivial | (simp only [go_sem]; done) | (simp only [go_sem]; simp; done) | (simp only [go_sem]; simp; simp only [go_sem])
 refine bn44 _ ?_
 refine hN43 _ ?_
 refine region_k fun K47 hK47 => ?_
 simp only [go_sem, Int.reduceTMod, Int.toNat_one, Int.mul_zero]
 all_goals repeat' (first | apply And.intro | intro _)
 refine hK47 _ ?_
 refine hN40 _ ?_
 refine rnd_forget [7, 12, 13, 14, 15, 16, 17, 18, 19, 20, 21, 22, 23, 24, 25, 26, 27, 28, 29] ?_
 simp only [go_sem, St.forget, fgt]
 refine rnd_k fun N48 M48 hN48 hM48 => ?_
 refine sr_k fun K49 hK49 => ?_
 simp only [go_sem, Int.reduceTMod, Int.toNat_one, Int.mul_zero]
 all_goals repeat' (first | apply And.intro | intro _)
 refine hK49 _ ?_
 refine seq_k fun N50 M50 hN50 hM50 => ?_
 refine condF_k (by first | rfl | (simp [go_sem, Int.reduceTMod, Int.toNat_one, Int.mul_zero]; done)) ?_
 refine exit_k ?_
 refine hM50 _ _ ?_
 refine hM48 _ _ ?_
 refine bx14 _ ?_
 refine bn11 _ ?_
 refine hN10 _ ?_
 refine region_k fun K51 hK51 => ?_
 simp only [go_sem, Int.reduceTMod, Int.toNat_one, Int.mul_zero]
 all_goals repeat' (first | apply And.intro | intro _)
 refine hK51 _ ?_
 refine hN7 _ ?_
 refine rnd_forget [6, 7, 9, 10, 11, 12, 13, 14, 15, 16, 17, 18, 19, 20, 21, 22, 23, 24, 25, 26, 27, 28, 29, 30] ?_
 simp only [go_sem, St.forget, fgt]
 refine rnd_k fun N52 M52 hN52 hM52 => ?_
 refine sr_k fun K53 hK53 => ?_
 simp only [go_sem, Int.reduceTMod, Int.toNat_one, Int.mul_zero]
 all_goals repeat' (first | apply And.intro | intro _)
 refine hK53 _ ?_
 refine seq_k fun N54 M54 hN54 hM54 => ?_
 refine condT_k (by first | rfl | (simp [go_sem, Int.reduceTMod, Int.toNat_one, Int.mul_zero]; done)) ?_
 refine skip_k ?_
 refine hN54 _ ?_
 refine seq_k fun N55 M55 hN55 hM55 => ?_
 refine block_k fun B56 bn56 bx56 br56 bi56 => ?_
 refine sr_k fun K57 hK57 => ?_
 simp only [go_sem, Int.reduceTMod, Int.toNat_one, Int.mul_zero]
 all_goals repeat' (first | apply And.intro | intro _)
 refine hK57 _ ?_
 refine sr_k fun K58 hK58 => ?_
 simp only [go_sem, Int.reduceTMod, Int.toNat_one, Int.mul_zero]
 all_goals repeat' (first | apply And.intro | intro _)
 refine hK58 _ ?_
 refine block_k fun B59 bn59 bx59 br59 bi59 => ?_
 refine rounds_k 5 ?_
 refine rnd_k fun N61 M61 hN61 hM61 => ?_
 refine sr_k fun K62 hK62 => ?_
 simp only [go_sem, Int.reduceTMod, Int.toNat_one, Int.mul_zero]
 all_goals repeat' (first | apply And.intro | intro _)
 refine hK62 _ ?_
 refine seq_k fun N63 M63 hN63 hM63 => ?_
 refine condT_k (by first | rfl | (simp [go_sem, Int.reduceTMod, Int.toNat_one, Int.mul_zero]; done)) ?_
 refine skip_k ?_
 refine hN63 _ ?_
 refine seq_k fun N64 M64 hN64 hM64 => ?_
 refine block_k fun B65 bn65 bx65 br65 bi65 => ?_
 refine sr_k fun K66 hK66 => ?_
 simp only [go_sem, Int.reduceTMod, Int.toNat_one, Int.mul_zero]
 all_goals repeat' (first | apply And.intro | intro _)
 refine hK66 _ ?_
 refine draw_k [14, 15, 16, 17, 18, 19, 20, 21, 22, 23, 24, 25, 26, 27, 28] [0, 0, 0, 0, 8, 0, 0, 96, 248, 504, 4, 2044, 4092, 1, 16383, 32767] [] mixed (by kernel_rfl) (by simp only [go_sem]) fun K67 hK67 => ?_
 simp only [go_sem, Int.reduceTMod, Int.toNat_one, Int.mul_zero]
 all_goals repeat' (first | apply And.intro | intro _)
 refine hK67 _ _ ?_ ?_
 · first | trivial | (simp only [go_sem]; done) | (simp only [go_sem]; simp; done) | (simp only [go_sem]; simp; simp only [go_sem])
 refine bn65 _ ?_
 refine hN64 _ ?_
 refine region_k fun K68 hK68 => ?_
 simp only [go_sem, Int.reduceTMod, Int.toNat_one, Int.mul_zero]
 all_goals repeat' (first | apply And.intro | intro _)
 refine hK68 _ ?_
 refine hN61 _ ?_
 refine rnd_forget [7, 12, 13, 14, 15, 16, 17, 18, 19, 20, 21, 22, 23, 24, 25, 26, 27, 28, 29] ?_
 simp only [go_sem, St.forget, fgt]
 refine rnd_k fun N69 M69 hN69 hM69 => ?_
 refine sr_k fun K70 hK70 => ?_
 simp only [go_sem, Int.reduceTMod, Int.toNat_one, Int.mul_zero]
 all_goals repeat' (first | apply And.intro | intro _)
 refine hK70 _ ?_
 refine seq_k fun N71 M71 hN71 hM71 => ?_
 refine condT_k (by first | rfl | (simp [go_sem, Int.reduceTMod, Int.toNat_one, Int.mul_zero]; done)) ?_
 refine skip_k ?_
 refine hN71 _ ?_
 refine seq_k fun N72 M72 hN72 hM72 => ?_
 refine block_k fun B73 bn73 bx73 br73 bi73 => ?_
 refine sr_k fun K74 hK74 => ?_
 simp only [go_sem, Int.reduceTMod, Int.toNat_one, Int.mul_zero]
 all_goals repeat' (first | apply And.intro | intro _)
 refine hK74 _ ?_
 refine draw_k [14, 15, 16, 17, 18, 19, 20, 21, 22, 23, 24, 25, 26, 27, 28] [0, 0, 0, 0, 8, 0, 0, 96, 248, 504, 4, 2044, 4092, 1, 16383, 32767] [] mixed (by kernel_rfl) (by simp only [go_sem]) fun K75 hK75 => ?_
 simp only [go_sem, Int.reduceTMod, Int.toNat_one, Int.mul_zero]
 all_goals repeat' (first | apply And.intro | intro _)
 refine hK75 _ _ ?_ ?_
 · first | trivial | (simp only [go_sem]; done) | (simp only [go_sem]; simp; done) | (simp only [go_sem]; simp; simp only [go_sem])
 refine bn73 _ ?_
 refine hN72 _ ?_
 refine region_k fun K76 hK76 => ?_
 simp only [go_sem, Int.reduceTMod, Int.toNat_one, Int.mul_zero]
 all_goals repeat' (first | apply And.intro | intro _)
 refine hK76 _ ?_
 refine hN69 _ ?_
 refine rnd_forget [7, 12, 13, 14, 15, 16, 17, 18, 19, 20, 21, 22, 23, 24, 25, 26, 27, 28, 29] ?_
 simp only [go_sem, St.forget, fgt]
 refine rnd_k fun N77 M77 hN77 hM77 => ?_
 refine sr_k fun K78 hK78 => ?_
 simp only [go_sem, Int.reduceTMod, Int.toNat_one, Int.mul_zero]
 all_goals repeat' (first | apply And.intro | intro _)
 refine hK78 _ ?_
 refine seq_k fun N79 M79 hN79 hM79 => ?_
 refine condT_k (by first | rfl | (simp [go_sem, Int.reduceTMod, Int.toNat_one, Int.mul_zero]; done)) ?_
 refine skip_k ?_
 refine hN79 _ ?_
 refine seq_k fun N80 M80 hN80 hM80 => ?_
 refine block_k fun B81 bn81 bx81 br81 bi81 => ?_
 refine sr_k fun K82 hK82 => ?_
 simp only [go_sem, Int.reduceTMod, Int.toNat_one, Int.mul_zero]
 all_goals repeat' (first | apply And.intro | intro _)
 refine hK82 _ ?_
 refine draw_k [14, 15, 16, 17, 18, 19, 20, 21, 22, 23, 24, 25, 26, 27, 28] [0, 0, 0, 0, 8, 0, 0, 96, 248, 504, 4, 2044, 4092, 1, 16383, 32767] [] mixed (by kernel_rfl) (by simp only [go_sem]) fun K83 hK83 => ?_
 simp only [go_sem, Int.reduceTMod, Int.toNat_one, Int.mul_zero]
 all_goals repeat' (first | apply And.intro | intro _)
 refine hK83 _ _ ?_ ?_
 · first | trivial | (simp only [go_sem]; done) | (simp only [go_sem]; simp; done) | (simp only [go_sem]; simp; simp only [go_sem])
 refine bn81 _ ?_
 refine hN80 _ ?_
 refine region_k fun K84 hK84 => ?_
 simp only [go_sem, Int.reduceTMod, Int.toNat_one, Int.mul_zero]
 all_goals repeat' (first | apply And.intro | intro _)
 refine hK84 _ ?_
 refine hN77 _ ?_
 refine rnd_forget [7, 12, 13, 14, 15, 16, 17, 18, 19, 20, 21, 22, 23, 24, 25, 26, 27, 28, 29] ?_
 simp only [go_sem, St.forget, fgt]
 refine rnd_k fun N85 M85 hN85 hM85 => ?_
 refine sr_k fun K86 hK86 => ?_
 simp only [go_sem, Int.reduceTMod, Int.toNat_one, Int.mul_zero]
 all_goals repeat' (first | apply And.intro | intro _)
 refine hK86 _ ?_
 refine seq_k fun N87 M87 hN87 hM87 => ?_
 refine condT_k (by first | rfl | (simp [go_sem, Int.reduceTMod, Int.toNat_one, Int.mul_zero]; done)) ?_
 refine skip_k ?_
 refine hN87 _ ?_
 refine seq_k fun N88 M88 hN88 hM88 => ?_
 refine block_k fun B89 bn89 bx89 br89 bi89 => ?_
 refine sr_k fun K90 hK90 => ?_
 simp only [go_sem, Int.reduceTMod, Int.toNat_one, Int.mul_zero]
 all_goals repeat' (first | apply And.intro | intro _)
 refine hK90 _ ?_
 refine draw_k [14, 15, 16, 17, 18, 19, 20, 21, 22, 23, 24, 25, 26, 27, 28] [0, 0, 0, 0, 8, 0, 0, 96, 248, 504, 4, 2044, 4092, 1, 16383, 32767] [] mixed (by kernel_rfl) (by simp only [go_sem]) fun K91 hK91 => ?_
 simp only [go_sem, Int.reduceTMod, Int.toNat_one, Int.mul_zero]
 all_goals repeat' (first | apply And.intro | intro _)
 refine hK91 _ _ ?_ ?_
 · first | trivial | (simp only [go_sem]; done) | (simp only [go_sem]; simp; done) | (simp only [go_sem]; simp; simp only [go_sem])
 refine bn89 _ ?_
 refine hN88 _ ?_
 refine region_k fun K92 hK92 => ?_
 simp only [go_sem, Int.reduceTMod, Int.toNat_one, Int.mul_zero]
 all_goals repeat' (first | apply And.intro | intro _)
 refine hK92 _ ?_
 refine hN85 _ ?_
 refine rnd_forget [7, 12, 13, 14, 15, 16, 17, 18, 19, 20, 21, 22, 23, 24, 25, 26, 27, 28, 29] ?_
 simp only [go_sem, St.forget, fgt]
 refine rnd_k fun N93 M93 hN93 hM93 => ?_
 refine sr_k fun K94 hK94 => ?_
 simp only [go_sem, Int.reduceTMod, Int.toNat_one, Int.mul_zero]
 all_goals repeat' (first | apply And.intro | intro _)
 refine hK94 _ ?_
 refine seq_k fun N95 M95 hN95 hM95 => ?_
 refine condF_k (by first | rfl | (simp [go_sem, Int.reduceTMod, Int.toNat_one, Int.mul_zero]; done)) ?_
 refine exit_k ?_
 refine hM95 _ _ ?_
 refine hM93 _ _ ?_
 refine bx59 _ ?_
 refine bn56 _ ?_
 refine hN55 _ ?_
 refine region_k fun K96 hK96 => ?_
 simp only [go_sem, Int.reduceTMod, Int.toNat_one, Int.mul_zero]
 all_goals repeat' (first | apply And.intro | intro _)
 refine hK96 _ ?_
 refine hN52 _ ?_
 refine rnd_forget [6, 7, 9, 10, 11, 12, 13, 14, 15, 16, 17, 18, 19, 20, 21, 22, 23, 24, 25, 26, 27, 28, 29, 30] ?_
 simp only [go_sem, St.forget, fgt]
 refine rnd_k fun N97 M97 hN97 hM97 => ?_
 refine sr_k fun K98 hK98 => ?_
 simp only [go_sem, Int.reduceTMod, Int.toNat_one, Int.mul_zero]
 all_goals repeat' (first | apply And.intro | intro _)
 refine hK98 _ ?_
 refine seq_k fun N99 M99 hN99 hM99 => ?_
 refine condT_k (by first | rfl | (simp [go_sem, Int.reduceTMod, Int.toNat_one, Int.mul_zero]; done)) ?_
 refine skip_k ?_
 refine hN99 _ ?_
 refine seq_k fun N100 M100 hN100 hM100 => ?_
 refine block_k fun B101 bn101 bx101 br101 bi101 => ?_
 refine sr_k fun K102 hK102 => ?_
 simp only [go_sem, Int.reduceTMod, Int.toNat_one, Int.mul_zero]
 all_goals repeat' (first | apply And.intro | intro _)
 refine hK102 _ ?_
 refine sr_k fun K103 hK103 => ?_
 simp only [go_sem, Int.reduceTMod, Int.toNat_one, Int.mul_zero]
 all_goals repeat' (first | apply And.intro | intro _)
 refine hK103 _ ?_
 refine block_k fun B104 bn104 bx104 br104 bi104 => ?_
 refine rounds_k 5 ?_
 refine rnd_k fun N106 M106 hN106 hM106 => ?_
 refine sr_k fun K107 hK107 => ?_
 simp only [go_sem, Int.reduceTMod, Int.toNat_one, Int.mul_zero]
 all_goals repeat' (first | apply And.intro | intro _)
 refine hK107 _ ?_
 refine seq_k fun N108 M108 hN108 hM108 => ?_
 refine condT_k (by first | rfl | (simp [go_sem, Int.reduceTMod, Int.toNat_one, Int.mul_zero]; done)) ?_
 refine skip_k ?_
 refine hN108 _ ?_
 refine seq_k fun N109 M109 hN109 hM109 => ?_
 refine block_k fun B110 bn110 bx110 br110 bi110 => ?_
 refine sr_k fun K111 hK111 => ?_
 simp only [go_sem, Int.reduceTMod, Int.toNat_one, Int.mul_zero]
 all_goals repeat' (first | apply And.intro | intro _)
 refine hK111 _ ?_
 refine draw_k [14, 15, 16, 17, 18, 19, 20, 21, 22, 23, 24, 25, 26, 27, 28] [0, 0, 0, 0, 8, 0, 0, 96, 248, 504, 4, 2044, 4092, 1, 16383, 32767] [] mixed (by kernel_rfl) (by simp only [go_sem]) fun K112 hK112 => ?_
 simp only [go_sem, Int.reduceTMod, Int.toNat_one, Int.mul_zero]
 all_goals repeat' (first | apply And.intro | intro _)
 refine hK112 _ _ ?_ ?_
 · first | trivial | (simp only [go_sem]; done) | (simp only [go_sem]; simp; done) | (simp only [go_sem]; simp; simp only [go_sem])
 refine bn110 _ ?_
 refine hN109 _ ?_
 refine region_k fun K113 hK113 => ?_
 simp only [go_sem, Int.reduceTMod, Int.toNat_one, Int.mul_zero]
 all_goals repeat' (first | apply And.intro | intro _)
 refine hK113 _ ?_
 refine hN106 _ ?_
 refine rnd_forget [7, 12, 13, 14, 15, 16, 17, 18, 19, 20, 21, 22, 23, 24, 25, 26, 27, 28, 29] ?_
 simp only [go_sem, St.forget, fgt]
 refine rnd_k fun N114 M114 hN114 hM114 => ?_
 refine sr_k fun K115 hK115 => ?_
 simp only [go_sem, Int.reduceTMod, Int.toNat_one, Int.mul_zero]
 all_goals repeat' (first | apply And.intro | intro _)
 refine hK115 _ ?_
 refine seq_k fun N116 M116 hN116 hM116 => ?_
 refine condT_k (by first | rfl | (simp [go_sem, Int.reduceTMod, Int.toNat_one, Int.mul_zero]; done)) ?_
 refine skip_k ?_
 refine hN116 _ ?_
 refine seq_k fun N117 M117 hN117 hM117 => ?_
 refine block_k fun B118 bn118 bx118 br118 bi118 => ?_
 refine sr_k fun K119 hK119 => ?_
 simp only [go_sem, Int.reduceTMod, Int.toNat_one, Int.mul_zero]
 all_goals repeat' (first | apply And.intro | intro _)
 refine hK119 _ ?_
 refine draw_k [14, 15, 16, 17, 18, 19, 20, 21, 22, 23, 24, 25, 26, 27, 28] [0, 0, 0, 0, 8, 0, 0, 96, 248, 504, 4, 2044, 4092, 1, 16383, 32767] [] mixed (by kernel_rfl) (by simp only [go_sem]) fun K120 hK120 => ?_
 simp only [go_sem, Int.reduceTMod, Int.toNat_one, Int.mul_zero]
 all_goals repeat' (first | apply And.intro | intro _)
 refine hK120 _ _ ?_ ?_
 · first | trivial | (simp only [go_sem]; done) | (simp only [go_sem]; simp; done) | (simp only [go_sem]; simp; simp only [go_sem])
 refine bn118 _ ?_
 refine hN117 _ ?_
 refine region_k fun K121 hK121 => ?_
 simp only [go_sem, Int.reduceTMod, Int.toNat_one, Int.mul_zero]
 all_goals repeat' (first | apply And.intro | intro _)
 refine hK121 _ ?_
 refine hN114 _ ?_
 refine rnd_forget [7, 12, 13, 14, 15, 16, 17, 18, 19, 20, 21, 22, 23, 24, 25, 26, 27, 28, 29] ?_
 simp only [go_sem, St.forget, fgt]
 refine rnd_k fun N122 M122 hN122 hM122 => ?_
 refine sr_k fun K123 hK123 => ?_
 simp only [go_sem, Int.reduceTMod, Int.toNat_one, Int.mul_zero]
 all_goals repeat' (first | apply And.intro | intro _)
 refine hK123 _ ?_
 refine seq_k fun N124 M124 hN124 hM124 => ?_
 refine condT_k (by first | rfl | (simp [go_sem, Int.reduceTMod, Int.toNat_one, Int.mul_zero]; done)) ?_
 refine skip_k ?_
 refine hN124 _ ?_
 refine seq_k fun N125 M125 hN125 hM125 => ?_
 refine block_k fun B126 bn126 bx126 br126 bi126 => ?_
 refine sr_k fun K127 hK127 => ?_
 simp only [go_sem, Int.reduceTMod, Int.toNat_one, Int.mul_zero]
 all_goals repeat' (first | apply And.intro | intro _)
 refine hK127 _ ?_
 refine draw_k [14, 15, 16, 17, 18, 19, 20, 21, 22, 23, 24, 25, 26, 27, 28] [0, 0, 0, 0, 8, 0, 0, 96, 248, 504, 4, 2044, 4092, 1, 16383, 32767] [] mixed (by kernel_rfl) (by simp only [go_sem]) fun K128 hK128 => ?_
 simp only [go_sem, Int.reduceTMod, Int.toNat_one, Int.mul_zero]
 all_goals repeat' (first | apply And.intro | intro _)
 refine hK128 _ _ ?_ ?_
 · first | trivial | (simp only [go_sem]; done) | (simp only [go_sem]; simp; done) | (simp only [go_sem]; simp; simp only [go_sem])
 refine bn126 _ ?_
 refine hN125 _ ?_
 refine region_k fun K129 hK129 => ?_
 simp only [go_sem, Int.reduceTMod, Int.toNat_one, Int.mul_zero]
 all_goals repeat' (first | apply And.intro | intro _)
 refine hK129 _ ?_
 refine hN122 _ ?_
 refine rnd_forget [7, 12, 13, 14, 15, 16, 17, 18, 19, 20, 21, 22, 23, 24, 25, 26, 27, 28, 29] ?_
 simp only [go_sem, St.forget, fgt]
 refine rnd_k fun N130 M130 hN130 hM130 => ?_
 refine sr_k fun K131 hK131 => ?_
 simp only [go_sem, Int.reduceTMod, Int.toNat_one, Int.mul_zero]
 all_goals repeat' (first | apply And.intro | intro _)
 refine hK131 _ ?_
 refine seq_k fun N132 M132 hN132 hM132 => ?_
 refine condT_k (by first | rfl | (simp [go_sem, Int.reduceTMod, Int.toNat_one, Int.mul_zero]; done)) ?_
 refine skip_k ?_
 refine hN132 _ ?_
 refine seq_k fun N133 M133 hN133 hM133 => ?_
 refine block_k fun B134 bn134 bx134 br134 bi134 => ?_
 refine sr_k fun K135 hK135 => ?_
 simp only [go_sem, Int.reduceTMod, Int.toNat_one, Int.mul_zero]
 all_goals repeat' (first | apply And.intro | intro _)
 refine hK135 _ ?_
 refine draw_k [14, 15, 16, 17, 18, 19, 20, 21, 22, 23, 24, 25, 26, 27, 28] [0, 0, 0, 0, 8, 0, 0, 96, 248, 504, 4, 2044, 4092, 1, 16383, 32767] [] mixed (by kernel_rfl) (by simp only [go_sem]) fun K136 hK136 => ?_
 simp only [go_sem, Int.reduceTMod, Int.toNat_one, Int.mul_zero]
 all_goals repeat' (first | apply And.intro | intro _)
 refine hK136 _ _ ?_ ?_
 · first | trivial | (simp only [go_sem]; done) | (simp only [go_sem]; simp; done) | (simp only [go_sem]; simp; simp only [go_sem])
 refine bn134 _ ?_
 refine hN133 _ ?_
 refine region_k fun K137 hK137 => ?_
 simp only [go_sem, Int.reduceTMod, Int.toNat_one, Int.mul_zero]
 all_goals repeat' (first | apply And.intro | intro _)
 refine hK137 _ ?_
 refine hN130 _ ?_
 refine rnd_forget [7, 12, 13, 14, 15, 16, 17, 18, 19, 20, 21, 22, 23, 24, 25, 26, 27, 28, 29] ?_
 simp only [go_sem, St.forget, fgt]
 refine rnd_k fun N138 M138 hN138 hM138 => ?_
 refine sr_k fun K139 hK139 => ?_
 simp only [go_sem, Int.reduceTMod, Int.toNat_one, Int.mul_zero]
 all_goals repeat' (first | apply And.intro | intro _)
 refine hK139 _ ?_
 refine seq_k fun N140 M140 hN140 hM140 => ?_
 refine condF_k (by first | rfl | (simp [go_sem, Int.reduceTMod, Int.toNat_one, Int.mul_zero]; done)) ?_
 refine exit_k ?_
 refine hM140 _ _ ?_
 refine hM138 _ _ ?_
 refine bx104 _ ?_
 refine bn101 _ ?_
 refine hN100 _ ?_
 refine region_k fun K141 hK141 => ?_
 simp only [go_sem, Int.reduceTMod, Int.toNat_one, Int.mul_zero]
 all_goals repeat' (first | apply And.intro | intro _)
 refine hK141 _ ?_
 refine hN97 _ ?_
 refine rnd_forget [6, 7, 9, 10, 11, 12, 13, 14, 15, 16, 17, 18, 19, 20, 21, 22, 23, 24, 25, 26, 27, 28, 29, 30] ?_
 simp only [go_sem, St.forget, fgt]
 refine rnd_k fun N142 M142 hN142 hM142 => ?_
 refine sr_k fun K143 hK143 => ?_
 simp only [go_sem, Int.reduceTMod, Int.toNat_one, Int.mul_zero]
 all_goals repeat' (first | apply And.intro | intro _)
 refine hK143 _ ?_
 refine seq_k fun N144 M144 hN144 hM144 => ?_
 refine condT_k (by first | rfl | (simp [go_sem, Int.reduceTMod, Int.toNat_one, Int.mul_zero]; done)) ?_
 refine skip_k ?_
 refine hN144 _ ?_
 refine seq_k fun N145 M145 hN145 hM145 => ?_
 refine block_k fun B146 bn146 bx146 br146 bi146 => ?_
 refine sr_k fun K147 hK147 => ?_
 simp only [go_sem, Int.reduceTMod, Int.toNat_one, Int.mul_zero]
 all_goals repeat' (first | apply And.intro | intro _)
 refine hK147 _ ?_
 refine sr_k fun K148 hK148 => ?_
 simp only [go_sem, Int.reduceTMod, Int.toNat_one, Int.mul_zero]
 all_goals repeat' (first | apply And.intro | intro _)
 refine hK148 _ ?_
 refine block_k fun B149 bn149 bx149 br149 bi149 => ?_
 refine rounds_k 5 ?_
 refine rnd_k fun N151 M151 hN151 hM151 => ?_
 refine sr_k fun K152 hK152 => ?_
 simp only [go_sem, Int.reduceTMod, Int.toNat_one, Int.mul_zero]
 all_goals repeat' (first | apply And.intro | intro _)
 refine hK152 _ ?_
 refine seq_k fun N153 M153 hN153 hM153 => ?_
 refine condT_k (by first | rfl | (simp [go_sem, Int.reduceTMod, Int.toNat_one, Int.mul_zero]; done)) ?_
 refine skip_k ?_
 refine hN153 _ ?_
 refine seq_k fun N154 M154 hN154 hM154 => ?_
 refine block_k fun B155 bn155 bx155 br155 bi155 => ?_
 refine sr_k fun K156 hK156 => ?_
 simp only [go_sem, Int.reduceTMod, Int.toNat_one, Int.mul_zero]
 all_goals repeat' (first | apply And.intro | intro _)
 refine hK156 _ ?_
 refine draw_k [14, 15, 16, 17, 18, 19, 20, 21, 22, 23, 24, 25, 26, 27, 28] [0, 0, 0, 0, 8, 0, 0, 96, 248, 504, 4, 2044, 4092, 1, 16383, 32767] [] mixed (by kernel_rfl) (by simp only [go_sem]) fun K157 hK157 => ?_
 simp only [go_sem, Int.reduceTMod, Int.toNat_one, Int.mul_zero]
 all_goals repeat' (first | apply And.intro | intro _)
 refine hK157 _ _ ?_ ?_
 · first | trivial | (simp only [go_sem]; done) | (simp only [go_sem]; simp; done) | (simp only [go_sem]; simp; simp only [go_sem])
 refine bn155 _ ?_
 refine hN154 _ ?_
 refine region_k fun K158 hK158 => ?_
 simp only [go_sem, Int.reduceTMod, Int.toNat_one, Int.mul_zero]
 all_goals repeat' (first | apply And.intro | intro _)
 refine hK158 _ ?_
 refine hN151 _ ?_
 refine rnd_forget [7, 12, 13, 14, 15, 16, 17, 18, 19, 20, 21, 22, 23, 24, 25, 26, 27, 28, 29] ?_
 simp only [go_sem, St.forget, fgt]
 refine rnd_k fun N159 M159 hN159 hM159 => ?_
 refine sr_k fun K160 hK160 => ?_
 simp only [go_sem, Int.reduceTMod, Int.toNat_one, Int.mul_zero]
 all_goals repeat' (first | apply And.intro | intro _)
 refine hK160 _ ?_
 refine seq_k fun N161 M161 hN161 hM161 => ?_
 refine condT_k (by first | rfl | (simp [go_sem, Int.reduceTMod, Int.toNat_one, Int.mul_zero]; done)) ?_
 refine skip_k ?_
 refine hN161 _ ?_
 refine seq_k fun N162 M162 hN162 hM162 => ?_
 refine block_k fun B163 bn163 bx163 br163 bi163 => ?_
 refine sr_k fun K164 hK164 => ?_
 simp only [go_sem, Int.reduceTMod, Int.toNat_one, Int.mul_zero]
 all_goals repeat' (first | apply And.intro | intro _)
 refine hK164 _ ?_
 refine draw_k [14, 15, 16, 17, 18, 19, 20, 21, 22, 23, 24, 25, 26, 27, 28] [0, 0, 0, 0, 8, 0, 0, 96, 248, 504, 4, 2044, 4092, 1, 16383, 32767] [] mixed (by kernel_rfl) (by simp only [go_sem]) fun K165 hK165 => ?_
 simp only [go_sem, Int.reduceTMod, Int.toNat_one, Int.mul_zero]
 all_goals repeat' (first | apply And.intro | intro _)
 refine hK165 _ _ ?_ ?_
 · first | trivial | (simp only [go_sem]; done) | (simp only [go_sem]; simp; done) | (simp only [go_sem]; simp; simp only [go_sem])
 refine bn163 _ ?_
 refine hN162 _ ?_
 refine region_k fun K166 hK166 => ?_
 simp only [go_sem, Int.reduceTMod, Int.toNat_one, Int.mul_zero]
 all_goals repeat' (first | apply And.intro | intro _)
 refine hK166 _ ?_
 refine hN159 _ ?_
 refine rnd_forget [7, 12, 13, 14, 15, 16, 17, 18, 19, 20, 21, 22, 23, 24, 25, 26, 27, 28, 29] ?_
 simp only [go_sem, St.forget, fgt]
 refine rnd_k fun N167 M167 hN167 hM167 => ?_
 refine sr_k fun K168 hK168 => ?_
 simp only [go_sem, Int.reduceTMod, Int.toNat_one, Int.mul_zero]
 all_goals repeat' (first | apply And.intro | intro _)
 refine hK168 _ ?_
 refine seq_k fun N169 M169 hN169 hM169 => ?_
 refine condT_k (by first | rfl | (simp [go_sem, Int.reduceTMod, Int.toNat_one, Int.mul_zero]; done)) ?_
 refine skip_k ?_
 refine hN169 _ ?_
 refine seq_k fun N170 M170 hN170 hM170 => ?_
 refine block_k fun B171 bn171 bx171 br171 bi171 => ?_
 refine sr_k fun K172 hK172 => ?_
 simp only [go_sem, Int.reduceTMod, Int.toNat_one, Int.mul_zero]
 all_goals repeat' (first | apply And.intro | intro _)
 refine hK172 _ ?_
 refine draw_k [14, 15, 16, 17, 18, 19, 20, 21, 22, 23, 24, 25, 26, 27, 28] [0, 0, 0, 0, 8, 0, 0, 96, 248, 504, 4, 2044, 4092, 1, 16383, 32767] [] mixed (by kernel_rfl) (by simp only [go_sem]) fun K173 hK173 => ?_
 simp only [go_sem, Int.reduceTMod, Int.toNat_one, Int.mul_zero]
 all_goals repeat' (first | apply And.intro | intro _)
 refine hK173 _ _ ?_ ?_
 · first | trivial | (simp only [go_sem]; done) | (simp only [go_sem]; simp; done) | (simp only [go_sem]; simp; simp only [go_sem])
 refine bn171 _ ?_
 refine hN170 _ ?_
 refine region_k fun K174 hK174 => ?_
 simp only [go_sem, Int.reduceTMod, Int.toNat_one, Int.mul_zero]
 all_goals repeat' (first | apply And.intro | intro _)
 refine hK174 _ ?_
 refine hN167 _ ?_
 refine rnd_forget [7, 12, 13, 14, 15, 16, 17, 18, 19, 20, 21, 22, 23, 24, 25, 26, 27, 28, 29] ?_
 simp only [go_sem, St.forget, fgt]
 refine rnd_k fun N175 M175 hN175 hM175 => ?_
 refine sr_k fun K176 hK176 => ?_
 simp only [go_sem, Int.reduceTMod, Int.toNat_one, Int.mul_zero]
 all_goals repeat' (first | apply And.intro | intro _)
 refine hK176 _ ?_
 refine seq_k fun N177 M177 hN177 hM177 => ?_
 refine condT_k (by first | rfl | (simp [go_sem, Int.reduceTMod, Int.toNat_one, Int.mul_zero]; done)) ?_
 refine skip_k ?_
 refine hN177 _ ?_
 refine seq_k fun N178 M178 hN178 hM178 => ?_
 refine block_k fun B179 bn179 bx179 br179 bi179 => ?_
 refine sr_k fun K180 hK180 => ?_
 simp only [go_sem, Int.reduceTMod, Int.toNat_one, Int.mul_zero]
 all_goals repeat' (first | apply And.intro | intro _)
 refine hK180 _ ?_
 refine draw_k [14, 15, 16, 17, 18, 19, 20, 21, 22, 23, 24, 25, 26, 27, 28] [0, 0, 0, 0, 8, 0, 0, 96, 248, 504, 4, 2044, 4092, 1, 16383, 32767] [] mixed (by kernel_rfl) (by simp only [go_sem]) fun K181 hK181 => ?_
 simp only [go_sem, Int.reduceTMod, Int.toNat_one, Int.mul_zero]
 all_goals repeat' (first | apply And.intro | intro _)
 refine hK181 _ _ ?_ ?_
 · first | trivial | (simp only [go_sem]; done) | (simp only [go_sem]; simp; done) | (simp only [go_sem]; simp; simp only [go_sem])
 refine bn179 _ ?_
 refine hN178 _ ?_
 refine region_k fun K182 hK182 => ?_
 simp only [go_sem, Int.reduceTMod, Int.toNat_one, Int.mul_zero]
 all_goals repeat' (first | apply And.intro | intro _)
 refine hK182 _ ?_
 refine hN175 _ ?_
 refine rnd_forget [7, 12, 13, 14, 15, 16, 17, 18, 19, 20, 21, 22, 23, 24, 25, 26, 27, 28, 29] ?_
 simp only [go_sem, St.forget, fgt]
 refine rnd_k fun N183 M183 hN183 hM183 => ?_
 refine sr_k fun K184 hK184 => ?_
 simp only [go_sem, Int.reduceTMod, Int.toNat_one, Int.mul_zero]
 all_goals repeat' (first | apply And.intro | intro _)
 refine hK184 _ ?_
 refine seq_k fun N185 M185 hN185 hM185 => ?_
 refine condF_k (by first | rfl | (simp [go_sem, Int.reduceTMod, Int.toNat_one, Int.mul_zero]; done)) ?_
 refine exit_k ?_
 refine hM185 _ _ ?_
 refine hM183 _ _ ?_
 refine bx149 _ ?_
 refine bn146 _ ?_
 refine hN145 _ ?_
 refine region_k fun K186 hK186 => ?_
 simp only [go_sem, Int.reduceTMod, Int.toNat_one, Int.mul_zero]
 all_goals repeat' (first | apply And.intro | intro _)
 refine hK186 _ ?_
 refine hN142 _ ?_
 refine rnd_forget [6, 7, 9, 10, 11, 12, 13, 14, 15, 16, 17, 18, 19, 20, 21, 22, 23, 24, 25, 26, 27, 28, 29, 30] ?_
 simp only [go_sem, St.forget, fgt]
 refine rnd_k fun N187 M187 hN187 hM187 => ?_
 refine sr_k fun K188 hK188 => ?_
 simp only [go_sem, Int.reduceTMod, Int.toNat_one, Int.mul_zero]
 all_goals repeat' (first | apply And.intro | intro _)
 refine hK188 _ ?_
 refine seq_k fun N189 M189 hN189 hM189 => ?_
 refine condF_k (by first | rfl | (simp [go_sem, Int.reduceTMod, Int.toNat_one, Int.mul_zero]; done)) ?_
 refine exit_k ?_
 refine hM189 _ _ ?_
 refine hM187 _ _ ?_
 refine bx5 _ ?_
 refine hN3 _ ?_
 refine sr_k fun K190 hK190 => ?_
 simp only [go_sem, Int.reduceTMod, Int.toNat_one, Int.mul_zero]
 all_goals repeat' (first | apply And.intro | intro _)
 refine hK190 _ ?_
 refine ret_k ?_
 simp only [go_sem, Int.reduceTMod, Int.toNat_one, Int.mul_zero]
 all_goals (rfl)
set_option maxHeartbeats 1600000 in
set_option maxRecDepth 100000 in
theorem shifted_m (x0 x1 x2 x3 x4 x5 x6 x7 x8 x9 x10 x11 x12 x13 x14 x15 : UInt32) :
 Ct Try.prog 49 [.w (.agg [.pl (.u32 x0), .pl (.u32 x1), .pl (.u32 x2), .pl (.u32 x3), .pl (.u32 x4), .pl (.u32 x5), .pl (.u32 x6), .pl (.u32 x7), .pl (.u32 x8), .pl (.u32 x9), .pl (.u32 x10), .pl (.u32 x11), .pl (.u32 x12), .pl (.u32 x13), .pl (.u32 x14), .pl (.u32 x15)]), .w (.one (.pl (.i (-1))))] (fun v m => v = .w (.agg (⟨x0, x1, x2, x3, x4, x5, x6, x7, x8, x9, x10, x11, x12, x13, x14, x15⟩ : W16).unsh.ls)) := by
 refine Ct.k Try.func49 rfl Try.ntmps49 (congrArg Array.toList Try.results49) (by simp) fun w0 ro => ?_
 refine sr_k fun K1 hK1 => ?_
 simp only [go_sem, Int.reduceTMod, Int.toNat_one, Int.mul_zero]
 all_goals repeat' (first | apply And.intro | intro _)
 refine hK1 _ ?_
 refine sr_k fun K2 hK2 => ?_
 simp only [go_sem, Int.reduceTMod, Int.toNat_one, Int.mul_zero]
 all_goals repeat' (first | apply And.intro | intro _)
 refine hK2 _ ?_
 refine seq_k fun N3 M3 hN3 hM3 => ?_
 refine sr_k fun K4 hK4 => ?_
 simp only [go_sem, Int.reduceTMod, Int.toNat_one, Int.mul_zero]
 all_goals repeat' (first | apply And.intro | intro _)
 refine hK4 _ ?_
 refine block_k fun B5 bn5 bx5 br5 bi5 => ?_
 refine rounds_k 5 ?_
 refine rnd_k fun N7 M7 hN7 hM7 => ?_
 refine sr_k fun K8 hK8 => ?_
 simp only [go_sem, Int.reduceTMod, Int.toNat_one, Int.mul_zero]
 all_goals repeat' (first | apply And.intro | intro _)
 refine hK8 _ ?_
 refine seq_k fun N9 M9 hN9 hM9 => ?_
 refine condT_k (by first | rfl | (simp [go_sem, Int.reduceTMod, Int.toNat_one, Int.mul_zero]; done)) ?_
 refine skip_k ?_
 refine hN9 _ ?_
 refine seq_k fun N10 M10 hN10 hM10 => ?_
 refine block_k fun B11 bn11 bx11 br11 bi11 => ?_
 refine sr_k fun K12 hK12 => ?_
 simp only [go_sem, Int.reduceTMod, Int.toNat_one, Int.mul_zero]
 all_goals repeat' (first | apply And.intro | intro _)
 refine hK12 _ ?_
 refine sr_k fun K13 hK13 => ?_
 simp only [go_sem, Int.reduceTMod, Int.toNat_one, Int.mul_zero]
 all_goals repeat' (first | apply And.intro | intro _)
 refine hK13 _ ?_
 refine block_k fun B14 bn14 bx14 br14 bi14 => ?_
 refine rounds_k 5 ?_
 refine rnd_k fun N16 M16 hN16 hM16 => ?_
 refine sr_k fun K17 hK17 => ?_
 simp only [go_sem, Int.reduceTMod, Int.toNat_one, Int.mul_zero]
 all_goals repeat' (first | apply And.intro | intro _)
 refine hK17 _ ?_
 refine seq_k fun N18 M18 hN18 hM18 => ?_
 refine condT_k (by first | rfl | (simp [go_sem, Int.reduceTMod, Int.toNat_one, Int.mul_zero]; done)) ?_
 refine skip_k ?_
 refine hN18 _ ?_
 refine seq_k fun N19 M19 hN19 hM19 => ?_
 refine block_k fun B20 bn20 bx20 br20 bi20 => ?_
 refine sr_k fun K21 hK21 => ?_
 simp only [go_sem, Int.reduceTMod, Int.toNat_one, Int.mul_zero]
 all_goals repeat' (first | apply And.intro | intro _)
 refine hK21 _ ?_
 refine draw_k [14, 15, 16, 17, 18, 19, 20, 21, 22, 23, 24, 25, 26, 27, 28] [0, 0, 0, 0, 8, 0, 0, 96, 248, 504, 4, 2044, 4092, 1, 16383, 32767] [] mixed (by kernel_rfl) (by simp only [go_sem]) fun K22 hK22 => ?_
 simp only [go_sem, Int.reduceTMod, Int.toNat_one, Int.mul_zero]
 all_goals repeat' (first | apply And.intro | intro _)
 refine hK22 _ _ ?_ ?_
 · first | trivial | (simp only [go_sem]; done) | (simp only [go_sem]; simp; done) | (simp only [go_sem]; simp; simp only [go_sem])
 refine bn20 _ ?_
 refine hN19 _ ?_
 refine region_k fun K23 hK23 => ?_
 simp only [go_sem, Int.reduceTMod, Int.toNat_one, Int.mul_zero]
 all_goals repeat' (first | apply And.intro | intro _)
 refine hK23 _ ?_
 refine hN16 _ ?_
 refine rnd_forget [7, 12, 13, 14, 15, 16, 17, 18, 19, 20, 21, 22, 23, 24, 25, 26, 27, 28, 29] ?_
 simp only [go_sem, St.forget, fgt]
 refine rnd_k fun N24 M24 hN24 hM24 => ?_
 refine sr_k fun K25 hK25 => ?_
 simp only [go_sem, Int.reduceTMod, Int.toNat_one, Int.mul_zero]
 all_goals repeat' (first | apply And.intro | intro _)
 refine hK25 _ ?_
 refine seq_k fun N26 M26 hN26 hM26 => ?_
 refine condT_k (by first | rfl | (simp [go_sem, Int.reduceTMod, Int.toNat_one, Int.mul_zero]; done)) ?_
 refine skip_k ?_
 refine hN26 _ ?_
 refine seq_k fun N27 M27 hN27 hM27 => ?_
 refine block_k fun B28 bn28 bx28 br28 bi28 => ?_
 refine sr_k fun K29 hK29 => ?_
 simp only [go_sem, Int.reduceTMod, Int.toNat_one, Int.mul_zero]
 all_goals repeat' (first | apply And.intro | intro _)
 refine hK29 _ ?_
 refine draw_k [14, 15, 16, 17, 18, 19, 20, 21, 22, 23, 24, 25, 26, 27, 28] [0, 0, 0, 0, 8, 0, 0, 96, 248, 504, 4, 2044, 4092, 1, 16383, 32767] [] mixed (by kernel_rfl) (by simp only [go_sem]) fun K30 hK30 => ?_
 simp only [go_sem, Int.reduceTMod, Int.toNat_one, Int.mul_zero]
 all_goals repeat' (first | apply And.intro | intro _)
 refine hK30 _ _ ?_ ?_
 · first | trivial | (simp only [go_sem]; done) | (simp only [go_sem]; simp; done) | (simp only [go_sem]; simp; simp only [go_sem])
 refine bn28 _ ?_
 refine hN27 _ ?_
 refine region_k fun K31 hK31 => ?_
 simp only [go_sem, Int.reduceTMod, Int.toNat_one, Int.mul_zero]
 all_goals repeat' (first | apply And.intro | intro _)
 refine hK31 _ ?_
 refine hN24 _ ?_
 refine rnd_forget [7, 12, 13, 14, 15, 16, 17, 18, 19, 20, 21, 22, 23, 24, 25, 26, 27, 28, 29] ?_
 simp only [go_sem, St.forget, fgt]
 refine rnd_k fun N32 M32 hN32 hM32 => ?_
 refine sr_k fun K33 hK33 => ?_
 simp only [go_sem, Int.reduceTMod, Int.toNat_one, Int.mul_zero]
 all_goals repeat' (first | apply And.intro | intro _)
 refine hK33 _ ?_
 refine seq_k fun N34 M34 hN34 hM34 => ?_
 refine condT_k (by first | rfl | (simp [go_sem, Int.reduceTMod, Int.toNat_one, Int.mul_zero]; done)) ?_
 refine skip_k ?_
 refine hN34 _ ?_
 refine seq_k fun N35 M35 hN35 hM35 => ?_
 refine block_k fun B36 bn36 bx36 br36 bi36 => ?_
 refine sr_k fun K37 hK37 => ?_
 simp only [go_sem, Int.reduceTMod, Int.toNat_one, Int.mul_zero]
 all_goals repeat' (first | apply And.intro | intro _)
 refine hK37 _ ?_
 refine draw_k [14, 15, 16, 17, 18, 19, 20, 21, 22, 23, 24, 25, 26, 27, 28] [0, 0, 0, 0, 8, 0, 0, 96, 248, 504, 4, 2044, 4092, 1, 16383, 32767] [] mixed (by kernel_rfl) (by simp only [go_sem]) fun K38 hK38 => ?_
 simp only [go_sem, Int.reduceTMod, Int.toNat_one, Int.mul_zero]
 all_goals repeat' (first | apply And.intro | intro _)
 refine hK38 _ _ ?_ ?_
 · first | trivial | (simp only [go_sem]; done) | (simp only [go_sem]; simp; done) | (simp only [go_sem]; simp; simp only [go_sem])
 refine bn36 _ ?_
 refine hN35 _ ?_
 refine region_k fun K39 hK39 => ?_
 simp only [go_sem, Int.reduceTMod, Int.toNat_one, Int.mul_zero]
 all_goals repeat' (first | apply And.intro | intro _)
 refine hK39 _ ?_
 refine hN32 _ ?_
 refine rnd_forget [7, 12, 13, 14, 15, 16, 17, 18, 19, 20, 21, 22, 23, 24, 25, 26, 27, 28, 29] ?_
 simp only [go_sem, St.forget, fgt]
 refine rnd_k fun N40 M40 hN40 hM40 => ?_
 refine sr_k fun K41 hK41 => ?_
 simp only [go_sem, Int.reduceTMod, Int.toNat_one, Int.mul_zero]
 all_goals repeat' (first | apply And.intro | intro _)
 refine hK41 _ ?_
 refine seq_k fun N42 M42 hN42 hM42 => ?_
 refine condT_k (by first | rfl | (simp [go_sem, Int.reduceTMod, Int.toNat_one, Int.mul_zero]; done)) ?_
 refine skip_k ?_
 refine hN42 _ ?_
 refine seq_k fun N43 M43 hN43 hM43 => ?_
 refine block_k fun B44 bn44 bx44 br44 bi44 => ?_
 refine sr_k fun K45 hK45 => ?_
 simp only [go_sem, Int.reduceTMod, Int.toNat_one, Int.mul_zero]
 all_goals repeat' (first | apply And.intro | intro _)
 refine hK45 _ ?_
 refine draw_k [14, 15, 16, 17, 18, 19, 20, 21, 22, 23, 24, 25, 26, 27, 28] [0, 0, 0, 0, 8, 0, 0, 96, 248, 504, 4, 2044, 4092, 1, 16383, 32767] [] mixed (by kernel_rfl) (by simp only [go_sem]) fun K46 hK46 => ?_
 simp only [go_sem, Int.reduceTMod, Int.toNat_one, Int.mul_zero]
 all_goals repeat' (first | apply And.intro | intro _)
 refine hK46 _ _ ?_ ?_
 · first | trivial | (simp only [go_sem]; done) | (simp only [go_sem]; simp; done) | (simp only [go_sem]; simp; simp only [go_sem])
 refine bn44 _ ?_
 refine hN43 _ ?_
 refine region_k fun K47 hK47 => ?_
 simp only [go_sem, Int.reduceTMod, Int.toNat_one, Int.mul_zero]
 all_goals repeat' (first | apply And.intro | intro _)
 refine hK47 _ ?_
 refine hN40 _ ?_
 refine rnd_forget [7, 12, 13, 14, 15, 16, 17, 18, 19, 20, 21, 22, 23, 24, 25, 26, 27, 28, 29] ?_
 simp only [go_sem, St.forget, fgt]
 refine rnd_k fun N48 M48 hN48 hM48 => ?_
 refine sr_k fun K49 hK49 => ?_
 simp only [go_sem, Int.reduceTMod, Int.toNat_one, Int.mul_zero]
 all_goals repeat' (first | apply And.intro | intro _)
 refine hK49 _ ?_
 refine seq_k fun N50 M50 hN50 hM50 => ?_
 refine condF_k (by first | rfl | (simp [go_sem, Int.reduceTMod, Int.toNat_one, Int.mul_zero]; done)) ?_
 refine exit_k ?_
 refine hM50 _ _ ?_
 refine hM48 _ _ ?_
 refine bx14 _ ?_
 refine bn11 _ ?_
 refine hN10 _ ?_
 refine region_k fun K51 hK51 => ?_
 simp only [go_sem, Int.reduceTMod, Int.toNat_one, Int.mul_zero]
 all_goals repeat' (first | apply And.intro | intro _)
 refine hK51 _ ?_
 refine hN7 _ ?_
 refine rnd_forget [6, 7, 9, 10, 11, 12, 13, 14, 15, 16, 17, 18, 19, 20, 21, 22, 23, 24, 25, 26, 27, 28, 29, 30] ?_
 simp only [go_sem, St.forget, fgt]
 refine rnd_k fun N52 M52 hN52 hM52 => ?_
 refine sr_k fun K53 hK53 => ?_
 simp only [go_sem, Int.reduceTMod, Int.toNat_one, Int.mul_zero]
 all_goals repeat' (first | apply And.intro | intro _)
 refine hK53 _ ?_
 refine seq_k fun N54 M54 hN54 hM54 => ?_
 refine condT_k (by first | rfl | (simp [go_sem, Int.reduceTMod, Int.toNat_one, Int.mul_zero]; done)) ?_
 refine skip_k ?_
 refine hN54 _ ?_
 refine seq_k fun N55 M55 hN55 hM55 => ?_
 refine block_k fun B56 bn56 bx56 br56 bi56 => ?_
 refine sr_k fun K57 hK57 => ?_
 simp only [go_sem, Int.reduceTMod, Int.toNat_one, Int.mul_zero]
 all_goals repeat' (first | apply And.intro | intro _)
 refine hK57 _ ?_
 refine sr_k fun K58 hK58 => ?_
 simp only [go_sem, Int.reduceTMod, Int.toNat_one, Int.mul_zero]
 all_goals repeat' (first | apply And.intro | intro _)
 refine hK58 _ ?_
 refine block_k fun B59 bn59 bx59 br59 bi59 => ?_
 refine rounds_k 5 ?_
 refine rnd_k fun N61 M61 hN61 hM61 => ?_
 refine sr_k fun K62 hK62 => ?_
 simp only [go_sem, Int.reduceTMod, Int.toNat_one, Int.mul_zero]
 all_goals repeat' (first | apply And.intro | intro _)
 refine hK62 _ ?_
 refine seq_k fun N63 M63 hN63 hM63 => ?_
 refine condT_k (by first | rfl | (simp [go_sem, Int.reduceTMod, Int.toNat_one, Int.mul_zero]; done)) ?_
 refine skip_k ?_
 refine hN63 _ ?_
 refine seq_k fun N64 M64 hN64 hM64 => ?_
 refine block_k fun B65 bn65 bx65 br65 bi65 => ?_
 refine sr_k fun K66 hK66 => ?_
 simp only [go_sem, Int.reduceTMod, Int.toNat_one, Int.mul_zero]
 all_goals repeat' (first | apply And.intro | intro _)
 refine hK66 _ ?_
 refine draw_k [14, 15, 16, 17, 18, 19, 20, 21, 22, 23, 24, 25, 26, 27, 28] [0, 0, 0, 0, 8, 0, 0, 96, 248, 504, 4, 2044, 4092, 1, 16383, 32767] [] mixed (by kernel_rfl) (by simp only [go_sem]) fun K67 hK67 => ?_
 simp only [go_sem, Int.reduceTMod, Int.toNat_one, Int.mul_zero]
 all_goals repeat' (first | apply And.intro | intro _)
 refine hK67 _ _ ?_ ?_
 · first | trivial | (simp only [go_sem]; done) | (simp only [go_sem]; simp; done) | (simp only [go_sem]; simp; simp only [go_sem])
 refine bn65 _ ?_
 refine hN64 _ ?_
 refine region_k fun K68 hK68 => ?_
 simp only [go_sem, Int.reduceTMod, Int.toNat_one, Int.mul_zero]
 all_goals repeat' (first | apply And.intro | intro _)
 refine hK68 _ ?_
 refine hN61 _ ?_
 refine rnd_forget [7, 12, 13, 14, 15, 16, 17, 18, 19, 20, 21, 22, 23, 24, 25, 26, 27, 28, 29] ?_
 simp only [go_sem, St.forget, fgt]
 refine rnd_k fun N69 M69 hN69 hM69 => ?_
 refine sr_k fun K70 hK70 => ?_
 simp only [go_sem, Int.reduceTMod, Int.toNat_one, Int.mul_zero]
 all_goals repeat' (first | apply And.intro | intro _)
 refine hK70 _ ?_
 refine seq_k fun N71 M71 hN71 hM71 => ?_
 refine condT_k (by first | rfl | (simp [go_sem, Int.reduceTMod, Int.toNat_one, Int.mul_zero]; done)) ?_
 refine skip_k ?_
 refine hN71 _ ?_
 refine seq_k fun N72 M72 hN72 hM72 => ?_
 refine block_k fun B73 bn73 bx73 br73 bi73 => ?_
 refine sr_k fun K74 hK74 => ?_
 simp only [go_sem, Int.reduceTMod, Int.toNat_one, Int.mul_zero]
 all_goals repeat' (first | apply And.intro | intro _)
 refine hK74 _ ?_
 refine draw_k [14, 15, 16, 17, 18, 19, 20, 21, 22, 23, 24, 25, 26, 27, 28] [0, 0, 0, 0, 8, 0, 0, 96, 248, 504, 4, 2044, 4092, 1, 16383, 32767] [] mixed (by kernel_rfl) (by simp only [go_sem]) fun K75 hK75 => ?_
 simp only [go_sem, Int.reduceTMod, Int.toNat_one, Int.mul_zero]
 all_goals repeat' (first | apply And.intro | intro _)
 refine hK75 _ _ ?_ ?_
 · first | trivial | (simp only [go_sem]; done) | (simp only [go_sem]; simp; done) | (simp only [go_sem]; simp; simp only [go_sem])
 refine bn73 _ ?_
 refine hN72 _ ?_
 refine region_k fun K76 hK76 => ?_
 simp only [go_sem, Int.reduceTMod, Int.toNat_one, Int.mul_zero]
 all_goals repeat' (first | apply And.intro | intro _)
 refine hK76 _ ?_
 refine hN69 _ ?_
 refine rnd_forget [7, 12, 13, 14, 15, 16, 17, 18, 19, 20, 21, 22, 23, 24, 25, 26, 27, 28, 29] ?_
 simp only [go_sem, St.forget, fgt]
 refine rnd_k fun N77 M77 hN77 hM77 => ?_
 refine sr_k fun K78 hK78 => ?_
 simp only [go_sem, Int.reduceTMod, Int.toNat_one, Int.mul_zero]
 all_goals repeat' (first | apply And.intro | intro _)
 refine hK78 _ ?_
 refine seq_k fun N79 M79 hN79 hM79 => ?_
 refine condT_k (by first | rfl | (simp [go_sem, Int.reduceTMod, Int.toNat_one, Int.mul_zero]; done)) ?_
 refine skip_k ?_
 refine hN79 _ ?_
 refine seq_k fun N80 M80 hN80 hM80 => ?_
 refine block_k fun B81 bn81 bx81 br81 bi81 => ?_
 refine sr_k fun K82 hK82 => ?_
 simp only [go_sem, Int.reduceTMod, Int.toNat_one, Int.mul_zero]
 all_goals repeat' (first | apply And.intro | intro _)
 refine hK82 _ ?_
 refine draw_k [14, 15, 16, 17, 18, 19, 20, 21, 22, 23, 24, 25, 26, 27, 28] [0, 0, 0, 0, 8, 0, 0, 96, 248, 504, 4, 2044, 4092, 1, 16383, 32767] [] mixed (by kernel_rfl) (by simp only [go_sem]) fun K83 hK83 => ?_
 simp only [go_sem, Int.reduceTMod, Int.toNat_one, Int.mul_zero]
 all_goals repeat' (first | apply And.intro | intro _)
 refine hK83 _ _ ?_ ?_
 · first | trivial | (simp only [go_sem]; done) | (simp only [go_sem]; simp; done) | (simp only [go_sem]; simp; simp only [go_sem])
 refine bn81 _ ?_
 refine hN80 _ ?_
 refine region_k fun K84 hK84 => ?_
 simp only [go_sem, Int.reduceTMod, Int.toNat_one, Int.mul_zero]
 all_goals repeat' (first | apply And.intro | intro _)
 refine hK84 _ ?_
 refine hN77 _ ?_
 refine rnd_forget [7, 12, 13, 14, 15, 16, 17, 18, 19, 20, 21, 22, 23, 24, 25, 26, 27, 28, 29] ?_
 simp only [go_sem, St.forget, fgt]
 refine rnd_k fun N85 M85 hN85 hM85 => ?_
 refine sr_k fun K86 hK86 => ?_
 simp only [go_sem, Int.reduceTMod, Int.toNat_one, Int.mul_zero]
 all_goals repeat' (first | apply And.intro | intro _)
 refine hK86 _ ?_
 refine seq_k fun N87 M87 hN87 hM87 => ?_
 refine condT_k (by first | rfl | (simp [go_sem, Int.reduceTMod, Int.toNat_one, Int.mul_zero]; done)) ?_
 refine skip_k ?_
 refine hN87 _ ?_
 refine seq_k fun N88 M88 hN88 hM88 => ?_
 refine block_k fun B89 bn89 bx89 br89 bi89 => ?_
 refine sr_k fun K90 hK90 => ?_
 simp only [go_sem, Int.reduceTMod, Int.toNat_one, Int.mul_zero]
 all_goals repeat' (first | apply And.intro | intro _)
 refine hK90 _ ?_
 refine draw_k [14, 15, 16, 17, 18, 19, 20, 21, 22, 23, 24, 25, 26, 27, 28] [0, 0, 0, 0, 8, 0, 0, 96, 248, 504, 4, 2044, 4092, 1, 16383, 32767] [] mixed (by kernel_rfl) (by simp only [go_sem]) fun K91 hK91 => ?_
 simp only [go_sem, Int.reduceTMod, Int.toNat_one, Int.mul_zero]
 all_goals repeat' (first | apply And.intro | intro _)
 refine hK91 _ _ ?_ ?_
 · first | trivial | (simp only [go_sem]; done) | (simp only [go_sem]; simp; done) | (simp only [go_sem]; simp; simp only [go_sem])
 refine bn89 _ ?_
 refine hN88 _ ?_
 refine region_k fun K92 hK92 => ?_
 simp only [go_sem, Int.reduceTMod, Int.toNat_one, Int.mul_zero]
 all_goals repeat' (first | apply And.intro | intro _)
 refine hK92 _ ?_
 refine hN85 _ ?_
 refine rnd_forget [7, 12, 13, 14, 15, 16, 17, 18, 19, 20, 21, 22, 23, 24, 25, 26, 27, 28, 29] ?_
 simp only [go_sem, St.forget, fgt]
 refine rnd_k fun N93 M93 hN93 hM93 => ?_
 refine sr_k fun K94 hK94 => ?_
 simp only [go_sem, Int.reduceTMod, Int.toNat_one, Int.mul_zero]
 all_goals repeat' (first | apply And.intro | intro _)
 refine hK94 _ ?_
 refine seq_k fun N95 M95 hN95 hM95 => ?_
 refine condF_k (by first | rfl | (simp [go_sem, Int.reduceTMod, Int.toNat_one, Int.mul_zero]; done)) ?_
 refine exit_k ?_
 refine hM95 _ _ ?_
 refine hM93 _ _ ?_
 refine bx59 _ ?_
 refine bn56 _ ?_
 refine hN55 _ ?_
 refine region_k fun K96 hK96 => ?_
 simp only [go_sem, Int.reduceTMod, Int.toNat_one, Int.mul_zero]
 all_goals repeat' (first | apply And.intro | intro _)
 refine hK96 _ ?_
 refine hN52 _ ?_
 refine rnd_forget [6, 7, 9, 10, 11, 12, 13, 14, 15, 16, 17, 18, 19, 20, 21, 22, 23, 24, 25, 26, 27, 28, 29, 30] ?_
 simp only [go_sem, St.forget, fgt]
 refine rnd_k fun N97 M97 hN97 hM97 => ?_
 refine sr_k fun K98 hK98 => ?_
 simp only [go_sem, Int.reduceTMod, Int.toNat_one, Int.mul_zero]
 all_goals repeat' (first | apply And.intro | intro _)
 refine hK98 _ ?_
 refine seq_k fun N99 M99 hN99 hM99 => ?_
 refine condT_k (by first | rfl | (simp [go_sem, Int.reduceTMod, Int.toNat_one, Int.mul_zero]; done)) ?_
 refine skip_k ?_
 refine hN99 _ ?_
 refine seq_k fun N100 M100 hN100 hM100 => ?_
 refine block_k fun B101 bn101 bx101 br101 bi101 => ?_
 refine sr_k fun K102 hK102 => ?_
 simp only [go_sem, Int.reduceTMod, Int.toNat_one, Int.mul_zero]
 all_goals repeat' (first | apply And.intro | intro _)
 refine hK102 _ ?_
 refine sr_k fun K103 hK103 => ?_
 simp only [go_sem, Int.reduceTMod, Int.toNat_one, Int.mul_zero]
 all_goals repeat' (first | apply And.intro | intro _)
 refine hK103 _ ?_
 refine block_k fun B104 bn104 bx104 br104 bi104 => ?_
 refine rounds_k 5 ?_
 refine rnd_k fun N106 M106 hN106 hM106 => ?_
 refine sr_k fun K107 hK107 => ?_
 simp only [go_sem, Int.reduceTMod, Int.toNat_one, Int.mul_zero]
 all_goals repeat' (first | apply And.intro | intro _)
 refine hK107 _ ?_
 refine seq_k fun N108 M108 hN108 hM108 => ?_
 refine condT_k (by first | rfl | (simp [go_sem, Int.reduceTMod, Int.toNat_one, Int.mul_zero]; done)) ?_
 refine skip_k ?_
 refine hN108 _ ?_
 refine seq_k fun N109 M109 hN109 hM109 => ?_
 refine block_k fun B110 bn110 bx110 br110 bi110 => ?_
 refine sr_k fun K111 hK111 => ?_
 simp only [go_sem, Int.reduceTMod, Int.toNat_one, Int.mul_zero]
 all_goals repeat' (first | apply And.intro | intro _)
 refine hK111 _ ?_
 refine draw_k [14, 15, 16, 17, 18, 19, 20, 21, 22, 23, 24, 25, 26, 27, 28] [0, 0, 0, 0, 8, 0, 0, 96, 248, 504, 4, 2044, 4092, 1, 16383, 32767] [] mixed (by kernel_rfl) (by simp only [go_sem]) fun K112 hK112 => ?_
 simp only [go_sem, Int.reduceTMod, Int.toNat_one, Int.mul_zero]
 all_goals repeat' (first | apply And.intro | intro _)
 refine hK112 _ _ ?_ ?_
 · first | trivial | (simp only [go_sem]; done) | (simp only [go_sem]; simp; done) | (simp only [go_sem]; simp; simp only [go_sem])
 refine bn110 _ ?_
 refine hN109 _ ?_
 refine region_k fun K113 hK113 => ?_
 simp only [go_sem, Int.reduceTMod, Int.toNat_one, Int.mul_zero]
 all_goals repeat' (first | apply And.intro | intro _)
 refine hK113 _ ?_
 refine hN106 _ ?_
 refine rnd_forget [7, 12, 13, 14, 15, 16, 17, 18, 19, 20, 21, 22, 23, 24, 25, 26, 27, 28, 29] ?_
 simp only [go_sem, St.forget, fgt]
 refine rnd_k fun N114 M114 hN114 hM114 => ?_
 refine sr_k fun K115 hK115 => ?_
 simp only [go_sem, Int.reduceTMod, Int.toNat_one, Int.mul_zero]
 all_goals repeat' (first | apply And.intro | intro _)
 refine hK115 _ ?_
 refine seq_k fun N116 M116 hN116 hM116 => ?_
 refine condT_k (by first | rfl | (simp [go_sem, Int.reduceTMod, Int.toNat_one, Int.mul_zero]; done)) ?_
 refine skip_k ?_
 refine hN116 _ ?_
 refine seq_k fun N117 M117 hN117 hM117 => ?_
 refine block_k fun B118 bn118 bx118 br118 bi118 => ?_
 refine sr_k fun K119 hK119 => ?_
 simp only [go_sem, Int.reduceTMod, Int.toNat_one, Int.mul_zero]
 all_goals repeat' (first | apply And.intro | intro _)
 refine hK119 _ ?_
 refine draw_k [14, 15, 16, 17, 18, 19, 20, 21, 22, 23, 24, 25, 26, 27, 28] [0, 0, 0, 0, 8, 0, 0, 96, 248, 504, 4, 2044, 4092, 1, 16383, 32767] [] mixed (by kernel_rfl) (by simp only [go_sem]) fun K120 hK120 => ?_
 simp only [go_sem, Int.reduceTMod, Int.toNat_one, Int.mul_zero]
 all_goals repeat' (first | apply And.intro | intro _)
 refine hK120 _ _ ?_ ?_
 · first | trivial | (simp only [go_sem]; done) | (simp only [go_sem]; simp; done) | (simp only [go_sem]; simp; simp only [go_sem])
 refine bn118 _ ?_
 refine hN117 _ ?_
 refine region_k fun K121 hK121 => ?_
 simp only [go_sem, Int.reduceTMod, Int.toNat_one, Int.mul_zero]
 all_goals repeat' (first | apply And.intro | intro _)
 refine hK121 _ ?_
 refine hN114 _ ?_
 refine rnd_forget [7, 12, 13, 14, 15, 16, 17, 18, 19, 20, 21, 22, 23, 24, 25, 26, 27, 28, 29] ?_
 simp only [go_sem, St.forget, fgt]
 refine rnd_k fun N122 M122 hN122 hM122 => ?_
 refine sr_k fun K123 hK123 => ?_
 simp only [go_sem, Int.reduceTMod, Int.toNat_one, Int.mul_zero]
 all_goals repeat' (first | apply And.intro | intro _)
 refine hK123 _ ?_
 refine seq_k fun N124 M124 hN124 hM124 => ?_
 refine condT_k (by first | rfl | (simp [go_sem, Int.reduceTMod, Int.toNat_one, Int.mul_zero]; done)) ?_
 refine skip_k ?_
 refine hN124 _ ?_
 refine seq_k fun N125 M125 hN125 hM125 => ?_
 refine block_k fun B126 bn126 bx126 br126 bi126 => ?_
 refine sr_k fun K127 hK127 => ?_
 simp only [go_sem, Int.reduceTMod, Int.toNat_one, Int.mul_zero]
 all_goals repeat' (first | apply And.intro | intro _)
 refine hK127 _ ?_
 refine draw_k [14, 15, 16, 17, 18, 19, 20, 21, 22, 23, 24, 25, 26, 27, 28] [0, 0, 0, 0, 8, 0, 0, 96, 248, 504, 4, 2044, 4092, 1, 16383, 32767] [] mixed (by kernel_rfl) (by simp only [go_sem]) fun K128 hK128 => ?_
 simp only [go_sem, Int.reduceTMod, Int.toNat_one, Int.mul_zero]
 all_goals repeat' (first | apply And.intro | intro _)
 refine hK128 _ _ ?_ ?_
 · first | trivial | (simp only [go_sem]; done) | (simp only [go_sem]; simp; done) | (simp only [go_sem]; simp; simp only [go_sem])
 refine bn126 _ ?_
 refine hN125 _ ?_
 refine region_k fun K129 hK129 => ?_
 simp only [go_sem, Int.reduceTMod, Int.toNat_one, Int.mul_zero]
 all_goals repeat' (first | apply And.intro | intro _)
 refine hK129 _ ?_
 refine hN122 _ ?_
 refine rnd_forget [7, 12, 13, 14, 15, 16, 17, 18, 19, 20, 21, 22, 23, 24, 25, 26, 27, 28, 29] ?_
 simp only [go_sem, St.forget, fgt]
 refine rnd_k fun N130 M130 hN130 hM130 => ?_
 refine sr_k fun K131 hK131 => ?_
 simp only [go_sem, Int.reduceTMod, Int.toNat_one, Int.mul_zero]
 all_goals repeat' (first | apply And.intro | intro _)
 refine hK131 _ ?_
 refine seq_k fun N132 M132 hN132 hM132 => ?_
 refine condT_k (by first | rfl | (simp [go_sem, Int.reduceTMod, Int.toNat_one, Int.mul_zero]; done)) ?_
 refine skip_k ?_
 refine hN132 _ ?_
 refine seq_k fun N133 M133 hN133 hM133 => ?_
 refine block_k fun B134 bn134 bx134 br134 bi134 => ?_
 refine sr_k fun K135 hK135 => ?_
 simp only [go_sem, Int.reduceTMod, Int.toNat_one, Int.mul_zero]
 all_goals repeat' (first | apply And.intro | intro _)
 refine hK135 _ ?_
 refine draw_k [14, 15, 16, 17, 18, 19, 20, 21, 22, 23, 24, 25, 26, 27, 28] [0, 0, 0, 0, 8, 0, 0, 96, 248, 504, 4, 2044, 4092, 1, 16383, 32767] [] mixed (by kernel_rfl) (by simp only [go_sem]) fun K136 hK136 => ?_
 simp only [go_sem, Int.reduceTMod, Int.toNat_one, Int.mul_zero]
 all_goals repeat' (first | apply And.intro | intro _)
 refine hK136 _ _ ?_ ?_
 · first | trivial | (simp only [go_sem]; done) | (simp only [go_sem]; simp; done) | (simp only [go_sem]; simp; simp only [go_sem])
 refine bn134 _ ?_
 refine hN133 _ ?_
 refine region_k fun K137 hK137 => ?_
 simp only [go_sem, Int.reduceTMod, Int.toNat_one, Int.mul_zero]
 all_goals repeat' (first | apply And.intro | intro _)
 refine hK137 _ ?_
 refine hN130 _ ?_
 refine rnd_forget [7, 12, 13, 14, 15, 16, 17, 18, 19, 20, 21, 22, 23, 24, 25, 26, 27, 28, 29] ?_
 simp only [go_sem, St.forget, fgt]
 refine rnd_k fun N138 M138 hN138 hM138 => ?_
 refine sr_k fun K139 hK139 => ?_
 simp only [go_sem, Int.reduceTMod, Int.toNat_one, Int.mul_zero]
 all_goals repeat' (first | apply And.intro | intro _)
 refine hK139 _ ?_
 refine seq_k fun N140 M140 hN140 hM140 => ?_
 refine condF_k (by first | rfl | (simp [go_sem, Int.reduceTMod, Int.toNat_one, Int.mul_zero]; done)) ?_
 refine exit_k ?_
 refine hM140 _ _ ?_
 refine hM138 _ _ ?_
 refine bx104 _ ?_
 refine bn101 _ ?_
 refine hN100 _ ?_
 refine region_k fun K141 hK141 => ?_
 simp only [go_sem, Int.reduceTMod, Int.toNat_one, Int.mul_zero]
 all_goals repeat' (first | apply And.intro | intro _)
 refine hK141 _ ?_
 refine hN97 _ ?_
 refine rnd_forget [6, 7, 9, 10, 11, 12, 13, 14, 15, 16, 17, 18, 19, 20, 21, 22, 23, 24, 25, 26, 27, 28, 29, 30] ?_
 simp only [go_sem, St.forget, fgt]
 refine rnd_k fun N142 M142 hN142 hM142 => ?_
 refine sr_k fun K143 hK143 => ?_
 simp only [go_sem, Int.reduceTMod, Int.toNat_one, Int.mul_zero]
 all_goals repeat' (first | apply And.intro | intro _)
 refine hK143 _ ?_
 refine seq_k fun N144 M144 hN144 hM144 => ?_
 refine condT_k (by first | rfl | (simp [go_sem, Int.reduceTMod, Int.toNat_one, Int.mul_zero]; done)) ?_
 refine skip_k ?_
 refine hN144 _ ?_
 refine seq_k fun N145 M145 hN145 hM145 => ?_
 refine block_k fun B146 bn146 bx146 br146 bi146 => ?_
 refine sr_k fun K147 hK147 => ?_
 simp only [go_sem, Int.reduceTMod, Int.toNat_one, Int.mul_zero]
 all_goals repeat' (first | apply And.intro | intro _)
 refine hK147 _ ?_
 refine sr_k fun K148 hK148 => ?_
 simp only [go_sem, Int.reduceTMod, Int.toNat_one, Int.mul_zero]
 all_goals repeat' (first | apply And.intro | intro _)
 refine hK148 _ ?_
 refine block_k fun B149 bn149 bx149 br149 bi149 => ?_
 refine rounds_k 5 ?_
 refine rnd_k fun N151 M151 hN151 hM151 => ?_
 refine sr_k fun K152 hK152 => ?_
 simp only [go_sem, Int.reduceTMod, Int.toNat_one, Int.mul_zero]
 all_goals repeat' (first | apply And.intro | intro _)
 refine hK152 _ ?_
 refine seq_k fun N153 M153 hN153 hM153 => ?_
 refine condT_k (by first | rfl | (simp [go_sem, Int.reduceTMod, Int.toNat_one, Int.mul_zero]; done)) ?_
 refine skip_k ?_
 refine hN153 _ ?_
 refine seq_k fun N154 M154 hN154 hM154 => ?_
 refine block_k fun B155 bn155 bx155 br155 bi155 => ?_
 refine sr_k fun K156 hK156 => ?_
 simp only [go_sem, Int.reduceTMod, Int.toNat_one, Int.mul_zero]
 all_goals repeat' (first | apply And.intro | intro _)
 refine hK156 _ ?_
 refine draw_k [14, 15, 16, 17, 18, 19, 20, 21, 22, 23, 24, 25, 26, 27, 28] [0, 0, 0, 0, 8, 0, 0, 96, 248, 504, 4, 2044, 4092, 1, 16383, 32767] [] mixed (by kernel_rfl) (by simp only [go_sem]) fun K157 hK157 => ?_
 simp only [go_sem, Int.reduceTMod, Int.toNat_one, Int.mul_zero]
 all_goals repeat' (first | apply And.intro | intro _)
 refine hK157 _ _ ?_ ?_
 · first | trivial | (simp only [go_sem]; done) | (simp only [go_sem]; simp; done) | (simp only [go_sem]; simp; simp only [go_sem])
 refine bn155 _ ?_
 refine hN154 _ ?_
 refine region_k fun K158 hK158 => ?_
 simp only [go_sem, Int.reduceTMod, Int.toNat_one, Int.mul_zero]
 all_goals repeat' (first | apply And.intro | intro _)
 refine hK158 _ ?_
 refine hN151 _ ?_
 refine rnd_forget [7, 12, 13, 14, 15, 16, 17, 18, 19, 20, 21, 22, 23, 24, 25, 26, 27, 28, 29] ?_
 simp only [go_sem, St.forget, fgt]
 refine rnd_k fun N159 M159 hN159 hM159 => ?_
 refine sr_k fun K160 hK160 => ?_
 simp only [go_sem, Int.reduceTMod, Int.toNat_one, Int.mul_zero]
 all_goals repeat' (first | apply And.intro | intro _)
 refine hK160 _ ?_
 refine seq_k fun N161 M161 hN161 hM161 => ?_
 refine condT_k (by first | rfl | (simp [go_sem, Int.reduceTMod, Int.toNat_one, Int.mul_zero]; done)) ?_
 refine skip_k ?_
 refine hN161 _ ?_
 refine seq_k fun N162 M162 hN162 hM162 => ?_
 refine block_k fun B163 bn163 bx163 br163 bi163 => ?_
 refine sr_k fun K164 hK164 => ?_
 simp only [go_sem, Int.reduceTMod, Int.toNat_one, Int.mul_zero]
 all_goals repeat' (first | apply And.intro | intro _)
 refine hK164 _ ?_
 refine draw_k [14, 15, 16, 17, 18, 19, 20, 21, 22, 23, 24, 25, 26, 27, 28] [0, 0, 0, 0, 8, 0, 0, 96, 248, 504, 4, 2044, 4092, 1, 16383, 32767] [] mixed (by kernel_rfl) (by simp only [go_sem]) fun K165 hK165 => ?_
 simp only [go_sem, Int.reduceTMod, Int.toNat_one, Int.mul_zero]
 all_goals repeat' (first | apply And.intro | intro _)
 refine hK165 _ _ ?_ ?_
 · first | trivial | (simp only [go_sem]; done) | (simp only [go_sem]; simp; done) | (simp only [go_sem]; simp; simp only [go_sem])
 refine bn163 _ ?_
 refine hN162 _ ?_
 refine region_k fun K166 hK166 => ?_
 simp only [go_sem, Int.reduceTMod, Int.toNat_one, Int.mul_zero]
 all_goals repeat' (first | apply And.intro | intro _)
 refine hK166 _ ?_
 refine hN159 _ ?_
 refine rnd_forget [7, 12, 13, 14, 15, 16, 17, 18, 19, 20, 21, 22, 23, 24, 25, 26, 27, 28, 29] ?_
 simp only [go_sem, St.forget, fgt]
 refine rnd_k fun N167 M167 hN167 hM167 => ?_
 refine sr_k fun K168 hK168 => ?_
 simp only [go_sem, Int.reduceTMod, Int.toNat_one, Int.mul_zero]
 all_goals repeat' (first | apply And.intro | intro _)
 refine hK168 _ ?_
 refine seq_k fun N169 M169 hN169 hM169 => ?_
 refine condT_k (by first | rfl | (simp [go_sem, Int.reduceTMod, Int.toNat_one, Int.mul_zero]; done)) ?_
 refine skip_k ?_
 refine hN169 _ ?_
 refine seq_k fun N170 M170 hN170 hM170 => ?_
 refine block_k fun B171 bn171 bx171 br171 bi171 => ?_
 refine sr_k fun K172 hK172 => ?_
 simp only [go_sem, Int.reduceTMod, Int.toNat_one, Int.mul_zero]
 all_goals repeat' (first | apply And.intro | intro _)
 refine hK172 _ ?_
 refine draw_k [14, 15, 16, 17, 18, 19, 20, 21, 22, 23, 24, 25, 26, 27, 28] [0, 0, 0, 0, 8, 0, 0, 96, 248, 504, 4, 2044, 4092, 1, 16383, 32767] [] mixed (by kernel_rfl) (by simp only [go_sem]) fun K173 hK173 => ?_
 simp only [go_sem, Int.reduceTMod, Int.toNat_one, Int.mul_zero]
 all_goals repeat' (first | apply And.intro | intro _)
 refine hK173 _ _ ?_ ?_
 · first | trivial | (simp only [go_sem]; done) | (simp only [go_sem]; simp; done) | (simp only [go_sem]; simp; simp only [go_sem])
 refine bn171 _ ?_
 refine hN170 _ ?_
 refine region_k fun K174 hK174 => ?_
 simp only [go_sem, Int.reduceTMod, Int.toNat_one, Int.mul_zero]
 all_goals repeat' (first | apply And.intro | intro _)
 refine hK174 _ ?_
 refine hN167 _ ?_
 refine rnd_forget [7, 12, 13, 14, 15, 16, 17, 18, 19, 20, 21, 22, 23, 24, 25, 26, 27, 28, 29] ?_
 simp only [go_sem, St.forget, fgt]
 refine rnd_k fun N175 M175 hN175 hM175 => ?_
 refine sr_k fun K176 hK176 => ?_
 simp only [go_sem, Int.reduceTMod, Int.toNat_one, Int.mul_zero]
 all_goals repeat' (first | apply And.intro | intro _)
 refine hK176 _ ?_
 refine seq_k fun N177 M177 hN177 hM177 => ?_
 refine condT_k (by first | rfl | (simp [go_sem, Int.reduceTMod, Int.toNat_one, Int.mul_zero]; done)) ?_
 refine skip_k ?_
 refine hN177 _ ?_
 refine seq_k fun N178 M178 hN178 hM178 => ?_
 refine block_k fun B179 bn179 bx179 br179 bi179 => ?_
 refine sr_k fun K180 hK180 => ?_
 simp only [go_sem, Int.reduceTMod, Int.toNat_one, Int.mul_zero]
 all_goals repeat' (first | apply And.intro | intro _)
 refine hK180 _ ?_
 refine draw_k [14, 15, 16, 17, 18, 19, 20, 21, 22, 23, 24, 25, 26, 27, 28] [0, 0, 0, 0, 8, 0, 0, 96, 248, 504, 4, 2044, 4092, 1, 16383, 32767] [] mixed (by kernel_rfl) (by simp only [go_sem]) fun K181 hK181 => ?_
 simp only [go_sem, Int.reduceTMod, Int.toNat_one, Int.mul_zero]
 all_goals repeat' (first | apply And.intro | intro _)
 refine hK181 _ _ ?_ ?_
 · first | trivial | (simp only [go_sem]; done) | (simp only [go_sem]; simp; done) | (simp only [go_sem]; simp; simp only [go_sem])
 refine bn179 _ ?_
 refine hN178 _ ?_
 refine region_k fun K182 hK182 => ?_
 simp only [go_sem, Int.reduceTMod, Int.toNat_one, Int.mul_zero]
 all_goals repeat' (first | apply And.intro | intro _)
 refine hK182 _ ?_
 refine hN175 _ ?_
 refine rnd_forget [7, 12, 13, 14, 15, 16, 17, 18, 19, 20, 21, 22, 23, 24, 25, 26, 27, 28, 29] ?_
 simp only [go_sem, St.forget, fgt]
 refine rnd_k fun N183 M183 hN183 hM183 => ?_
 refine sr_k fun K184 hK184 => ?_
 simp only [go_sem, Int.reduceTMod, Int.toNat_one, Int.mul_zero]
 all_goals repeat' (first | apply And.intro | intro _)
 refine hK184 _ ?_
 refine seq_k fun N185 M185 hN185 hM185 => ?_
 refine condF_k (by first | rfl | (simp [go_sem, Int.reduceTMod, Int.toNat_one, Int.mul_zero]; done)) ?_
 refine exit_k ?_
 refine hM185 _ _ ?_
 refine hM183 _ _ ?_
 refine bx149 _ ?_
 refine bn146 _ ?_
 refine hN145 _ ?_
 refine region_k fun K186 hK186 => ?_
 simp only [go_sem, Int.reduceTMod, Int.toNat_one, Int.mul_zero]
 all_goals repeat' (first | apply And.intro | intro _)
 refine hK186 _ ?_
 refine hN142 _ ?_
 refine rnd_forget [6, 7, 9, 10, 11, 12, 13, 14, 15, 16, 17, 18, 19, 20, 21, 22, 23, 24, 25, 26, 27, 28, 29, 30] ?_
 simp only [go_sem, St.forget, fgt]
 refine rnd_k fun N187 M187 hN187 hM187 => ?_
 refine sr_k fun K188 hK188 => ?_
 simp only [go_sem, Int.reduceTMod, Int.toNat_one, Int.mul_zero]
 all_goals repeat' (first | apply And.intro | intro _)
 refine hK188 _ ?_
 refine seq_k fun N189 M189 hN189 hM189 => ?_
 refine condF_k (by first | rfl | (simp [go_sem, Int.reduceTMod, Int.toNat_one, Int.mul_zero]; done)) ?_
 refine exit_k ?_
 refine hM189 _ _ ?_
 refine hM187 _ _ ?_
 refine bx5 _ ?_
 refine hN3 _ ?_
 refine sr_k fun K190 hK190 => ?_
 simp only [go_sem, Int.reduceTMod, Int.toNat_one, Int.mul_zero]
 all_goals repeat' (first | apply And.intro | intro _)
 refine hK190 _ ?_
 refine ret_k ?_
 simp only [go_sem, Int.reduceTMod, Int.toNat_one, Int.mul_zero]
 all_goals (rfl)
theorem round_of (w : W16) : Ct Try.prog 50 [.w (.agg w.ls)] (fun v m => v = .w (.agg w.col.ls)) := round_ w.x0 w.x1 w.x2 w.x3 w.x4 w.x5 w.x6 w.x7 w.x8 w.x9 w.x10 w.x11 w.x12 w.x13 w.x14 w.x15
theorem shifted_of (w : W16) : Ct Try.prog 49 [.w (.agg w.ls), .w (.one (.pl (.i 1)))] (fun v m => v = .w (.agg w.sh.ls)) := shifted_1 w.x0 w.x1 w.x2 w.x3 w.x4 w.x5 w.x6 w.x7 w.x8 w.x9 w.x10 w.x11 w.x12 w.x13 w.x14 w.x15
theorem unshifted_of (w : W16) : Ct Try.prog 49 [.w (.agg w.ls), .w (.one (.pl (.i (-1))))] (fun v m => v = .w (.agg w.unsh.ls)) := shifted_m w.x0 w.x1 w.x2 w.x3 w.x4 w.x5 w.x6 w.x7 w.x8 w.x9 w.x10 w.x11 w.x12 w.x13 w.x14 w.x15
end Go.Sy
