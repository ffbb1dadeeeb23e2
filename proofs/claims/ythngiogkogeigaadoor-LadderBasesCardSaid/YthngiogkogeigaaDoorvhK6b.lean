/- Digits of words, words of digits: the walks. -/
import Derived.Test.YthngiogkogeigaaDoorvhK6
set_option linter.unusedVariables false
set_option linter.unusedSimpArgs false
namespace Go.Sy
open Go.Proofs
attribute [local irreducible] atCall HT runOps runD onC onE onO onG goV goA goS onSt onGuard
set_option maxHeartbeats 1600000 in
set_option maxRecDepth 100000 in
theorem of_ (a b c d : UInt64) :
 Ct Tryd.prog 18 [.w (.agg [.pl (.u64 a), .pl (.u64 b), .pl (.u64 c), .pl (.u64 d)])] (fun v m => v = .w (.agg (u64C (D16 (vQ a b c d))))) := by
 refine Ct.k Tryd.func18 rfl Tryd.ntmps18 (congrArg Array.toList Tryd.results18) (by simp) fun w0 ro => ?_
 refine sr_k fun K1 hK1 => ?_
 simp only [go_sem, Int.toNat_one, Int.reduceTMod, Int.reduceTDiv, Int.mul_zero]
 repeat' (first | apply And.intro | intro _)
 refine hK1 _ ?_
 refine sr_k fun K2 hK2 => ?_
 simp only [go_sem, Int.toNat_one, Int.reduceTMod, Int.reduceTDiv, Int.mul_zero]
 repeat' (first | apply And.intro | intro _)
 refine hK2 _ ?_
 refine seq_k fun N3 M3 hN3 hM3 => ?_
 refine sr_k fun K4 hK4 => ?_
 simp only [go_sem, Int.toNat_one, Int.reduceTMod, Int.reduceTDiv, Int.mul_zero]
 repeat' (first | apply And.intro | intro _)
 refine hK4 _ ?_
 refine block_k fun B5 bn5 bx5 br5 bi5 => ?_
 refine rounds_k 17 ?_
 refine rnd_k fun N7 M7 hN7 hM7 => ?_
 refine sr_k fun K8 hK8 => ?_
 simp only [go_sem, Int.toNat_one, Int.reduceTMod, Int.reduceTDiv, Int.mul_zero]
 repeat' (first | apply And.intro | intro _)
 refine hK8 _ ?_
 refine seq_k fun N9 M9 hN9 hM9 => ?_
 refine condT_k (by first | rfl | (simp [go_sem, Int.toNat_one, Int.reduceTMod, Int.reduceTDiv, Int.mul_zero]; done)) ?_
 refine skip_k ?_
 refine hN9 _ ?_
 refine seq_k fun N10 M10 hN10 hM10 => ?_
 refine block_k fun B11 bn11 bx11 br11 bi11 => ?_
 refine sr_k fun K12 hK12 => ?_
 simp only [go_sem, Int.toNat_one, Int.reduceTMod, Int.reduceTDiv, Int.mul_zero]
 repeat' (first | apply And.intro | intro _)
 refine hK12 _ ?_
 refine region_k fun K13 hK13 => ?_
 simp only [go_sem, Int.toNat_one, Int.reduceTMod, Int.reduceTDiv, Int.mul_zero]
 repeat' (first | apply And.intro | intro _)
 refine hK13 _ ?_
 refine bn11 _ ?_
 refine hN10 _ ?_
 refine region_k fun K14 hK14 => ?_
 simp only [go_sem, Int.toNat_one, Int.reduceTMod, Int.reduceTDiv, Int.mul_zero]
 repeat' (first | apply And.intro | intro _)
 refine hK14 _ ?_
 refine hN7 _ ?_
 refine rnd_forget [4, 6, 7, 8, 9, 10, 11, 12, 13, 14, 15, 16, 17, 18, 19] ?_
 simp only [go_sem, St.forget, fgt]
 refine rnd_k fun N15 M15 hN15 hM15 => ?_
 refine sr_k fun K16 hK16 => ?_
 simp only [go_sem, Int.toNat_one, Int.reduceTMod, Int.reduceTDiv, Int.mul_zero]
 repeat' (first | apply And.intro | intro _)
 refine hK16 _ ?_
 refine seq_k fun N17 M17 hN17 hM17 => ?_
 refine condT_k (by first | rfl | (simp [go_sem, Int.toNat_one, Int.reduceTMod, Int.reduceTDiv, Int.mul_zero]; done)) ?_
 refine skip_k ?_
 refine hN17 _ ?_
 refine seq_k fun N18 M18 hN18 hM18 => ?_
 refine block_k fun B19 bn19 bx19 br19 bi19 => ?_
 refine sr_k fun K20 hK20 => ?_
 simp only [go_sem, Int.toNat_one, Int.reduceTMod, Int.reduceTDiv, Int.mul_zero]
 repeat' (first | apply And.intro | intro _)
 refine hK20 _ ?_
 refine region_k fun K21 hK21 => ?_
 simp only [go_sem, Int.toNat_one, Int.reduceTMod, Int.reduceTDiv, Int.mul_zero]
 repeat' (first | apply And.intro | intro _)
 refine hK21 _ ?_
 refine bn19 _ ?_
 refine hN18 _ ?_
 refine region_k fun K22 hK22 => ?_
 simp only [go_sem, Int.toNat_one, Int.reduceTMod, Int.reduceTDiv, Int.mul_zero]
 repeat' (first | apply And.intro | intro _)
 refine hK22 _ ?_
 refine hN15 _ ?_
 refine rnd_forget [4, 6, 7, 8, 9, 10, 11, 12, 13, 14, 15, 16, 17, 18, 19] ?_
 simp only [go_sem, St.forget, fgt]
 refine rnd_k fun N23 M23 hN23 hM23 => ?_
 refine sr_k fun K24 hK24 => ?_
 simp only [go_sem, Int.toNat_one, Int.reduceTMod, Int.reduceTDiv, Int.mul_zero]
 repeat' (first | apply And.intro | intro _)
 refine hK24 _ ?_
 refine seq_k fun N25 M25 hN25 hM25 => ?_
 refine condT_k (by first | rfl | (simp [go_sem, Int.toNat_one, Int.reduceTMod, Int.reduceTDiv, Int.mul_zero]; done)) ?_
 refine skip_k ?_
 refine hN25 _ ?_
 refine seq_k fun N26 M26 hN26 hM26 => ?_
 refine block_k fun B27 bn27 bx27 br27 bi27 => ?_
 refine sr_k fun K28 hK28 => ?_
 simp only [go_sem, Int.toNat_one, Int.reduceTMod, Int.reduceTDiv, Int.mul_zero]
 repeat' (first | apply And.intro | intro _)
 refine hK28 _ ?_
 refine region_k fun K29 hK29 => ?_
 simp only [go_sem, Int.toNat_one, Int.reduceTMod, Int.reduceTDiv, Int.mul_zero]
 repeat' (first | apply And.intro | intro _)
 refine hK29 _ ?_
 refine bn27 _ ?_
 refine hN26 _ ?_
 refine region_k fun K30 hK30 => ?_
 simp only [go_sem, Int.toNat_one, Int.reduceTMod, Int.reduceTDiv, Int.mul_zero]
 repeat' (first | apply And.intro | intro _)
 refine hK30 _ ?_
 refine hN23 _ ?_
 refine rnd_forget [4, 6, 7, 8, 9, 10, 11, 12, 13, 14, 15, 16, 17, 18, 19] ?_
 simp only [go_sem, St.forget, fgt]
 refine rnd_k fun N31 M31 hN31 hM31 => ?_
 refine sr_k fun K32 hK32 => ?_
 simp only [go_sem, Int.toNat_one, Int.reduceTMod, Int.reduceTDiv, Int.mul_zero]
 repeat' (first | apply And.intro | intro _)
 refine hK32 _ ?_
 refine seq_k fun N33 M33 hN33 hM33 => ?_
 refine condT_k (by first | rfl | (simp [go_sem, Int.toNat_one, Int.reduceTMod, Int.reduceTDiv, Int.mul_zero]; done)) ?_
 refine skip_k ?_
 refine hN33 _ ?_
 refine seq_k fun N34 M34 hN34 hM34 => ?_
 refine block_k fun B35 bn35 bx35 br35 bi35 => ?_
 refine sr_k fun K36 hK36 => ?_
 simp only [go_sem, Int.toNat_one, Int.reduceTMod, Int.reduceTDiv, Int.mul_zero]
 repeat' (first | apply And.intro | intro _)
 refine hK36 _ ?_
 refine region_k fun K37 hK37 => ?_
 simp only [go_sem, Int.toNat_one, Int.reduceTMod, Int.reduceTDiv, Int.mul_zero]
 repeat' (first | apply And.intro | intro _)
 refine hK37 _ ?_
 refine bn35 _ ?_
 refine hN34 _ ?_
 refine region_k fun K38 hK38 => ?_
 simp only [go_sem, Int.toNat_one, Int.reduceTMod, Int.reduceTDiv, Int.mul_zero]
 repeat' (first | apply And.intro | intro _)
 refine hK38 _ ?_
 refine hN31 _ ?_
 refine rnd_forget [4, 6, 7, 8, 9, 10, 11, 12, 13, 14, 15, 16, 17, 18, 19] ?_
 simp only [go_sem, St.forget, fgt]
 refine rnd_k fun N39 M39 hN39 hM39 => ?_
 refine sr_k fun K40 hK40 => ?_
 simp only [go_sem, Int.toNat_one, Int.reduceTMod, Int.reduceTDiv, Int.mul_zero]
 repeat' (first | apply And.intro | intro _)
 refine hK40 _ ?_
 refine seq_k fun N41 M41 hN41 hM41 => ?_
 refine condT_k (by first | rfl | (simp [go_sem, Int.toNat_one, Int.reduceTMod, Int.reduceTDiv, Int.mul_zero]; done)) ?_
 refine skip_k ?_
 refine hN41 _ ?_
 refine seq_k fun N42 M42 hN42 hM42 => ?_
 refine block_k fun B43 bn43 bx43 br43 bi43 => ?_
 refine sr_k fun K44 hK44 => ?_
 simp only [go_sem, Int.toNat_one, Int.reduceTMod, Int.reduceTDiv, Int.mul_zero]
 repeat' (first | apply And.intro | intro _)
 refine hK44 _ ?_
 refine region_k fun K45 hK45 => ?_
 simp only [go_sem, Int.toNat_one, Int.reduceTMod, Int.reduceTDiv, Int.mul_zero]
 repeat' (first | apply And.intro | intro _)
 refine hK45 _ ?_
 refine bn43 _ ?_
 refine hN42 _ ?_
 refine region_k fun K46 hK46 => ?_
 simp only [go_sem, Int.toNat_one, Int.reduceTMod, Int.reduceTDiv, Int.mul_zero]
 repeat' (first | apply And.intro | intro _)
 refine hK46 _ ?_
 refine hN39 _ ?_
 refine rnd_forget [4, 6, 7, 8, 9, 10, 11, 12, 13, 14, 15, 16, 17, 18, 19] ?_
 simp only [go_sem, St.forget, fgt]
 refine rnd_k fun N47 M47 hN47 hM47 => ?_
 refine sr_k fun K48 hK48 => ?_
 simp only [go_sem, Int.toNat_one, Int.reduceTMod, Int.reduceTDiv, Int.mul_zero]
 repeat' (first | apply And.intro | intro _)
 refine hK48 _ ?_
 refine seq_k fun N49 M49 hN49 hM49 => ?_
 refine condT_k (by first | rfl | (simp [go_sem, Int.toNat_one, Int.reduceTMod, Int.reduceTDiv, Int.mul_zero]; done)) ?_
 refine skip_k ?_
 refine hN49 _ ?_
 refine seq_k fun N50 M50 hN50 hM50 => ?_
 refine block_k fun B51 bn51 bx51 br51 bi51 => ?_
 refine sr_k fun K52 hK52 => ?_
 simp only [go_sem, Int.toNat_one, Int.reduceTMod, Int.reduceTDiv, Int.mul_zero]
 repeat' (first | apply And.intro | intro _)
 refine hK52 _ ?_
 refine region_k fun K53 hK53 => ?_
 simp only [go_sem, Int.toNat_one, Int.reduceTMod, Int.reduceTDiv, Int.mul_zero]
 repeat' (first | apply And.intro | intro _)
 refine hK53 _ ?_
 refine bn51 _ ?_
 refine hN50 _ ?_
 refine region_k fun K54 hK54 => ?_
 simp only [go_sem, Int.toNat_one, Int.reduceTMod, Int.reduceTDiv, Int.mul_zero]
 repeat' (first | apply And.intro | intro _)
 refine hK54 _ ?_
 refine hN47 _ ?_
 refine rnd_forget [4, 6, 7, 8, 9, 10, 11, 12, 13, 14, 15, 16, 17, 18, 19] ?_
 simp only [go_sem, St.forget, fgt]
 refine rnd_k fun N55 M55 hN55 hM55 => ?_
 refine sr_k fun K56 hK56 => ?_
 simp only [go_sem, Int.toNat_one, Int.reduceTMod, Int.reduceTDiv, Int.mul_zero]
 repeat' (first | apply And.intro | intro _)
 refine hK56 _ ?_
 refine seq_k fun N57 M57 hN57 hM57 => ?_
 refine condT_k (by first | rfl | (simp [go_sem, Int.toNat_one, Int.reduceTMod, Int.reduceTDiv, Int.mul_zero]; done)) ?_
 refine skip_k ?_
 refine hN57 _ ?_
 refine seq_k fun N58 M58 hN58 hM58 => ?_
 refine block_k fun B59 bn59 bx59 br59 bi59 => ?_
 refine sr_k fun K60 hK60 => ?_
 simp only [go_sem, Int.toNat_one, Int.reduceTMod, Int.reduceTDiv, Int.mul_zero]
 repeat' (first | apply And.intro | intro _)
 refine hK60 _ ?_
 refine region_k fun K61 hK61 => ?_
 simp only [go_sem, Int.toNat_one, Int.reduceTMod, Int.reduceTDiv, Int.mul_zero]
 repeat' (first | apply And.intro | intro _)
 refine hK61 _ ?_
 refine bn59 _ ?_
 refine hN58 _ ?_
 refine region_k fun K62 hK62 => ?_
 simp only [go_sem, Int.toNat_one, Int.reduceTMod, Int.reduceTDiv, Int.mul_zero]
 repeat' (first | apply And.intro | intro _)
 refine hK62 _ ?_
 refine hN55 _ ?_
 refine rnd_forget [4, 6, 7, 8, 9, 10, 11, 12, 13, 14, 15, 16, 17, 18, 19] ?_
 simp only [go_sem, St.forget, fgt]
 refine rnd_k fun N63 M63 hN63 hM63 => ?_
 refine sr_k fun K64 hK64 => ?_
 simp only [go_sem, Int.toNat_one, Int.reduceTMod, Int.reduceTDiv, Int.mul_zero]
 repeat' (first | apply And.intro | intro _)
 refine hK64 _ ?_
 refine seq_k fun N65 M65 hN65 hM65 => ?_
 refine condT_k (by first | rfl | (simp [go_sem, Int.toNat_one, Int.reduceTMod, Int.reduceTDiv, Int.mul_zero]; done)) ?_
 refine skip_k ?_
 refine hN65 _ ?_
 refine seq_k fun N66 M66 hN66 hM66 => ?_
 refine block_k fun B67 bn67 bx67 br67 bi67 => ?_
 refine sr_k fun K68 hK68 => ?_
 simp only [go_sem, Int.toNat_one, Int.reduceTMod, Int.reduceTDiv, Int.mul_zero]
 repeat' (first | apply And.intro | intro _)
 refine hK68 _ ?_
 refine region_k fun K69 hK69 => ?_
 simp only [go_sem, Int.toNat_one, Int.reduceTMod, Int.reduceTDiv, Int.mul_zero]
 repeat' (first | apply And.intro | intro _)
 refine hK69 _ ?_
 refine bn67 _ ?_
 refine hN66 _ ?_
 refine region_k fun K70 hK70 => ?_
 simp only [go_sem, Int.toNat_one, Int.reduceTMod, Int.reduceTDiv, Int.mul_zero]
 repeat' (first | apply And.intro | intro _)
 refine hK70 _ ?_
 refine hN63 _ ?_
 refine rnd_forget [4, 6, 7, 8, 9, 10, 11, 12, 13, 14, 15, 16, 17, 18, 19] ?_
 simp only [go_sem, St.forget, fgt]
 refine rnd_k fun N71 M71 hN71 hM71 => ?_
 refine sr_k fun K72 hK72 => ?_
 simp only [go_sem, Int.toNat_one, Int.reduceTMod, Int.reduceTDiv, Int.mul_zero]
 repeat' (first | apply And.intro | intro _)
 refine hK72 _ ?_
 refine seq_k fun N73 M73 hN73 hM73 => ?_
 refine condT_k (by first | rfl | (simp [go_sem, Int.toNat_one, Int.reduceTMod, Int.reduceTDiv, Int.mul_zero]; done)) ?_
 refine skip_k ?_
 refine hN73 _ ?_
 refine seq_k fun N74 M74 hN74 hM74 => ?_
 refine block_k fun B75 bn75 bx75 br75 bi75 => ?_
 refine sr_k fun K76 hK76 => ?_
 simp only [go_sem, Int.toNat_one, Int.reduceTMod, Int.reduceTDiv, Int.mul_zero]
 repeat' (first | apply And.intro | intro _)
 refine hK76 _ ?_
 refine region_k fun K77 hK77 => ?_
 simp only [go_sem, Int.toNat_one, Int.reduceTMod, Int.reduceTDiv, Int.mul_zero]
 repeat' (first | apply And.intro | intro _)
 refine hK77 _ ?_
 refine bn75 _ ?_
 refine hN74 _ ?_
 refine region_k fun K78 hK78 => ?_
 simp only [go_sem, Int.toNat_one, Int.reduceTMod, Int.reduceTDiv, Int.mul_zero]
 repeat' (first | apply And.intro | intro _)
 refine hK78 _ ?_
 refine hN71 _ ?_
 refine rnd_forget [4, 6, 7, 8, 9, 10, 11, 12, 13, 14, 15, 16, 17, 18, 19] ?_
 simp only [go_sem, St.forget, fgt]
 refine rnd_k fun N79 M79 hN79 hM79 => ?_
 refine sr_k fun K80 hK80 => ?_
 simp only [go_sem, Int.toNat_one, Int.reduceTMod, Int.reduceTDiv, Int.mul_zero]
 repeat' (first | apply And.intro | intro _)
 refine hK80 _ ?_
 refine seq_k fun N81 M81 hN81 hM81 => ?_
 refine condT_k (by first | rfl | (simp [go_sem, Int.toNat_one, Int.reduceTMod, Int.reduceTDiv, Int.mul_zero]; done)) ?_
 refine skip_k ?_
 refine hN81 _ ?_
 refine seq_k fun N82 M82 hN82 hM82 => ?_
 refine block_k fun B83 bn83 bx83 br83 bi83 => ?_
 refine sr_k fun K84 hK84 => ?_
 simp only [go_sem, Int.toNat_one, Int.reduceTMod, Int.reduceTDiv, Int.mul_zero]
 repeat' (first | apply And.intro | intro _)
 refine hK84 _ ?_
 refine region_k fun K85 hK85 => ?_
 simp only [go_sem, Int.toNat_one, Int.reduceTMod, Int.reduceTDiv, Int.mul_zero]
 repeat' (first | apply And.intro | intro _)
 refine hK85 _ ?_
 refine bn83 _ ?_
 refine hN82 _ ?_
 refine region_k fun K86 hK86 => ?_
 simp only [go_sem, Int.toNat_one, Int.reduceTMod, Int.reduceTDiv, Int.mul_zero]
 repeat' (first | apply And.intro | intro _)
 refine hK86 _ ?_
 refine hN79 _ ?_
 refine rnd_forget [4, 6, 7, 8, 9, 10, 11, 12, 13, 14, 15, 16, 17, 18, 19] ?_
 simp only [go_sem, St.forget, fgt]
 refine rnd_k fun N87 M87 hN87 hM87 => ?_
 refine sr_k fun K88 hK88 => ?_
 simp only [go_sem, Int.toNat_one, Int.reduceTMod, Int.reduceTDiv, Int.mul_zero]
 repeat' (first | apply And.intro | intro _)
 refine hK88 _ ?_
 refine seq_k fun N89 M89 hN89 hM89 => ?_
 refine condT_k (by first | rfl | (simp [go_sem, Int.toNat_one, Int.reduceTMod, Int.reduceTDiv, Int.mul_zero]; done)) ?_
 refine skip_k ?_
 refine hN89 _ ?_
 refine seq_k fun N90 M90 hN90 hM90 => ?_
 refine block_k fun B91 bn91 bx91 br91 bi91 => ?_
 refine sr_k fun K92 hK92 => ?_
 simp only [go_sem, Int.toNat_one, Int.reduceTMod, Int.reduceTDiv, Int.mul_zero]
 repeat' (first | apply And.intro | intro _)
 refine hK92 _ ?_
 refine region_k fun K93 hK93 => ?_
 simp only [go_sem, Int.toNat_one, Int.reduceTMod, Int.reduceTDiv, Int.mul_zero]
 repeat' (first | apply And.intro | intro _)
 refine hK93 _ ?_
 refine bn91 _ ?_
 refine hN90 _ ?_
 refine region_k fun K94 hK94 => ?_
 simp only [go_sem, Int.toNat_one, Int.reduceTMod, Int.reduceTDiv, Int.mul_zero]
 repeat' (first | apply And.intro | intro _)
 refine hK94 _ ?_
 refine hN87 _ ?_
 refine rnd_forget [4, 6, 7, 8, 9, 10, 11, 12, 13, 14, 15, 16, 17, 18, 19] ?_
 simp only [go_sem, St.forget, fgt]
 refine rnd_k fun N95 M95 hN95 hM95 => ?_
 refine sr_k fun K96 hK96 => ?_
 simp only [go_sem, Int.toNat_one, Int.reduceTMod, Int.reduceTDiv, Int.mul_zero]
 repeat' (first | apply And.intro | intro _)
 refine hK96 _ ?_
 refine seq_k fun N97 M97 hN97 hM97 => ?_
 refine condT_k (by first | rfl | (simp [go_sem, Int.toNat_one, Int.reduceTMod, Int.reduceTDiv, Int.mul_zero]; done)) ?_
 refine skip_k ?_
 refine hN97 _ ?_
 refine seq_k fun N98 M98 hN98 hM98 => ?_
 refine block_k fun B99 bn99 bx99 br99 bi99 => ?_
 refine sr_k fun K100 hK100 => ?_
 simp only [go_sem, Int.toNat_one, Int.reduceTMod, Int.reduceTDiv, Int.mul_zero]
 repeat' (first | apply And.intro | intro _)
 refine hK100 _ ?_
 refine region_k fun K101 hK101 => ?_
 simp only [go_sem, Int.toNat_one, Int.reduceTMod, Int.reduceTDiv, Int.mul_zero]
 repeat' (first | apply And.intro | intro _)
 refine hK101 _ ?_
 refine bn99 _ ?_
 refine hN98 _ ?_
 refine region_k fun K102 hK102 => ?_
 simp only [go_sem, Int.toNat_one, Int.reduceTMod, Int.reduceTDiv, Int.mul_zero]
 repeat' (first | apply And.intro | intro _)
 refine hK102 _ ?_
 refine hN95 _ ?_
 refine rnd_forget [4, 6, 7, 8, 9, 10, 11, 12, 13, 14, 15, 16, 17, 18, 19] ?_
 simp only [go_sem, St.forget, fgt]
 refine rnd_k fun N103 M103 hN103 hM103 => ?_
 refine sr_k fun K104 hK104 => ?_
 simp only [go_sem, Int.toNat_one, Int.reduceTMod, Int.reduceTDiv, Int.mul_zero]
 repeat' (first | apply And.intro | intro _)
 refine hK104 _ ?_
 refine seq_k fun N105 M105 hN105 hM105 => ?_
 refine condT_k (by first | rfl | (simp [go_sem, Int.toNat_one, Int.reduceTMod, Int.reduceTDiv, Int.mul_zero]; done)) ?_
 refine skip_k ?_
 refine hN105 _ ?_
 refine seq_k fun N106 M106 hN106 hM106 => ?_
 refine block_k fun B107 bn107 bx107 br107 bi107 => ?_
 refine sr_k fun K108 hK108 => ?_
 simp only [go_sem, Int.toNat_one, Int.reduceTMod, Int.reduceTDiv, Int.mul_zero]
 repeat' (first | apply And.intro | intro _)
 refine hK108 _ ?_
 refine region_k fun K109 hK109 => ?_
 simp only [go_sem, Int.toNat_one, Int.reduceTMod, Int.reduceTDiv, Int.mul_zero]
 repeat' (first | apply And.intro | intro _)
 refine hK109 _ ?_
 refine bn107 _ ?_
 refine hN106 _ ?_
 refine region_k fun K110 hK110 => ?_
 simp only [go_sem, Int.toNat_one, Int.reduceTMod, Int.reduceTDiv, Int.mul_zero]
 repeat' (first | apply And.intro | intro _)
 refine hK110 _ ?_
 refine hN103 _ ?_
 refine rnd_forget [4, 6, 7, 8, 9, 10, 11, 12, 13, 14, 15, 16, 17, 18, 19] ?_
 simp only [go_sem, St.forget, fgt]
 refine rnd_k fun N111 M111 hN111 hM111 => ?_
 refine sr_k fun K112 hK112 => ?_
 simp only [go_sem, Int.toNat_one, Int.reduceTMod, Int.reduceTDiv, Int.mul_zero]
 repeat' (first | apply And.intro | intro _)
 refine hK112 _ ?_
 refine seq_k fun N113 M113 hN113 hM113 => ?_
 refine condT_k (by first | rfl | (simp [go_sem, Int.toNat_one, Int.reduceTMod, Int.reduceTDiv, Int.mul_zero]; done)) ?_
 refine skip_k ?_
 refine hN113 _ ?_
 refine seq_k fun N114 M114 hN114 hM114 => ?_
 refine block_k fun B115 bn115 bx115 br115 bi115 => ?_
 refine sr_k fun K116 hK116 => ?_
 simp only [go_sem, Int.toNat_one, Int.reduceTMod, Int.reduceTDiv, Int.mul_zero]
 repeat' (first | apply And.intro | intro _)
 refine hK116 _ ?_
 refine region_k fun K117 hK117 => ?_
 simp only [go_sem, Int.toNat_one, Int.reduceTMod, Int.reduceTDiv, Int.mul_zero]
 repeat' (first | apply And.intro | intro _)
 refine hK117 _ ?_
 refine bn115 _ ?_
 refine hN114 _ ?_
 refine region_k fun K118 hK118 => ?_
 simp only [go_sem, Int.toNat_one, Int.reduceTMod, Int.reduceTDiv, Int.mul_zero]
 repeat' (first | apply And.intro | intro _)
 refine hK118 _ ?_
 refine hN111 _ ?_
 refine rnd_forget [4, 6, 7, 8, 9, 10, 11, 12, 13, 14, 15, 16, 17, 18, 19] ?_
 simp only [go_sem, St.forget, fgt]
 refine rnd_k fun N119 M119 hN119 hM119 => ?_
 refine sr_k fun K120 hK120 => ?_
 simp only [go_sem, Int.toNat_one, Int.reduceTMod, Int.reduceTDiv, Int.mul_zero]
 repeat' (first | apply And.intro | intro _)
 refine hK120 _ ?_
 refine seq_k fun N121 M121 hN121 hM121 => ?_
 refine condT_k (by first | rfl | (simp [go_sem, Int.toNat_one, Int.reduceTMod, Int.reduceTDiv, Int.mul_zero]; done)) ?_
 refine skip_k ?_
 refine hN121 _ ?_
 refine seq_k fun N122 M122 hN122 hM122 => ?_
 refine block_k fun B123 bn123 bx123 br123 bi123 => ?_
 refine sr_k fun K124 hK124 => ?_
 simp only [go_sem, Int.toNat_one, Int.reduceTMod, Int.reduceTDiv, Int.mul_zero]
 repeat' (first | apply And.intro | intro _)
 refine hK124 _ ?_
 refine region_k fun K125 hK125 => ?_
 simp only [go_sem, Int.toNat_one, Int.reduceTMod, Int.reduceTDiv, Int.mul_zero]
 repeat' (first | apply And.intro | intro _)
 refine hK125 _ ?_
 refine bn123 _ ?_
 refine hN122 _ ?_
 refine region_k fun K126 hK126 => ?_
 simp only [go_sem, Int.toNat_one, Int.reduceTMod, Int.reduceTDiv, Int.mul_zero]
 repeat' (first | apply And.intro | intro _)
 refine hK126 _ ?_
 refine hN119 _ ?_
 refine rnd_forget [4, 6, 7, 8, 9, 10, 11, 12, 13, 14, 15, 16, 17, 18, 19] ?_
 simp only [go_sem, St.forget, fgt]
 refine rnd_k fun N127 M127 hN127 hM127 => ?_
 refine sr_k fun K128 hK128 => ?_
 simp only [go_sem, Int.toNat_one, Int.reduceTMod, Int.reduceTDiv, Int.mul_zero]
 repeat' (first | apply And.intro | intro _)
 refine hK128 _ ?_
 refine seq_k fun N129 M129 hN129 hM129 => ?_
 refine condT_k (by first | rfl | (simp [go_sem, Int.toNat_one, Int.reduceTMod, Int.reduceTDiv, Int.mul_zero]; done)) ?_
 refine skip_k ?_
 refine hN129 _ ?_
 refine seq_k fun N130 M130 hN130 hM130 => ?_
 refine block_k fun B131 bn131 bx131 br131 bi131 => ?_
 refine sr_k fun K132 hK132 => ?_
 simp only [go_sem, Int.toNat_one, Int.reduceTMod, Int.reduceTDiv, Int.mul_zero]
 repeat' (first | apply And.intro | intro _)
 refine hK132 _ ?_
 refine region_k fun K133 hK133 => ?_
 simp only [go_sem, Int.toNat_one, Int.reduceTMod, Int.reduceTDiv, Int.mul_zero]
 repeat' (first | apply And.intro | intro _)
 refine hK133 _ ?_
 refine bn131 _ ?_
 refine hN130 _ ?_
 refine region_k fun K134 hK134 => ?_
 simp only [go_sem, Int.toNat_one, Int.reduceTMod, Int.reduceTDiv, Int.mul_zero]
 repeat' (first | apply And.intro | intro _)
 refine hK134 _ ?_
 refine hN127 _ ?_
 refine rnd_forget [4, 6, 7, 8, 9, 10, 11, 12, 13, 14, 15, 16, 17, 18, 19] ?_
 simp only [go_sem, St.forget, fgt]
 refine rnd_k fun N135 M135 hN135 hM135 => ?_
 refine sr_k fun K136 hK136 => ?_
 simp only [go_sem, Int.toNat_one, Int.reduceTMod, Int.reduceTDiv, Int.mul_zero]
 repeat' (first | apply And.intro | intro _)
 refine hK136 _ ?_
 refine seq_k fun N137 M137 hN137 hM137 => ?_
 refine condF_k (by first | rfl | (simp [go_sem, Int.toNat_one, Int.reduceTMod, Int.reduceTDiv, Int.mul_zero]; done)) ?_
 refine exit_k ?_
 refine hM137 _ _ ?_
 refine hM135 _ _ ?_
 refine bx5 _ ?_
 refine hN3 _ ?_
 refine sr_k fun K138 hK138 => ?_
 simp only [go_sem, Int.toNat_one, Int.reduceTMod, Int.reduceTDiv, Int.mul_zero]
 repeat' (first | apply And.intro | intro _)
 refine hK138 _ ?_
 refine ret_k ?_
 simp only [go_sem, Int.toNat_one, Int.reduceTMod, Int.reduceTDiv, Int.mul_zero]
 all_goals (rw [← digs_of]; rfl)
set_option maxHeartbeats 1600000 in
set_option maxRecDepth 100000 in
theorem back_x (x0 x1 x2 x3 x4 x5 x6 x7 x8 x9 xa xb xc xd xe xf : UInt64) :
 Ct Tryd.prog 21 [.w (.agg [.pl (.u64 x0), .pl (.u64 x1), .pl (.u64 x2), .pl (.u64 x3), .pl (.u64 x4), .pl (.u64 x5), .pl (.u64 x6), .pl (.u64 x7), .pl (.u64 x8), .pl (.u64 x9), .pl (.u64 xa), .pl (.u64 xb), .pl (.u64 xc), .pl (.u64 xd), .pl (.u64 xe), .pl (.u64 xf)])] (fun v m => v = .w (.agg [.pl (.u64 (wrd x0 x1 x2 x3)), .pl (.u64 (wrd x4 x5 x6 x7)), .pl (.u64 (wrd x8 x9 xa xb)), .pl (.u64 (wrd xc xd xe xf))])) := by
 refine Ct.k Tryd.func21 rfl Tryd.ntmps21 (congrArg Array.toList Tryd.results21) (by simp) fun w0 ro => ?_
 refine sr_k fun K1 hK1 => ?_
 simp only [go_sem, Int.toNat_one, Int.reduceTMod, Int.reduceTDiv, Int.mul_zero]
 repeat' (first | apply And.intro | intro _)
 refine hK1 _ ?_
 refine sr_k fun K2 hK2 => ?_
 simp only [go_sem, Int.toNat_one, Int.reduceTMod, Int.reduceTDiv, Int.mul_zero]
 repeat' (first | apply And.intro | intro _)
 refine hK2 _ ?_
 refine seq_k fun N3 M3 hN3 hM3 => ?_
 refine sr_k fun K4 hK4 => ?_
 simp only [go_sem, Int.toNat_one, Int.reduceTMod, Int.reduceTDiv, Int.mul_zero]
 repeat' (first | apply And.intro | intro _)
 refine hK4 _ ?_
 refine block_k fun B5 bn5 bx5 br5 bi5 => ?_
 refine rounds_k 17 ?_
 refine rnd_k fun N7 M7 hN7 hM7 => ?_
 refine sr_k fun K8 hK8 => ?_
 simp only [go_sem, Int.toNat_one, Int.reduceTMod, Int.reduceTDiv, Int.mul_zero]
 repeat' (first | apply And.intro | intro _)
 refine hK8 _ ?_
 refine seq_k fun N9 M9 hN9 hM9 => ?_
 refine condT_k (by first | rfl | (simp [go_sem, Int.toNat_one, Int.reduceTMod, Int.reduceTDiv, Int.mul_zero]; done)) ?_
 refine skip_k ?_
 refine hN9 _ ?_
 refine seq_k fun N10 M10 hN10 hM10 => ?_
 refine block_k fun B11 bn11 bx11 br11 bi11 => ?_
 refine sr_k fun K12 hK12 => ?_
 simp only [go_sem, Int.toNat_one, Int.reduceTMod, Int.reduceTDiv, Int.mul_zero]
 repeat' (first | apply And.intro | intro _)
 refine hK12 _ ?_
 refine draw_k [11, 12, 13, 14, 15, 16, 17, 18, 19, 20, 21] [0, 1, 3, 7, 0, 0, 32, 96, 240, 511, 1023, 2047] [] mixed (by kernel_rfl) (by simp only [go_sem]) fun K13 hK13 => ?_
 simp only [go_sem, Int.toNat_one, Int.reduceTMod, Int.reduceTDiv, Int.mul_zero]
 repeat' (first | apply And.intro | intro _)
 refine hK13 _ _ trivial ?_
 refine bn11 _ ?_
 refine hN10 _ ?_
 refine region_k fun K14 hK14 => ?_
 simp only [go_sem, Int.toNat_one, Int.reduceTMod, Int.reduceTDiv, Int.mul_zero]
 repeat' (first | apply And.intro | intro _)
 refine hK14 _ ?_
 refine hN7 _ ?_
 refine rnd_forget [4, 5, 8, 9, 10, 11, 12, 13, 14, 15, 16, 17, 18, 19, 20, 21, 22] ?_
 simp only [go_sem, St.forget, fgt]
 refine rnd_k fun N15 M15 hN15 hM15 => ?_
 refine sr_k fun K16 hK16 => ?_
 simp only [go_sem, Int.toNat_one, Int.reduceTMod, Int.reduceTDiv, Int.mul_zero]
 repeat' (first | apply And.intro | intro _)
 refine hK16 _ ?_
 refine seq_k fun N17 M17 hN17 hM17 => ?_
 refine condT_k (by first | rfl | (simp [go_sem, Int.toNat_one, Int.reduceTMod, Int.reduceTDiv, Int.mul_zero]; done)) ?_
 refine skip_k ?_
 refine hN17 _ ?_
 refine seq_k fun N18 M18 hN18 hM18 => ?_
 refine block_k fun B19 bn19 bx19 br19 bi19 => ?_
 refine sr_k fun K20 hK20 => ?_
 simp only [go_sem, Int.toNat_one, Int.reduceTMod, Int.reduceTDiv, Int.mul_zero]
 repeat' (first | apply And.intro | intro _)
 refine hK20 _ ?_
 refine draw_k [11, 12, 13, 14, 15, 16, 17, 18, 19, 20, 21] [0, 1, 3, 7, 0, 0, 32, 96, 240, 511, 1023, 2047] [] mixed (by kernel_rfl) (by simp only [go_sem]) fun K21 hK21 => ?_
 simp only [go_sem, Int.toNat_one, Int.reduceTMod, Int.reduceTDiv, Int.mul_zero]
 repeat' (first | apply And.intro | intro _)
 refine hK21 _ _ trivial ?_
 refine bn19 _ ?_
 refine hN18 _ ?_
 refine region_k fun K22 hK22 => ?_
 simp only [go_sem, Int.toNat_one, Int.reduceTMod, Int.reduceTDiv, Int.mul_zero]
 repeat' (first | apply And.intro | intro _)
 refine hK22 _ ?_
 refine hN15 _ ?_
 refine rnd_forget [4, 5, 8, 9, 10, 11, 12, 13, 14, 15, 16, 17, 18, 19, 20, 21, 22] ?_
 simp only [go_sem, St.forget, fgt]
 refine rnd_k fun N23 M23 hN23 hM23 => ?_
 refine sr_k fun K24 hK24 => ?_
 simp only [go_sem, Int.toNat_one, Int.reduceTMod, Int.reduceTDiv, Int.mul_zero]
 repeat' (first | apply And.intro | intro _)
 refine hK24 _ ?_
 refine seq_k fun N25 M25 hN25 hM25 => ?_
 refine condT_k (by first | rfl | (simp [go_sem, Int.toNat_one, Int.reduceTMod, Int.reduceTDiv, Int.mul_zero]; done)) ?_
 refine skip_k ?_
 refine hN25 _ ?_
 refine seq_k fun N26 M26 hN26 hM26 => ?_
 refine block_k fun B27 bn27 bx27 br27 bi27 => ?_
 refine sr_k fun K28 hK28 => ?_
 simp only [go_sem, Int.toNat_one, Int.reduceTMod, Int.reduceTDiv, Int.mul_zero]
 repeat' (first | apply And.intro | intro _)
 refine hK28 _ ?_
 refine draw_k [11, 12, 13, 14, 15, 16, 17, 18, 19, 20, 21] [0, 1, 3, 7, 0, 0, 32, 96, 240, 511, 1023, 2047] [] mixed (by kernel_rfl) (by simp only [go_sem]) fun K29 hK29 => ?_
 simp only [go_sem, Int.toNat_one, Int.reduceTMod, Int.reduceTDiv, Int.mul_zero]
 repeat' (first | apply And.intro | intro _)
 refine hK29 _ _ trivial ?_
 refine bn27 _ ?_
 refine hN26 _ ?_
 refine region_k fun K30 hK30 => ?_
 simp only [go_sem, Int.toNat_one, Int.reduceTMod, Int.reduceTDiv, Int.mul_zero]
 repeat' (first | apply And.intro | intro _)
 refine hK30 _ ?_
 refine hN23 _ ?_
 refine rnd_forget [4, 5, 8, 9, 10, 11, 12, 13, 14, 15, 16, 17, 18, 19, 20, 21, 22] ?_
 simp only [go_sem, St.forget, fgt]
 refine rnd_k fun N31 M31 hN31 hM31 => ?_
 refine sr_k fun K32 hK32 => ?_
 simp only [go_sem, Int.toNat_one, Int.reduceTMod, Int.reduceTDiv, Int.mul_zero]
 repeat' (first | apply And.intro | intro _)
 refine hK32 _ ?_
 refine seq_k fun N33 M33 hN33 hM33 => ?_
 refine condT_k (by first | rfl | (simp [go_sem, Int.toNat_one, Int.reduceTMod, Int.reduceTDiv, Int.mul_zero]; done)) ?_
 refine skip_k ?_
 refine hN33 _ ?_
 refine seq_k fun N34 M34 hN34 hM34 => ?_
 refine block_k fun B35 bn35 bx35 br35 bi35 => ?_
 refine sr_k fun K36 hK36 => ?_
 simp only [go_sem, Int.toNat_one, Int.reduceTMod, Int.reduceTDiv, Int.mul_zero]
 repeat' (first | apply And.intro | intro _)
 refine hK36 _ ?_
 refine draw_k [11, 12, 13, 14, 15, 16, 17, 18, 19, 20, 21] [0, 1, 3, 7, 0, 0, 32, 96, 240, 511, 1023, 2047] [] mixed (by kernel_rfl) (by simp only [go_sem]) fun K37 hK37 => ?_
 simp only [go_sem, Int.toNat_one, Int.reduceTMod, Int.reduceTDiv, Int.mul_zero]
 repeat' (first | apply And.intro | intro _)
 refine hK37 _ _ trivial ?_
 refine bn35 _ ?_
 refine hN34 _ ?_
 refine region_k fun K38 hK38 => ?_
 simp only [go_sem, Int.toNat_one, Int.reduceTMod, Int.reduceTDiv, Int.mul_zero]
 repeat' (first | apply And.intro | intro _)
 refine hK38 _ ?_
 refine hN31 _ ?_
 refine rnd_forget [4, 5, 8, 9, 10, 11, 12, 13, 14, 15, 16, 17, 18, 19, 20, 21, 22] ?_
 simp only [go_sem, St.forget, fgt]
 refine rnd_k fun N39 M39 hN39 hM39 => ?_
 refine sr_k fun K40 hK40 => ?_
 simp only [go_sem, Int.toNat_one, Int.reduceTMod, Int.reduceTDiv, Int.mul_zero]
 repeat' (first | apply And.intro | intro _)
 refine hK40 _ ?_
 refine seq_k fun N41 M41 hN41 hM41 => ?_
 refine condT_k (by first | rfl | (simp [go_sem, Int.toNat_one, Int.reduceTMod, Int.reduceTDiv, Int.mul_zero]; done)) ?_
 refine skip_k ?_
 refine hN41 _ ?_
 refine seq_k fun N42 M42 hN42 hM42 => ?_
 refine block_k fun B43 bn43 bx43 br43 bi43 => ?_
 refine sr_k fun K44 hK44 => ?_
 simp only [go_sem, Int.toNat_one, Int.reduceTMod, Int.reduceTDiv, Int.mul_zero]
 repeat' (first | apply And.intro | intro _)
 refine hK44 _ ?_
 refine draw_k [11, 12, 13, 14, 15, 16, 17, 18, 19, 20, 21] [0, 1, 3, 7, 0, 0, 32, 96, 240, 511, 1023, 2047] [] mixed (by kernel_rfl) (by simp only [go_sem]) fun K45 hK45 => ?_
 simp only [go_sem, Int.toNat_one, Int.reduceTMod, Int.reduceTDiv, Int.mul_zero]
 repeat' (first | apply And.intro | intro _)
 refine hK45 _ _ trivial ?_
 refine bn43 _ ?_
 refine hN42 _ ?_
 refine region_k fun K46 hK46 => ?_
 simp only [go_sem, Int.toNat_one, Int.reduceTMod, Int.reduceTDiv, Int.mul_zero]
 repeat' (first | apply And.intro | intro _)
 refine hK46 _ ?_
 refine hN39 _ ?_
 refine rnd_forget [4, 5, 8, 9, 10, 11, 12, 13, 14, 15, 16, 17, 18, 19, 20, 21, 22] ?_
 simp only [go_sem, St.forget, fgt]
 refine rnd_k fun N47 M47 hN47 hM47 => ?_
 refine sr_k fun K48 hK48 => ?_
 simp only [go_sem, Int.toNat_one, Int.reduceTMod, Int.reduceTDiv, Int.mul_zero]
 repeat' (first | apply And.intro | intro _)
 refine hK48 _ ?_
 refine seq_k fun N49 M49 hN49 hM49 => ?_
 refine condT_k (by first | rfl | (simp [go_sem, Int.toNat_one, Int.reduceTMod, Int.reduceTDiv, Int.mul_zero]; done)) ?_
 refine skip_k ?_
 refine hN49 _ ?_
 refine seq_k fun N50 M50 hN50 hM50 => ?_
 refine block_k fun B51 bn51 bx51 br51 bi51 => ?_
 refine sr_k fun K52 hK52 => ?_
 simp only [go_sem, Int.toNat_one, Int.reduceTMod, Int.reduceTDiv, Int.mul_zero]
 repeat' (first | apply And.intro | intro _)
 refine hK52 _ ?_
 refine draw_k [11, 12, 13, 14, 15, 16, 17, 18, 19, 20, 21] [0, 1, 3, 7, 0, 0, 32, 96, 240, 511, 1023, 2047] [] mixed (by kernel_rfl) (by simp only [go_sem]) fun K53 hK53 => ?_
 simp only [go_sem, Int.toNat_one, Int.reduceTMod, Int.reduceTDiv, Int.mul_zero]
 repeat' (first | apply And.intro | intro _)
 refine hK53 _ _ trivial ?_
 refine bn51 _ ?_
 refine hN50 _ ?_
 refine region_k fun K54 hK54 => ?_
 simp only [go_sem, Int.toNat_one, Int.reduceTMod, Int.reduceTDiv, Int.mul_zero]
 repeat' (first | apply And.intro | intro _)
 refine hK54 _ ?_
 refine hN47 _ ?_
 refine rnd_forget [4, 5, 8, 9, 10, 11, 12, 13, 14, 15, 16, 17, 18, 19, 20, 21, 22] ?_
 simp only [go_sem, St.forget, fgt]
 refine rnd_k fun N55 M55 hN55 hM55 => ?_
 refine sr_k fun K56 hK56 => ?_
 simp only [go_sem, Int.toNat_one, Int.reduceTMod, Int.reduceTDiv, Int.mul_zero]
 repeat' (first | apply And.intro | intro _)
 refine hK56 _ ?_
 refine seq_k fun N57 M57 hN57 hM57 => ?_
 refine condT_k (by first | rfl | (simp [go_sem, Int.toNat_one, Int.reduceTMod, Int.reduceTDiv, Int.mul_zero]; done)) ?_
 refine skip_k ?_
 refine hN57 _ ?_
 refine seq_k fun N58 M58 hN58 hM58 => ?_
 refine block_k fun B59 bn59 bx59 br59 bi59 => ?_
 refine sr_k fun K60 hK60 => ?_
 simp only [go_sem, Int.toNat_one, Int.reduceTMod, Int.reduceTDiv, Int.mul_zero]
 repeat' (first | apply And.intro | intro _)
 refine hK60 _ ?_
 refine draw_k [11, 12, 13, 14, 15, 16, 17, 18, 19, 20, 21] [0, 1, 3, 7, 0, 0, 32, 96, 240, 511, 1023, 2047] [] mixed (by kernel_rfl) (by simp only [go_sem]) fun K61 hK61 => ?_
 simp only [go_sem, Int.toNat_one, Int.reduceTMod, Int.reduceTDiv, Int.mul_zero]
 repeat' (first | apply And.intro | intro _)
 refine hK61 _ _ trivial ?_
 refine bn59 _ ?_
 refine hN58 _ ?_
 refine region_k fun K62 hK62 => ?_
 simp only [go_sem, Int.toNat_one, Int.reduceTMod, Int.reduceTDiv, Int.mul_zero]
 repeat' (first | apply And.intro | intro _)
 refine hK62 _ ?_
 refine hN55 _ ?_
 refine rnd_forget [4, 5, 8, 9, 10, 11, 12, 13, 14, 15, 16, 17, 18, 19, 20, 21, 22] ?_
 simp only [go_sem, St.forget, fgt]
 refine rnd_k fun N63 M63 hN63 hM63 => ?_
 refine sr_k fun K64 hK64 => ?_
 simp only [go_sem, Int.toNat_one, Int.reduceTMod, Int.reduceTDiv, Int.mul_zero]
 repeat' (first | apply And.intro | intro _)
 refine hK64 _ ?_
 refine seq_k fun N65 M65 hN65 hM65 => ?_
 refine condT_k (by first | rfl | (simp [go_sem, Int.toNat_one, Int.reduceTMod, Int.reduceTDiv, Int.mul_zero]; done)) ?_
 refine skip_k ?_
 refine hN65 _ ?_
 refine seq_k fun N66 M66 hN66 hM66 => ?_
 refine block_k fun B67 bn67 bx67 br67 bi67 => ?_
 refine sr_k fun K68 hK68 => ?_
 simp only [go_sem, Int.toNat_one, Int.reduceTMod, Int.reduceTDiv, Int.mul_zero]
 repeat' (first | apply And.intro | intro _)
 refine hK68 _ ?_
 refine draw_k [11, 12, 13, 14, 15, 16, 17, 18, 19, 20, 21] [0, 1, 3, 7, 0, 0, 32, 96, 240, 511, 1023, 2047] [] mixed (by kernel_rfl) (by simp only [go_sem]) fun K69 hK69 => ?_
 simp only [go_sem, Int.toNat_one, Int.reduceTMod, Int.reduceTDiv, Int.mul_zero]
 repeat' (first | apply And.intro | intro _)
 refine hK69 _ _ trivial ?_
 refine bn67 _ ?_
 refine hN66 _ ?_
 refine region_k fun K70 hK70 => ?_
 simp only [go_sem, Int.toNat_one, Int.reduceTMod, Int.reduceTDiv, Int.mul_zero]
 repeat' (first | apply And.intro | intro _)
 refine hK70 _ ?_
 refine hN63 _ ?_
 refine rnd_forget [4, 5, 8, 9, 10, 11, 12, 13, 14, 15, 16, 17, 18, 19, 20, 21, 22] ?_
 simp only [go_sem, St.forget, fgt]
 refine rnd_k fun N71 M71 hN71 hM71 => ?_
 refine sr_k fun K72 hK72 => ?_
 simp only [go_sem, Int.toNat_one, Int.reduceTMod, Int.reduceTDiv, Int.mul_zero]
 repeat' (first | apply And.intro | intro _)
 refine hK72 _ ?_
 refine seq_k fun N73 M73 hN73 hM73 => ?_
 refine condT_k (by first | rfl | (simp [go_sem, Int.toNat_one, Int.reduceTMod, Int.reduceTDiv, Int.mul_zero]; done)) ?_
 refine skip_k ?_
 refine hN73 _ ?_
 refine seq_k fun N74 M74 hN74 hM74 => ?_
 refine block_k fun B75 bn75 bx75 br75 bi75 => ?_
 refine sr_k fun K76 hK76 => ?_
 simp only [go_sem, Int.toNat_one, Int.reduceTMod, Int.reduceTDiv, Int.mul_zero]
 repeat' (first | apply And.intro | intro _)
 refine hK76 _ ?_
 refine draw_k [11, 12, 13, 14, 15, 16, 17, 18, 19, 20, 21] [0, 1, 3, 7, 0, 0, 32, 96, 240, 511, 1023, 2047] [] mixed (by kernel_rfl) (by simp only [go_sem]) fun K77 hK77 => ?_
 simp only [go_sem, Int.toNat_one, Int.reduceTMod, Int.reduceTDiv, Int.mul_zero]
 repeat' (first | apply And.intro | intro _)
 refine hK77 _ _ trivial ?_
 refine bn75 _ ?_
 refine hN74 _ ?_
 refine region_k fun K78 hK78 => ?_
 simp only [go_sem, Int.toNat_one, Int.reduceTMod, Int.reduceTDiv, Int.mul_zero]
 repeat' (first | apply And.intro | intro _)
 refine hK78 _ ?_
 refine hN71 _ ?_
 refine rnd_forget [4, 5, 8, 9, 10, 11, 12, 13, 14, 15, 16, 17, 18, 19, 20, 21, 22] ?_
 simp only [go_sem, St.forget, fgt]
 refine rnd_k fun N79 M79 hN79 hM79 => ?_
 refine sr_k fun K80 hK80 => ?_
 simp only [go_sem, Int.toNat_one, Int.reduceTMod, Int.reduceTDiv, Int.mul_zero]
 repeat' (first | apply And.intro | intro _)
 refine hK80 _ ?_
 refine seq_k fun N81 M81 hN81 hM81 => ?_
 refine condT_k (by first | rfl | (simp [go_sem, Int.toNat_one, Int.reduceTMod, Int.reduceTDiv, Int.mul_zero]; done)) ?_
 refine skip_k ?_
 refine hN81 _ ?_
 refine seq_k fun N82 M82 hN82 hM82 => ?_
 refine block_k fun B83 bn83 bx83 br83 bi83 => ?_
 refine sr_k fun K84 hK84 => ?_
 simp only [go_sem, Int.toNat_one, Int.reduceTMod, Int.reduceTDiv, Int.mul_zero]
 repeat' (first | apply And.intro | intro _)
 refine hK84 _ ?_
 refine draw_k [11, 12, 13, 14, 15, 16, 17, 18, 19, 20, 21] [0, 1, 3, 7, 0, 0, 32, 96, 240, 511, 1023, 2047] [] mixed (by kernel_rfl) (by simp only [go_sem]) fun K85 hK85 => ?_
 simp only [go_sem, Int.toNat_one, Int.reduceTMod, Int.reduceTDiv, Int.mul_zero]
 repeat' (first | apply And.intro | intro _)
 refine hK85 _ _ trivial ?_
 refine bn83 _ ?_
 refine hN82 _ ?_
 refine region_k fun K86 hK86 => ?_
 simp only [go_sem, Int.toNat_one, Int.reduceTMod, Int.reduceTDiv, Int.mul_zero]
 repeat' (first | apply And.intro | intro _)
 refine hK86 _ ?_
 refine hN79 _ ?_
 refine rnd_forget [4, 5, 8, 9, 10, 11, 12, 13, 14, 15, 16, 17, 18, 19, 20, 21, 22] ?_
 simp only [go_sem, St.forget, fgt]
 refine rnd_k fun N87 M87 hN87 hM87 => ?_
 refine sr_k fun K88 hK88 => ?_
 simp only [go_sem, Int.toNat_one, Int.reduceTMod, Int.reduceTDiv, Int.mul_zero]
 repeat' (first | apply And.intro | intro _)
 refine hK88 _ ?_
 refine seq_k fun N89 M89 hN89 hM89 => ?_
 refine condT_k (by first | rfl | (simp [go_sem, Int.toNat_one, Int.reduceTMod, Int.reduceTDiv, Int.mul_zero]; done)) ?_
 refine skip_k ?_
 refine hN89 _ ?_
 refine seq_k fun N90 M90 hN90 hM90 => ?_
 refine block_k fun B91 bn91 bx91 br91 bi91 => ?_
 refine sr_k fun K92 hK92 => ?_
 simp only [go_sem, Int.toNat_one, Int.reduceTMod, Int.reduceTDiv, Int.mul_zero]
 repeat' (first | apply And.intro | intro _)
 refine hK92 _ ?_
 refine draw_k [11, 12, 13, 14, 15, 16, 17, 18, 19, 20, 21] [0, 1, 3, 7, 0, 0, 32, 96, 240, 511, 1023, 2047] [] mixed (by kernel_rfl) (by simp only [go_sem]) fun K93 hK93 => ?_
 simp only [go_sem, Int.toNat_one, Int.reduceTMod, Int.reduceTDiv, Int.mul_zero]
 repeat' (first | apply And.intro | intro _)
 refine hK93 _ _ trivial ?_
 refine bn91 _ ?_
 refine hN90 _ ?_
 refine region_k fun K94 hK94 => ?_
 simp only [go_sem, Int.toNat_one, Int.reduceTMod, Int.reduceTDiv, Int.mul_zero]
 repeat' (first | apply And.intro | intro _)
 refine hK94 _ ?_
 refine hN87 _ ?_
 refine rnd_forget [4, 5, 8, 9, 10, 11, 12, 13, 14, 15, 16, 17, 18, 19, 20, 21, 22] ?_
 simp only [go_sem, St.forget, fgt]
 refine rnd_k fun N95 M95 hN95 hM95 => ?_
 refine sr_k fun K96 hK96 => ?_
 simp only [go_sem, Int.toNat_one, Int.reduceTMod, Int.reduceTDiv, Int.mul_zero]
 repeat' (first | apply And.intro | intro _)
 refine hK96 _ ?_
 refine seq_k fun N97 M97 hN97 hM97 => ?_
 refine condT_k (by first | rfl | (simp [go_sem, Int.toNat_one, Int.reduceTMod, Int.reduceTDiv, Int.mul_zero]; done)) ?_
 refine skip_k ?_
 refine hN97 _ ?_
 refine seq_k fun N98 M98 hN98 hM98 => ?_
 refine block_k fun B99 bn99 bx99 br99 bi99 => ?_
 refine sr_k fun K100 hK100 => ?_
 simp only [go_sem, Int.toNat_one, Int.reduceTMod, Int.reduceTDiv, Int.mul_zero]
 repeat' (first | apply And.intro | intro _)
 refine hK100 _ ?_
 refine draw_k [11, 12, 13, 14, 15, 16, 17, 18, 19, 20, 21] [0, 1, 3, 7, 0, 0, 32, 96, 240, 511, 1023, 2047] [] mixed (by kernel_rfl) (by simp only [go_sem]) fun K101 hK101 => ?_
 simp only [go_sem, Int.toNat_one, Int.reduceTMod, Int.reduceTDiv, Int.mul_zero]
 repeat' (first | apply And.intro | intro _)
 refine hK101 _ _ trivial ?_
 refine bn99 _ ?_
 refine hN98 _ ?_
 refine region_k fun K102 hK102 => ?_
 simp only [go_sem, Int.toNat_one, Int.reduceTMod, Int.reduceTDiv, Int.mul_zero]
 repeat' (first | apply And.intro | intro _)
 refine hK102 _ ?_
 refine hN95 _ ?_
 refine rnd_forget [4, 5, 8, 9, 10, 11, 12, 13, 14, 15, 16, 17, 18, 19, 20, 21, 22] ?_
 simp only [go_sem, St.forget, fgt]
 refine rnd_k fun N103 M103 hN103 hM103 => ?_
 refine sr_k fun K104 hK104 => ?_
 simp only [go_sem, Int.toNat_one, Int.reduceTMod, Int.reduceTDiv, Int.mul_zero]
 repeat' (first | apply And.intro | intro _)
 refine hK104 _ ?_
 refine seq_k fun N105 M105 hN105 hM105 => ?_
 refine condT_k (by first | rfl | (simp [go_sem, Int.toNat_one, Int.reduceTMod, Int.reduceTDiv, Int.mul_zero]; done)) ?_
 refine skip_k ?_
 refine hN105 _ ?_
 refine seq_k fun N106 M106 hN106 hM106 => ?_
 refine block_k fun B107 bn107 bx107 br107 bi107 => ?_
 refine sr_k fun K108 hK108 => ?_
 simp only [go_sem, Int.toNat_one, Int.reduceTMod, Int.reduceTDiv, Int.mul_zero]
 repeat' (first | apply And.intro | intro _)
 refine hK108 _ ?_
 refine draw_k [11, 12, 13, 14, 15, 16, 17, 18, 19, 20, 21] [0, 1, 3, 7, 0, 0, 32, 96, 240, 511, 1023, 2047] [] mixed (by kernel_rfl) (by simp only [go_sem]) fun K109 hK109 => ?_
 simp only [go_sem, Int.toNat_one, Int.reduceTMod, Int.reduceTDiv, Int.mul_zero]
 repeat' (first | apply And.intro | intro _)
 refine hK109 _ _ trivial ?_
 refine bn107 _ ?_
 refine hN106 _ ?_
 refine region_k fun K110 hK110 => ?_
 simp only [go_sem, Int.toNat_one, Int.reduceTMod, Int.reduceTDiv, Int.mul_zero]
 repeat' (first | apply And.intro | intro _)
 refine hK110 _ ?_
 refine hN103 _ ?_
 refine rnd_forget [4, 5, 8, 9, 10, 11, 12, 13, 14, 15, 16, 17, 18, 19, 20, 21, 22] ?_
 simp only [go_sem, St.forget, fgt]
 refine rnd_k fun N111 M111 hN111 hM111 => ?_
 refine sr_k fun K112 hK112 => ?_
 simp only [go_sem, Int.toNat_one, Int.reduceTMod, Int.reduceTDiv, Int.mul_zero]
 repeat' (first | apply And.intro | intro _)
 refine hK112 _ ?_
 refine seq_k fun N113 M113 hN113 hM113 => ?_
 refine condT_k (by first | rfl | (simp [go_sem, Int.toNat_one, Int.reduceTMod, Int.reduceTDiv, Int.mul_zero]; done)) ?_
 refine skip_k ?_
 refine hN113 _ ?_
 refine seq_k fun N114 M114 hN114 hM114 => ?_
 refine block_k fun B115 bn115 bx115 br115 bi115 => ?_
 refine sr_k fun K116 hK116 => ?_
 simp only [go_sem, Int.toNat_one, Int.reduceTMod, Int.reduceTDiv, Int.mul_zero]
 repeat' (first | apply And.intro | intro _)
 refine hK116 _ ?_
 refine draw_k [11, 12, 13, 14, 15, 16, 17, 18, 19, 20, 21] [0, 1, 3, 7, 0, 0, 32, 96, 240, 511, 1023, 2047] [] mixed (by kernel_rfl) (by simp only [go_sem]) fun K117 hK117 => ?_
 simp only [go_sem, Int.toNat_one, Int.reduceTMod, Int.reduceTDiv, Int.mul_zero]
 repeat' (first | apply And.intro | intro _)
 refine hK117 _ _ trivial ?_
 refine bn115 _ ?_
 refine hN114 _ ?_
 refine region_k fun K118 hK118 => ?_
 simp only [go_sem, Int.toNat_one, Int.reduceTMod, Int.reduceTDiv, Int.mul_zero]
 repeat' (first | apply And.intro | intro _)
 refine hK118 _ ?_
 refine hN111 _ ?_
 refine rnd_forget [4, 5, 8, 9, 10, 11, 12, 13, 14, 15, 16, 17, 18, 19, 20, 21, 22] ?_
 simp only [go_sem, St.forget, fgt]
 refine rnd_k fun N119 M119 hN119 hM119 => ?_
 refine sr_k fun K120 hK120 => ?_
 simp only [go_sem, Int.toNat_one, Int.reduceTMod, Int.reduceTDiv, Int.mul_zero]
 repeat' (first | apply And.intro | intro _)
 refine hK120 _ ?_
 refine seq_k fun N121 M121 hN121 hM121 => ?_
 refine condT_k (by first | rfl | (simp [go_sem, Int.toNat_one, Int.reduceTMod, Int.reduceTDiv, Int.mul_zero]; done)) ?_
 refine skip_k ?_
 refine hN121 _ ?_
 refine seq_k fun N122 M122 hN122 hM122 => ?_
 refine block_k fun B123 bn123 bx123 br123 bi123 => ?_
 refine sr_k fun K124 hK124 => ?_
 simp only [go_sem, Int.toNat_one, Int.reduceTMod, Int.reduceTDiv, Int.mul_zero]
 repeat' (first | apply And.intro | intro _)
 refine hK124 _ ?_
 refine draw_k [11, 12, 13, 14, 15, 16, 17, 18, 19, 20, 21] [0, 1, 3, 7, 0, 0, 32, 96, 240, 511, 1023, 2047] [] mixed (by kernel_rfl) (by simp only [go_sem]) fun K125 hK125 => ?_
 simp only [go_sem, Int.toNat_one, Int.reduceTMod, Int.reduceTDiv, Int.mul_zero]
 repeat' (first | apply And.intro | intro _)
 refine hK125 _ _ trivial ?_
 refine bn123 _ ?_
 refine hN122 _ ?_
 refine region_k fun K126 hK126 => ?_
 simp only [go_sem, Int.toNat_one, Int.reduceTMod, Int.reduceTDiv, Int.mul_zero]
 repeat' (first | apply And.intro | intro _)
 refine hK126 _ ?_
 refine hN119 _ ?_
 refine rnd_forget [4, 5, 8, 9, 10, 11, 12, 13, 14, 15, 16, 17, 18, 19, 20, 21, 22] ?_
 simp only [go_sem, St.forget, fgt]
 refine rnd_k fun N127 M127 hN127 hM127 => ?_
 refine sr_k fun K128 hK128 => ?_
 simp only [go_sem, Int.toNat_one, Int.reduceTMod, Int.reduceTDiv, Int.mul_zero]
 repeat' (first | apply And.intro | intro _)
 refine hK128 _ ?_
 refine seq_k fun N129 M129 hN129 hM129 => ?_
 refine condT_k (by first | rfl | (simp [go_sem, Int.toNat_one, Int.reduceTMod, Int.reduceTDiv, Int.mul_zero]; done)) ?_
 refine skip_k ?_
 refine hN129 _ ?_
 refine seq_k fun N130 M130 hN130 hM130 => ?_
 refine block_k fun B131 bn131 bx131 br131 bi131 => ?_
 refine sr_k fun K132 hK132 => ?_
 simp only [go_sem, Int.toNat_one, Int.reduceTMod, Int.reduceTDiv, Int.mul_zero]
 repeat' (first | apply And.intro | intro _)
 refine hK132 _ ?_
 refine draw_k [11, 12, 13, 14, 15, 16, 17, 18, 19, 20, 21] [0, 1, 3, 7, 0, 0, 32, 96, 240, 511, 1023, 2047] [] mixed (by kernel_rfl) (by simp only [go_sem]) fun K133 hK133 => ?_
 simp only [go_sem, Int.toNat_one, Int.reduceTMod, Int.reduceTDiv, Int.mul_zero]
 repeat' (first | apply And.intro | intro _)
 refine hK133 _ _ trivial ?_
 refine bn131 _ ?_
 refine hN130 _ ?_
 refine region_k fun K134 hK134 => ?_
 simp only [go_sem, Int.toNat_one, Int.reduceTMod, Int.reduceTDiv, Int.mul_zero]
 repeat' (first | apply And.intro | intro _)
 refine hK134 _ ?_
 refine hN127 _ ?_
 refine rnd_forget [4, 5, 8, 9, 10, 11, 12, 13, 14, 15, 16, 17, 18, 19, 20, 21, 22] ?_
 simp only [go_sem, St.forget, fgt]
 refine rnd_k fun N135 M135 hN135 hM135 => ?_
 refine sr_k fun K136 hK136 => ?_
 simp only [go_sem, Int.toNat_one, Int.reduceTMod, Int.reduceTDiv, Int.mul_zero]
 repeat' (first | apply And.intro | intro _)
 refine hK136 _ ?_
 refine seq_k fun N137 M137 hN137 hM137 => ?_
 refine condF_k (by first | rfl | (simp [go_sem, Int.toNat_one, Int.reduceTMod, Int.reduceTDiv, Int.mul_zero]; done)) ?_
 refine exit_k ?_
 refine hM137 _ _ ?_
 refine hM135 _ _ ?_
 refine bx5 _ ?_
 refine hN3 _ ?_
 refine sr_k fun K138 hK138 => ?_
 simp only [go_sem, Int.toNat_one, Int.reduceTMod, Int.reduceTDiv, Int.mul_zero]
 repeat' (first | apply And.intro | intro _)
 refine hK138 _ ?_
 refine ret_k ?_
 simp only [go_sem, Int.toNat_one, Int.reduceTMod, Int.reduceTDiv, Int.mul_zero]
 all_goals (rfl)
theorem back_ (n : Nat) (hn : n < m4) : Ct Tryd.prog 21 [.w (.agg (u64C (D16 n)))] (fun v m => v = .w (.agg (w4C n))) := by
 obtain ⟨x0, x1, x2, x3, x4, x5, x6, x7, x8, x9, xa, xb, xc, xd, xe, xf, h1, h2⟩ := D16_get hn
 have := back_x x0 x1 x2 x3 x4 x5 x6 x7 x8 x9 xa xb xc xd xe xf
 rw [h1, w4C, ← h2]; exact this
end Go.Sy

