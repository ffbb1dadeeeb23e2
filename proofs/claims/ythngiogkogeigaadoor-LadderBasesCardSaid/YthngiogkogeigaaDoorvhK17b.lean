/- Bytes of the field, as the document tells them. -/
import Derived.Test.YthngiogkogeigaaDoorvhK8
import Derived.Test.YthngiogkogeigaaDoorvQ9
set_option linter.unusedVariables false
set_option linter.unusedSimpArgs false
namespace Go.Sy
open Go.Proofs
attribute [local irreducible] atCall HT runOps runD onC onE onO onG goV goA goS onSt onGuard
theorem z32d : bytesC (List.replicate 32 0) = [.pl (.u8 0), .pl (.u8 0), .pl (.u8 0), .pl (.u8 0), .pl (.u8 0), .pl (.u8 0), .pl (.u8 0), .pl (.u8 0), .pl (.u8 0), .pl (.u8 0), .pl (.u8 0), .pl (.u8 0), .pl (.u8 0), .pl (.u8 0), .pl (.u8 0), .pl (.u8 0), .pl (.u8 0), .pl (.u8 0), .pl (.u8 0), .pl (.u8 0), .pl (.u8 0), .pl (.u8 0), .pl (.u8 0), .pl (.u8 0), .pl (.u8 0), .pl (.u8 0), .pl (.u8 0), .pl (.u8 0), .pl (.u8 0), .pl (.u8 0), .pl (.u8 0), .pl (.u8 0)] := rfl
set_option maxHeartbeats 3200000 in
set_option maxRecDepth 100000 in
theorem rbytes_ok (a b c d : UInt64) (h1 : vQ a b c d < p25) :
 CtM Tryd.prog 20 [.w (.agg [.pl (.u64 a), .pl (.u64 b), .pl (.u64 c), .pl (.u64 d)])] [(1000000, ⟨false, u64C prdL⟩)] (Told (fun v m => v = .tup [.agg (bytesC (by4 a b c d)), .one (.pl (.i 0))] ∧ m = [])) := by
 have hA := in_ a b c d
 rw [decide_eq_true h1] at hA
 have hO := of_ a b c d
 rw [← digs_of] at hO
 refine CtM.k Tryd.func20 rfl Tryd.ntmps20 (congrArg Array.toList Tryd.results20) (by simp) fun w0 ro may fx => ?_
 refine sr_k fun K1 hK1 => ?_
 simp only [go_sem, Int.toNat_one, Int.reduceTMod, Int.reduceTDiv, Int.mul_zero, z32d, digs, u64C]
 repeat' (first | apply And.intro | intro _)
 refine hK1 _ ?_
 refine sr_k fun K2 hK2 => ?_
 simp only [go_sem, Int.toNat_one, Int.reduceTMod, Int.reduceTDiv, Int.mul_zero, z32d, digs, u64C]
 repeat' (first | apply And.intro | intro _)
 refine hK2 _ ?_
 refine seq_k fun N3 M3 hN3 hM3 => ?_
 refine sr_k fun K4 hK4 => ?_
 simp only [go_sem, Int.toNat_one, Int.reduceTMod, Int.reduceTDiv, Int.mul_zero, z32d, digs, u64C]
 repeat' (first | apply And.intro | intro _)
 all_goals (refine call_hand false [] (fun k => k) (fun _ _ => rfl) ?_ (by decide) ?_ hA.told ?_; iterate 2 (focus (first | rfl | (simp only [go_sem, Int.toNat_one, Int.reduceTMod, Int.reduceTDiv, Int.mul_zero, z32d, digs, u64C] <;> first | done | rfl | simp))))
 all_goals (rintro v m ⟨hR, hm⟩; subst hR; subst hm)
 all_goals (refine And.intro ?_ (And.intro ?_ (And.intro ?_ ?_)); iterate 3 (focus (first | rfl | (simp only [go_sem, Int.toNat_one, Int.reduceTMod, Int.reduceTDiv, Int.mul_zero, z32d, digs, u64C]; done) | (simp [go_sem, look, Int.toNat_one, Int.reduceTMod, Int.reduceTDiv, Int.mul_zero, z32d, digs, u64C]; done))))
 all_goals (try simp only [go_sem, Int.toNat_one, Int.reduceTMod, Int.reduceTDiv, Int.mul_zero, z32d, digs, u64C])
 all_goals (try simp only [go_sem, Int.toNat_one, Int.reduceTMod, Int.reduceTDiv, Int.mul_zero, z32d, digs, u64C])
 all_goals repeat' (first | apply And.intro | intro _)
 refine hK4 _ ?_
 refine condF_k (by first | rfl | (simp [go_sem, Int.toNat_one, Int.reduceTMod, Int.reduceTDiv, Int.mul_zero, z32d, digs, u64C]; done)) ?_
 refine skip_k ?_
 refine hN3 _ ?_
 refine seq_k fun N5 M5 hN5 hM5 => ?_
 refine sr_k fun K6 hK6 => ?_
 simp only [go_sem, Int.toNat_one, Int.reduceTMod, Int.reduceTDiv, Int.mul_zero, z32d, digs, u64C]
 repeat' (first | apply And.intro | intro _)
 all_goals refine call_view (fun k => k) (fun _ _ => rfl) (by first | rfl | (simp only [go_sem, Int.toNat_one, Int.reduceTMod, Int.reduceTDiv, Int.mul_zero, z32d, digs, u64C] <;> rfl)) ((hO).plain fun _ _ h => h) ?_
 all_goals (rintro v m ⟨hR, hm⟩; subst hR; subst hm)
 all_goals refine And.intro (by first | rfl | simp only [go_sem, Int.toNat_one, Int.reduceTMod, Int.reduceTDiv, Int.mul_zero, z32d, digs, u64C]) (And.intro (by first | rfl | simp only [go_sem, Int.toNat_one, Int.reduceTMod, Int.reduceTDiv, Int.mul_zero, z32d, digs, u64C]) ?_)
 all_goals simp only [go_sem, Int.toNat_one, Int.reduceTMod, Int.reduceTDiv, Int.mul_zero, z32d, digs, u64C]
 all_goals repeat' (first | apply And.intro | intro _)
 refine hK6 _ ?_
 refine block_k fun B7 bn7 bx7 br7 bi7 => ?_
 refine rounds_k 17 ?_
 refine rnd_k fun N9 M9 hN9 hM9 => ?_
 refine sr_k fun K10 hK10 => ?_
 simp only [go_sem, Int.toNat_one, Int.reduceTMod, Int.reduceTDiv, Int.mul_zero, z32d, digs, u64C]
 repeat' (first | apply And.intro | intro _)
 refine hK10 _ ?_
 refine seq_k fun N11 M11 hN11 hM11 => ?_
 refine condT_k (by first | rfl | (simp [go_sem, Int.toNat_one, Int.reduceTMod, Int.reduceTDiv, Int.mul_zero, z32d, digs, u64C]; done)) ?_
 refine skip_k ?_
 refine hN11 _ ?_
 refine seq_k fun N12 M12 hN12 hM12 => ?_
 refine block_k fun B13 bn13 bx13 br13 bi13 => ?_
 refine sr_k fun K14 hK14 => ?_
 simp only [go_sem, Int.toNat_one, Int.reduceTMod, Int.reduceTDiv, Int.mul_zero, z32d, digs, u64C]
 repeat' (first | apply And.intro | intro _)
 refine hK14 _ ?_
 refine region_k fun K15 hK15 => ?_
 simp only [go_sem, Int.toNat_one, Int.reduceTMod, Int.reduceTDiv, Int.mul_zero, z32d, digs, u64C]
 repeat' (first | apply And.intro | intro _)
 refine hK15 _ ?_
 refine bn13 _ ?_
 refine hN12 _ ?_
 refine region_k fun K16 hK16 => ?_
 simp only [go_sem, Int.toNat_one, Int.reduceTMod, Int.reduceTDiv, Int.mul_zero, z32d, digs, u64C]
 repeat' (first | apply And.intro | intro _)
 refine hK16 _ ?_
 refine hN9 _ ?_
 refine rnd_forget [5, 6, 14, 15, 16, 17, 18, 19, 20, 21, 22, 23, 24, 25, 26, 27, 28, 29] ?_
 simp only [go_sem, St.forget, fgt]
 refine rnd_k fun N17 M17 hN17 hM17 => ?_
 refine sr_k fun K18 hK18 => ?_
 simp only [go_sem, Int.toNat_one, Int.reduceTMod, Int.reduceTDiv, Int.mul_zero, z32d, digs, u64C]
 repeat' (first | apply And.intro | intro _)
 refine hK18 _ ?_
 refine seq_k fun N19 M19 hN19 hM19 => ?_
 refine condT_k (by first | rfl | (simp [go_sem, Int.toNat_one, Int.reduceTMod, Int.reduceTDiv, Int.mul_zero, z32d, digs, u64C]; done)) ?_
 refine skip_k ?_
 refine hN19 _ ?_
 refine seq_k fun N20 M20 hN20 hM20 => ?_
 refine block_k fun B21 bn21 bx21 br21 bi21 => ?_
 refine sr_k fun K22 hK22 => ?_
 simp only [go_sem, Int.toNat_one, Int.reduceTMod, Int.reduceTDiv, Int.mul_zero, z32d, digs, u64C]
 repeat' (first | apply And.intro | intro _)
 refine hK22 _ ?_
 refine region_k fun K23 hK23 => ?_
 simp only [go_sem, Int.toNat_one, Int.reduceTMod, Int.reduceTDiv, Int.mul_zero, z32d, digs, u64C]
 repeat' (first | apply And.intro | intro _)
 refine hK23 _ ?_
 refine bn21 _ ?_
 refine hN20 _ ?_
 refine region_k fun K24 hK24 => ?_
 simp only [go_sem, Int.toNat_one, Int.reduceTMod, Int.reduceTDiv, Int.mul_zero, z32d, digs, u64C]
 repeat' (first | apply And.intro | intro _)
 refine hK24 _ ?_
 refine hN17 _ ?_
 refine rnd_forget [5, 6, 14, 15, 16, 17, 18, 19, 20, 21, 22, 23, 24, 25, 26, 27, 28, 29] ?_
 simp only [go_sem, St.forget, fgt]
 refine rnd_k fun N25 M25 hN25 hM25 => ?_
 refine sr_k fun K26 hK26 => ?_
 simp only [go_sem, Int.toNat_one, Int.reduceTMod, Int.reduceTDiv, Int.mul_zero, z32d, digs, u64C]
 repeat' (first | apply And.intro | intro _)
 refine hK26 _ ?_
 refine seq_k fun N27 M27 hN27 hM27 => ?_
 refine condT_k (by first | rfl | (simp [go_sem, Int.toNat_one, Int.reduceTMod, Int.reduceTDiv, Int.mul_zero, z32d, digs, u64C]; done)) ?_
 refine skip_k ?_
 refine hN27 _ ?_
 refine seq_k fun N28 M28 hN28 hM28 => ?_
 refine block_k fun B29 bn29 bx29 br29 bi29 => ?_
 refine sr_k fun K30 hK30 => ?_
 simp only [go_sem, Int.toNat_one, Int.reduceTMod, Int.reduceTDiv, Int.mul_zero, z32d, digs, u64C]
 repeat' (first | apply And.intro | intro _)
 refine hK30 _ ?_
 refine region_k fun K31 hK31 => ?_
 simp only [go_sem, Int.toNat_one, Int.reduceTMod, Int.reduceTDiv, Int.mul_zero, z32d, digs, u64C]
 repeat' (first | apply And.intro | intro _)
 refine hK31 _ ?_
 refine bn29 _ ?_
 refine hN28 _ ?_
 refine region_k fun K32 hK32 => ?_
 simp only [go_sem, Int.toNat_one, Int.reduceTMod, Int.reduceTDiv, Int.mul_zero, z32d, digs, u64C]
 repeat' (first | apply And.intro | intro _)
 refine hK32 _ ?_
 refine hN25 _ ?_
 refine rnd_forget [5, 6, 14, 15, 16, 17, 18, 19, 20, 21, 22, 23, 24, 25, 26, 27, 28, 29] ?_
 simp only [go_sem, St.forget, fgt]
 refine rnd_k fun N33 M33 hN33 hM33 => ?_
 refine sr_k fun K34 hK34 => ?_
 simp only [go_sem, Int.toNat_one, Int.reduceTMod, Int.reduceTDiv, Int.mul_zero, z32d, digs, u64C]
 repeat' (first | apply And.intro | intro _)
 refine hK34 _ ?_
 refine seq_k fun N35 M35 hN35 hM35 => ?_
 refine condT_k (by first | rfl | (simp [go_sem, Int.toNat_one, Int.reduceTMod, Int.reduceTDiv, Int.mul_zero, z32d, digs, u64C]; done)) ?_
 refine skip_k ?_
 refine hN35 _ ?_
 refine seq_k fun N36 M36 hN36 hM36 => ?_
 refine block_k fun B37 bn37 bx37 br37 bi37 => ?_
 refine sr_k fun K38 hK38 => ?_
 simp only [go_sem, Int.toNat_one, Int.reduceTMod, Int.reduceTDiv, Int.mul_zero, z32d, digs, u64C]
 repeat' (first | apply And.intro | intro _)
 refine hK38 _ ?_
 refine region_k fun K39 hK39 => ?_
 simp only [go_sem, Int.toNat_one, Int.reduceTMod, Int.reduceTDiv, Int.mul_zero, z32d, digs, u64C]
 repeat' (first | apply And.intro | intro _)
 refine hK39 _ ?_
 refine bn37 _ ?_
 refine hN36 _ ?_
 refine region_k fun K40 hK40 => ?_
 simp only [go_sem, Int.toNat_one, Int.reduceTMod, Int.reduceTDiv, Int.mul_zero, z32d, digs, u64C]
 repeat' (first | apply And.intro | intro _)
 refine hK40 _ ?_
 refine hN33 _ ?_
 refine rnd_forget [5, 6, 14, 15, 16, 17, 18, 19, 20, 21, 22, 23, 24, 25, 26, 27, 28, 29] ?_
 simp only [go_sem, St.forget, fgt]
 refine rnd_k fun N41 M41 hN41 hM41 => ?_
 refine sr_k fun K42 hK42 => ?_
 simp only [go_sem, Int.toNat_one, Int.reduceTMod, Int.reduceTDiv, Int.mul_zero, z32d, digs, u64C]
 repeat' (first | apply And.intro | intro _)
 refine hK42 _ ?_
 refine seq_k fun N43 M43 hN43 hM43 => ?_
 refine condT_k (by first | rfl | (simp [go_sem, Int.toNat_one, Int.reduceTMod, Int.reduceTDiv, Int.mul_zero, z32d, digs, u64C]; done)) ?_
 refine skip_k ?_
 refine hN43 _ ?_
 refine seq_k fun N44 M44 hN44 hM44 => ?_
 refine block_k fun B45 bn45 bx45 br45 bi45 => ?_
 refine sr_k fun K46 hK46 => ?_
 simp only [go_sem, Int.toNat_one, Int.reduceTMod, Int.reduceTDiv, Int.mul_zero, z32d, digs, u64C]
 repeat' (first | apply And.intro | intro _)
 refine hK46 _ ?_
 refine region_k fun K47 hK47 => ?_
 simp only [go_sem, Int.toNat_one, Int.reduceTMod, Int.reduceTDiv, Int.mul_zero, z32d, digs, u64C]
 repeat' (first | apply And.intro | intro _)
 refine hK47 _ ?_
 refine bn45 _ ?_
 refine hN44 _ ?_
 refine region_k fun K48 hK48 => ?_
 simp only [go_sem, Int.toNat_one, Int.reduceTMod, Int.reduceTDiv, Int.mul_zero, z32d, digs, u64C]
 repeat' (first | apply And.intro | intro _)
 refine hK48 _ ?_
 refine hN41 _ ?_
 refine rnd_forget [5, 6, 14, 15, 16, 17, 18, 19, 20, 21, 22, 23, 24, 25, 26, 27, 28, 29] ?_
 simp only [go_sem, St.forget, fgt]
 refine rnd_k fun N49 M49 hN49 hM49 => ?_
 refine sr_k fun K50 hK50 => ?_
 simp only [go_sem, Int.toNat_one, Int.reduceTMod, Int.reduceTDiv, Int.mul_zero, z32d, digs, u64C]
 repeat' (first | apply And.intro | intro _)
 refine hK50 _ ?_
 refine seq_k fun N51 M51 hN51 hM51 => ?_
 refine condT_k (by first | rfl | (simp [go_sem, Int.toNat_one, Int.reduceTMod, Int.reduceTDiv, Int.mul_zero, z32d, digs, u64C]; done)) ?_
 refine skip_k ?_
 refine hN51 _ ?_
 refine seq_k fun N52 M52 hN52 hM52 => ?_
 refine block_k fun B53 bn53 bx53 br53 bi53 => ?_
 refine sr_k fun K54 hK54 => ?_
 simp only [go_sem, Int.toNat_one, Int.reduceTMod, Int.reduceTDiv, Int.mul_zero, z32d, digs, u64C]
 repeat' (first | apply And.intro | intro _)
 refine hK54 _ ?_
 refine region_k fun K55 hK55 => ?_
 simp only [go_sem, Int.toNat_one, Int.reduceTMod, Int.reduceTDiv, Int.mul_zero, z32d, digs, u64C]
 repeat' (first | apply And.intro | intro _)
 refine hK55 _ ?_
 refine bn53 _ ?_
 refine hN52 _ ?_
 refine region_k fun K56 hK56 => ?_
 simp only [go_sem, Int.toNat_one, Int.reduceTMod, Int.reduceTDiv, Int.mul_zero, z32d, digs, u64C]
 repeat' (first | apply And.intro | intro _)
 refine hK56 _ ?_
 refine hN49 _ ?_
 refine rnd_forget [5, 6, 14, 15, 16, 17, 18, 19, 20, 21, 22, 23, 24, 25, 26, 27, 28, 29] ?_
 simp only [go_sem, St.forget, fgt]
 refine rnd_k fun N57 M57 hN57 hM57 => ?_
 refine sr_k fun K58 hK58 => ?_
 simp only [go_sem, Int.toNat_one, Int.reduceTMod, Int.reduceTDiv, Int.mul_zero, z32d, digs, u64C]
 repeat' (first | apply And.intro | intro _)
 refine hK58 _ ?_
 refine seq_k fun N59 M59 hN59 hM59 => ?_
 refine condT_k (by first | rfl | (simp [go_sem, Int.toNat_one, Int.reduceTMod, Int.reduceTDiv, Int.mul_zero, z32d, digs, u64C]; done)) ?_
 refine skip_k ?_
 refine hN59 _ ?_
 refine seq_k fun N60 M60 hN60 hM60 => ?_
 refine block_k fun B61 bn61 bx61 br61 bi61 => ?_
 refine sr_k fun K62 hK62 => ?_
 simp only [go_sem, Int.toNat_one, Int.reduceTMod, Int.reduceTDiv, Int.mul_zero, z32d, digs, u64C]
 repeat' (first | apply And.intro | intro _)
 refine hK62 _ ?_
 refine region_k fun K63 hK63 => ?_
 simp only [go_sem, Int.toNat_one, Int.reduceTMod, Int.reduceTDiv, Int.mul_zero, z32d, digs, u64C]
 repeat' (first | apply And.intro | intro _)
 refine hK63 _ ?_
 refine bn61 _ ?_
 refine hN60 _ ?_
 refine region_k fun K64 hK64 => ?_
 simp only [go_sem, Int.toNat_one, Int.reduceTMod, Int.reduceTDiv, Int.mul_zero, z32d, digs, u64C]
 repeat' (first | apply And.intro | intro _)
 refine hK64 _ ?_
 refine hN57 _ ?_
 refine rnd_forget [5, 6, 14, 15, 16, 17, 18, 19, 20, 21, 22, 23, 24, 25, 26, 27, 28, 29] ?_
 simp only [go_sem, St.forget, fgt]
 refine rnd_k fun N65 M65 hN65 hM65 => ?_
 refine sr_k fun K66 hK66 => ?_
 simp only [go_sem, Int.toNat_one, Int.reduceTMod, Int.reduceTDiv, Int.mul_zero, z32d, digs, u64C]
 repeat' (first | apply And.intro | intro _)
 refine hK66 _ ?_
 refine seq_k fun N67 M67 hN67 hM67 => ?_
 refine condT_k (by first | rfl | (simp [go_sem, Int.toNat_one, Int.reduceTMod, Int.reduceTDiv, Int.mul_zero, z32d, digs, u64C]; done)) ?_
 refine skip_k ?_
 refine hN67 _ ?_
 refine seq_k fun N68 M68 hN68 hM68 => ?_
 refine block_k fun B69 bn69 bx69 br69 bi69 => ?_
 refine sr_k fun K70 hK70 => ?_
 simp only [go_sem, Int.toNat_one, Int.reduceTMod, Int.reduceTDiv, Int.mul_zero, z32d, digs, u64C]
 repeat' (first | apply And.intro | intro _)
 refine hK70 _ ?_
 refine region_k fun K71 hK71 => ?_
 simp only [go_sem, Int.toNat_one, Int.reduceTMod, Int.reduceTDiv, Int.mul_zero, z32d, digs, u64C]
 repeat' (first | apply And.intro | intro _)
 refine hK71 _ ?_
 refine bn69 _ ?_
 refine hN68 _ ?_
 refine region_k fun K72 hK72 => ?_
 simp only [go_sem, Int.toNat_one, Int.reduceTMod, Int.reduceTDiv, Int.mul_zero, z32d, digs, u64C]
 repeat' (first | apply And.intro | intro _)
 refine hK72 _ ?_
 refine hN65 _ ?_
 refine rnd_forget [5, 6, 14, 15, 16, 17, 18, 19, 20, 21, 22, 23, 24, 25, 26, 27, 28, 29] ?_
 simp only [go_sem, St.forget, fgt]
 refine rnd_k fun N73 M73 hN73 hM73 => ?_
 refine sr_k fun K74 hK74 => ?_
 simp only [go_sem, Int.toNat_one, Int.reduceTMod, Int.reduceTDiv, Int.mul_zero, z32d, digs, u64C]
 repeat' (first | apply And.intro | intro _)
 refine hK74 _ ?_
 refine seq_k fun N75 M75 hN75 hM75 => ?_
 refine condT_k (by first | rfl | (simp [go_sem, Int.toNat_one, Int.reduceTMod, Int.reduceTDiv, Int.mul_zero, z32d, digs, u64C]; done)) ?_
 refine skip_k ?_
 refine hN75 _ ?_
 refine seq_k fun N76 M76 hN76 hM76 => ?_
 refine block_k fun B77 bn77 bx77 br77 bi77 => ?_
 refine sr_k fun K78 hK78 => ?_
 simp only [go_sem, Int.toNat_one, Int.reduceTMod, Int.reduceTDiv, Int.mul_zero, z32d, digs, u64C]
 repeat' (first | apply And.intro | intro _)
 refine hK78 _ ?_
 refine region_k fun K79 hK79 => ?_
 simp only [go_sem, Int.toNat_one, Int.reduceTMod, Int.reduceTDiv, Int.mul_zero, z32d, digs, u64C]
 repeat' (first | apply And.intro | intro _)
 refine hK79 _ ?_
 refine bn77 _ ?_
 refine hN76 _ ?_
 refine region_k fun K80 hK80 => ?_
 simp only [go_sem, Int.toNat_one, Int.reduceTMod, Int.reduceTDiv, Int.mul_zero, z32d, digs, u64C]
 repeat' (first | apply And.intro | intro _)
 refine hK80 _ ?_
 refine hN73 _ ?_
 refine rnd_forget [5, 6, 14, 15, 16, 17, 18, 19, 20, 21, 22, 23, 24, 25, 26, 27, 28, 29] ?_
 simp only [go_sem, St.forget, fgt]
 refine rnd_k fun N81 M81 hN81 hM81 => ?_
 refine sr_k fun K82 hK82 => ?_
 simp only [go_sem, Int.toNat_one, Int.reduceTMod, Int.reduceTDiv, Int.mul_zero, z32d, digs, u64C]
 repeat' (first | apply And.intro | intro _)
 refine hK82 _ ?_
 refine seq_k fun N83 M83 hN83 hM83 => ?_
 refine condT_k (by first | rfl | (simp [go_sem, Int.toNat_one, Int.reduceTMod, Int.reduceTDiv, Int.mul_zero, z32d, digs, u64C]; done)) ?_
 refine skip_k ?_
 refine hN83 _ ?_
 refine seq_k fun N84 M84 hN84 hM84 => ?_
 refine block_k fun B85 bn85 bx85 br85 bi85 => ?_
 refine sr_k fun K86 hK86 => ?_
 simp only [go_sem, Int.toNat_one, Int.reduceTMod, Int.reduceTDiv, Int.mul_zero, z32d, digs, u64C]
 repeat' (first | apply And.intro | intro _)
 refine hK86 _ ?_
 refine region_k fun K87 hK87 => ?_
 simp only [go_sem, Int.toNat_one, Int.reduceTMod, Int.reduceTDiv, Int.mul_zero, z32d, digs, u64C]
 repeat' (first | apply And.intro | intro _)
 refine hK87 _ ?_
 refine bn85 _ ?_
 refine hN84 _ ?_
 refine region_k fun K88 hK88 => ?_
 simp only [go_sem, Int.toNat_one, Int.reduceTMod, Int.reduceTDiv, Int.mul_zero, z32d, digs, u64C]
 repeat' (first | apply And.intro | intro _)
 refine hK88 _ ?_
 refine hN81 _ ?_
 refine rnd_forget [5, 6, 14, 15, 16, 17, 18, 19, 20, 21, 22, 23, 24, 25, 26, 27, 28, 29] ?_
 simp only [go_sem, St.forget, fgt]
 refine rnd_k fun N89 M89 hN89 hM89 => ?_
 refine sr_k fun K90 hK90 => ?_
 simp only [go_sem, Int.toNat_one, Int.reduceTMod, Int.reduceTDiv, Int.mul_zero, z32d, digs, u64C]
 repeat' (first | apply And.intro | intro _)
 refine hK90 _ ?_
 refine seq_k fun N91 M91 hN91 hM91 => ?_
 refine condT_k (by first | rfl | (simp [go_sem, Int.toNat_one, Int.reduceTMod, Int.reduceTDiv, Int.mul_zero, z32d, digs, u64C]; done)) ?_
 refine skip_k ?_
 refine hN91 _ ?_
 refine seq_k fun N92 M92 hN92 hM92 => ?_
 refine block_k fun B93 bn93 bx93 br93 bi93 => ?_
 refine sr_k fun K94 hK94 => ?_
 simp only [go_sem, Int.toNat_one, Int.reduceTMod, Int.reduceTDiv, Int.mul_zero, z32d, digs, u64C]
 repeat' (first | apply And.intro | intro _)
 refine hK94 _ ?_
 refine region_k fun K95 hK95 => ?_
 simp only [go_sem, Int.toNat_one, Int.reduceTMod, Int.reduceTDiv, Int.mul_zero, z32d, digs, u64C]
 repeat' (first | apply And.intro | intro _)
 refine hK95 _ ?_
 refine bn93 _ ?_
 refine hN92 _ ?_
 refine region_k fun K96 hK96 => ?_
 simp only [go_sem, Int.toNat_one, Int.reduceTMod, Int.reduceTDiv, Int.mul_zero, z32d, digs, u64C]
 repeat' (first | apply And.intro | intro _)
 refine hK96 _ ?_
 refine hN89 _ ?_
 refine rnd_forget [5, 6, 14, 15, 16, 17, 18, 19, 20, 21, 22, 23, 24, 25, 26, 27, 28, 29] ?_
 simp only [go_sem, St.forget, fgt]
 refine rnd_k fun N97 M97 hN97 hM97 => ?_
 refine sr_k fun K98 hK98 => ?_
 simp only [go_sem, Int.toNat_one, Int.reduceTMod, Int.reduceTDiv, Int.mul_zero, z32d, digs, u64C]
 repeat' (first | apply And.intro | intro _)
 refine hK98 _ ?_
 refine seq_k fun N99 M99 hN99 hM99 => ?_
 refine condT_k (by first | rfl | (simp [go_sem, Int.toNat_one, Int.reduceTMod, Int.reduceTDiv, Int.mul_zero, z32d, digs, u64C]; done)) ?_
 refine skip_k ?_
 refine hN99 _ ?_
 refine seq_k fun N100 M100 hN100 hM100 => ?_
 refine block_k fun B101 bn101 bx101 br101 bi101 => ?_
 refine sr_k fun K102 hK102 => ?_
 simp only [go_sem, Int.toNat_one, Int.reduceTMod, Int.reduceTDiv, Int.mul_zero, z32d, digs, u64C]
 repeat' (first | apply And.intro | intro _)
 refine hK102 _ ?_
 refine region_k fun K103 hK103 => ?_
 simp only [go_sem, Int.toNat_one, Int.reduceTMod, Int.reduceTDiv, Int.mul_zero, z32d, digs, u64C]
 repeat' (first | apply And.intro | intro _)
 refine hK103 _ ?_
 refine bn101 _ ?_
 refine hN100 _ ?_
 refine region_k fun K104 hK104 => ?_
 simp only [go_sem, Int.toNat_one, Int.reduceTMod, Int.reduceTDiv, Int.mul_zero, z32d, digs, u64C]
 repeat' (first | apply And.intro | intro _)
 refine hK104 _ ?_
 refine hN97 _ ?_
 refine rnd_forget [5, 6, 14, 15, 16, 17, 18, 19, 20, 21, 22, 23, 24, 25, 26, 27, 28, 29] ?_
 simp only [go_sem, St.forget, fgt]
 refine rnd_k fun N105 M105 hN105 hM105 => ?_
 refine sr_k fun K106 hK106 => ?_
 simp only [go_sem, Int.toNat_one, Int.reduceTMod, Int.reduceTDiv, Int.mul_zero, z32d, digs, u64C]
 repeat' (first | apply And.intro | intro _)
 refine hK106 _ ?_
 refine seq_k fun N107 M107 hN107 hM107 => ?_
 refine condT_k (by first | rfl | (simp [go_sem, Int.toNat_one, Int.reduceTMod, Int.reduceTDiv, Int.mul_zero, z32d, digs, u64C]; done)) ?_
 refine skip_k ?_
 refine hN107 _ ?_
 refine seq_k fun N108 M108 hN108 hM108 => ?_
 refine block_k fun B109 bn109 bx109 br109 bi109 => ?_
 refine sr_k fun K110 hK110 => ?_
 simp only [go_sem, Int.toNat_one, Int.reduceTMod, Int.reduceTDiv, Int.mul_zero, z32d, digs, u64C]
 repeat' (first | apply And.intro | intro _)
 refine hK110 _ ?_
 refine region_k fun K111 hK111 => ?_
 simp only [go_sem, Int.toNat_one, Int.reduceTMod, Int.reduceTDiv, Int.mul_zero, z32d, digs, u64C]
 repeat' (first | apply And.intro | intro _)
 refine hK111 _ ?_
 refine bn109 _ ?_
 refine hN108 _ ?_
 refine region_k fun K112 hK112 => ?_
 simp only [go_sem, Int.toNat_one, Int.reduceTMod, Int.reduceTDiv, Int.mul_zero, z32d, digs, u64C]
 repeat' (first | apply And.intro | intro _)
 refine hK112 _ ?_
 refine hN105 _ ?_
 refine rnd_forget [5, 6, 14, 15, 16, 17, 18, 19, 20, 21, 22, 23, 24, 25, 26, 27, 28, 29] ?_
 simp only [go_sem, St.forget, fgt]
 refine rnd_k fun N113 M113 hN113 hM113 => ?_
 refine sr_k fun K114 hK114 => ?_
 simp only [go_sem, Int.toNat_one, Int.reduceTMod, Int.reduceTDiv, Int.mul_zero, z32d, digs, u64C]
 repeat' (first | apply And.intro | intro _)
 refine hK114 _ ?_
 refine seq_k fun N115 M115 hN115 hM115 => ?_
 refine condT_k (by first | rfl | (simp [go_sem, Int.toNat_one, Int.reduceTMod, Int.reduceTDiv, Int.mul_zero, z32d, digs, u64C]; done)) ?_
 refine skip_k ?_
 refine hN115 _ ?_
 refine seq_k fun N116 M116 hN116 hM116 => ?_
 refine block_k fun B117 bn117 bx117 br117 bi117 => ?_
 refine sr_k fun K118 hK118 => ?_
 simp only [go_sem, Int.toNat_one, Int.reduceTMod, Int.reduceTDiv, Int.mul_zero, z32d, digs, u64C]
 repeat' (first | apply And.intro | intro _)
 refine hK118 _ ?_
 refine region_k fun K119 hK119 => ?_
 simp only [go_sem, Int.toNat_one, Int.reduceTMod, Int.reduceTDiv, Int.mul_zero, z32d, digs, u64C]
 repeat' (first | apply And.intro | intro _)
 refine hK119 _ ?_
 refine bn117 _ ?_
 refine hN116 _ ?_
 refine region_k fun K120 hK120 => ?_
 simp only [go_sem, Int.toNat_one, Int.reduceTMod, Int.reduceTDiv, Int.mul_zero, z32d, digs, u64C]
 repeat' (first | apply And.intro | intro _)
 refine hK120 _ ?_
 refine hN113 _ ?_
 refine rnd_forget [5, 6, 14, 15, 16, 17, 18, 19, 20, 21, 22, 23, 24, 25, 26, 27, 28, 29] ?_
 simp only [go_sem, St.forget, fgt]
 refine rnd_k fun N121 M121 hN121 hM121 => ?_
 refine sr_k fun K122 hK122 => ?_
 simp only [go_sem, Int.toNat_one, Int.reduceTMod, Int.reduceTDiv, Int.mul_zero, z32d, digs, u64C]
 repeat' (first | apply And.intro | intro _)
 refine hK122 _ ?_
 refine seq_k fun N123 M123 hN123 hM123 => ?_
 refine condT_k (by first | rfl | (simp [go_sem, Int.toNat_one, Int.reduceTMod, Int.reduceTDiv, Int.mul_zero, z32d, digs, u64C]; done)) ?_
 refine skip_k ?_
 refine hN123 _ ?_
 refine seq_k fun N124 M124 hN124 hM124 => ?_
 refine block_k fun B125 bn125 bx125 br125 bi125 => ?_
 refine sr_k fun K126 hK126 => ?_
 simp only [go_sem, Int.toNat_one, Int.reduceTMod, Int.reduceTDiv, Int.mul_zero, z32d, digs, u64C]
 repeat' (first | apply And.intro | intro _)
 refine hK126 _ ?_
 refine region_k fun K127 hK127 => ?_
 simp only [go_sem, Int.toNat_one, Int.reduceTMod, Int.reduceTDiv, Int.mul_zero, z32d, digs, u64C]
 repeat' (first | apply And.intro | intro _)
 refine hK127 _ ?_
 refine bn125 _ ?_
 refine hN124 _ ?_
 refine region_k fun K128 hK128 => ?_
 simp only [go_sem, Int.toNat_one, Int.reduceTMod, Int.reduceTDiv, Int.mul_zero, z32d, digs, u64C]
 repeat' (first | apply And.intro | intro _)
 refine hK128 _ ?_
 refine hN121 _ ?_
 refine rnd_forget [5, 6, 14, 15, 16, 17, 18, 19, 20, 21, 22, 23, 24, 25, 26, 27, 28, 29] ?_
 simp only [go_sem, St.forget, fgt]
 refine rnd_k fun N129 M129 hN129 hM129 => ?_
 refine sr_k fun K130 hK130 => ?_
 simp only [go_sem, Int.toNat_one, Int.reduceTMod, Int.reduceTDiv, Int.mul_zero, z32d, digs, u64C]
 repeat' (first | apply And.intro | intro _)
 refine hK130 _ ?_
 refine seq_k fun N131 M131 hN131 hM131 => ?_
 refine condT_k (by first | rfl | (simp [go_sem, Int.toNat_one, Int.reduceTMod, Int.reduceTDiv, Int.mul_zero, z32d, digs, u64C]; done)) ?_
 refine skip_k ?_
 refine hN131 _ ?_
 refine seq_k fun N132 M132 hN132 hM132 => ?_
 refine block_k fun B133 bn133 bx133 br133 bi133 => ?_
 refine sr_k fun K134 hK134 => ?_
 simp only [go_sem, Int.toNat_one, Int.reduceTMod, Int.reduceTDiv, Int.mul_zero, z32d, digs, u64C]
 repeat' (first | apply And.intro | intro _)
 refine hK134 _ ?_
 refine region_k fun K135 hK135 => ?_
 simp only [go_sem, Int.toNat_one, Int.reduceTMod, Int.reduceTDiv, Int.mul_zero, z32d, digs, u64C]
 repeat' (first | apply And.intro | intro _)
 refine hK135 _ ?_
 refine bn133 _ ?_
 refine hN132 _ ?_
 refine region_k fun K136 hK136 => ?_
 simp only [go_sem, Int.toNat_one, Int.reduceTMod, Int.reduceTDiv, Int.mul_zero, z32d, digs, u64C]
 repeat' (first | apply And.intro | intro _)
 refine hK136 _ ?_
 refine hN129 _ ?_
 refine rnd_forget [5, 6, 14, 15, 16, 17, 18, 19, 20, 21, 22, 23, 24, 25, 26, 27, 28, 29] ?_
 simp only [go_sem, St.forget, fgt]
 refine rnd_k fun N137 M137 hN137 hM137 => ?_
 refine sr_k fun K138 hK138 => ?_
 simp only [go_sem, Int.toNat_one, Int.reduceTMod, Int.reduceTDiv, Int.mul_zero, z32d, digs, u64C]
 repeat' (first | apply And.intro | intro _)
 refine hK138 _ ?_
 refine seq_k fun N139 M139 hN139 hM139 => ?_
 refine condF_k (by first | rfl | (simp [go_sem, Int.toNat_one, Int.reduceTMod, Int.reduceTDiv, Int.mul_zero, z32d, digs, u64C]; done)) ?_
 refine exit_k ?_
 refine hM139 _ _ ?_
 refine hM137 _ _ ?_
 refine bx7 _ ?_
 refine hN5 _ ?_
 refine sr_k fun K140 hK140 => ?_
 simp only [go_sem, Int.toNat_one, Int.reduceTMod, Int.reduceTDiv, Int.mul_zero, z32d, digs, u64C]
 repeat' (first | apply And.intro | intro _)
 refine hK140 _ ?_
 refine ret_k ?_
 simp only [go_sem, Int.toNat_one, Int.reduceTMod, Int.reduceTDiv, Int.mul_zero, z32d, digs, u64C]
 all_goals (exact told_plain (by simp [plainV, plainW, bytesC, by4, byW]) ⟨by simp only [q_lo, q_hi]; rfl, rfl⟩)
end Go.Sy

