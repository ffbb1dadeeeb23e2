/- Walks: five parts and five parts. -/
import Derived.Test.YthcpkdhojokhdaaveE7
set_option linter.unusedVariables false
set_option linter.unusedSimpArgs false
namespace Go.Sy
open Go.Proofs
attribute [local irreducible] atCall HT runOps runD onC onE onO onG goV goA goS onSt onGuard
theorem ic0 : ((0 : Nat) : Int) = 0 := rfl
theorem ic1 : ((1 : Nat) : Int) = 1 := rfl
theorem ic2 : ((2 : Nat) : Int) = 2 := rfl
theorem ic3 : ((3 : Nat) : Int) = 3 := rfl
theorem ic4 : ((4 : Nat) : Int) = 4 := rfl
theorem ic5 : ((5 : Nat) : Int) = 5 := rfl
def mulN (p r : P5) : Nat → List L
 | 0 => [.pl (.u64 (0)), .pl (.u64 (0)), .pl (.u64 (0)), .pl (.u64 (0)), .pl (.u64 (0))]
 | 1 => [.pl (.u64 (0 + p.a * r.a)), .pl (.u64 (0 + p.a * r.b)), .pl (.u64 (0 + p.a * r.c)), .pl (.u64 (0 + p.a * r.d)), .pl (.u64 (0 + p.a * r.e))]
 | 2 => [.pl (.u64 (0 + p.a * r.a + p.b * r.e * 5)), .pl (.u64 (0 + p.a * r.b + p.b * r.a)), .pl (.u64 (0 + p.a * r.c + p.b * r.b)), .pl (.u64 (0 + p.a * r.d + p.b * r.c)), .pl (.u64 (0 + p.a * r.e + p.b * r.d))]
 | 3 => [.pl (.u64 (0 + p.a * r.a + p.b * r.e * 5 + p.c * r.d * 5)), .pl (.u64 (0 + p.a * r.b + p.b * r.a + p.c * r.e * 5)), .pl (.u64 (0 + p.a * r.c + p.b * r.b + p.c * r.a)), .pl (.u64 (0 + p.a * r.d + p.b * r.c + p.c * r.b)), .pl (.u64 (0 + p.a * r.e + p.b * r.d + p.c * r.c))]
 | 4 => [.pl (.u64 (0 + p.a * r.a + p.b * r.e * 5 + p.c * r.d * 5 + p.d * r.c * 5)), .pl (.u64 (0 + p.a * r.b + p.b * r.a + p.c * r.e * 5 + p.d * r.d * 5)), .pl (.u64 (0 + p.a * r.c + p.b * r.b + p.c * r.a + p.d * r.e * 5)), .pl (.u64 (0 + p.a * r.d + p.b * r.c + p.c * r.b + p.d * r.a)), .pl (.u64 (0 + p.a * r.e + p.b * r.d + p.c * r.c + p.d * r.b))]
 | _ => (mul5 p r).ls
set_option maxHeartbeats 3200000 in
set_option maxRecDepth 100000 in
theorem ptimes_ (p r : P5) :
 Ct Try.prog 63 [.w (.agg [.pl (.u64 p.a), .pl (.u64 p.b), .pl (.u64 p.c), .pl (.u64 p.d), .pl (.u64 p.e)]), .w (.agg [.pl (.u64 r.a), .pl (.u64 r.b), .pl (.u64 r.c), .pl (.u64 r.d), .pl (.u64 r.e)])] (fun v m => v = .w (.agg (mul5 p r).carried.ls)) := by
 refine Ct.k Try.func63 rfl Try.ntmps63 (congrArg Array.toList Try.results63) (by simp) fun w0 ro => ?_
 refine sr_k fun K1 hK1 => ?_
 simp only [go_sem, P5.ls, ic0, ic1, ic2, ic3, ic4, ic5, Int.reduceMod, Int.reduceTMod, Int.toNat_one]
 all_goals repeat' (first | apply And.intro | intro _)
 refine hK1 _ ?_
 refine sr_k fun K2 hK2 => ?_
 simp only [go_sem, P5.ls, ic0, ic1, ic2, ic3, ic4, ic5, Int.reduceMod, Int.reduceTMod, Int.toNat_one]
 all_goals repeat' (first | apply And.intro | intro _)
 refine hK2 _ ?_
 refine seq_k fun N3 M3 hN3 hM3 => ?_
 refine sr_k fun K4 hK4 => ?_
 simp only [go_sem, P5.ls, ic0, ic1, ic2, ic3, ic4, ic5, Int.reduceMod, Int.reduceTMod, Int.toNat_one]
 all_goals repeat' (first | apply And.intro | intro _)
 refine hK4 _ ?_
 refine block_k fun B5 bn5 bx5 br5 bi5 => ?_
 refine ht_dropE [0, 1, 2] ?_
 simp only [dropE_mk, fgt_nil, fgt_cons, List.contains_cons, List.contains_nil, Nat.reduceBEq, beq_self_eq_true, Bool.or_false, Bool.or_true, Bool.true_or, Bool.false_or, Bool.false_eq_true, reduceIte]
 refine loop_k (fun y => [(12, .w (.one (.pl (.i ((y.1 : Nat) : Int)))))]) (fun y => [(5, ⟨false, mulN p r y.1⟩)]) (fun y => 5 - y.1) (⟨0, by omega⟩ : {y : Nat // y ≤ 5}) ?_ ?_ ?_
 · (simp only [go_sem, leX, List.cons_append, List.nil_append]; try simp)
 · (simp only [mulN, go_sem, leX, List.cons_append, List.nil_append]; try simp [mulN, leX, look])
 intro yy N6 M6 hN6 hM6
 simp only [List.cons_append, List.nil_append]
 obtain ⟨y, hy⟩ := yy
 have hd : y = 0 ∨ y = 1 ∨ y = 2 ∨ y = 3 ∨ y = 4 ∨ y = 5 := by omega
 rcases hd with rfl | rfl | rfl | rfl | rfl | rfl
 · simp only [mulN]
   refine sr_k fun K7 hK7 => ?_
   simp only [go_sem, P5.ls, ic0, ic1, ic2, ic3, ic4, ic5, Int.reduceMod, Int.reduceTMod, Int.toNat_one]
   all_goals repeat' (first | apply And.intro | intro _)
   refine hK7 _ ?_
   refine seq_k fun N8 M8 hN8 hM8 => ?_
   refine condT_k (by first | rfl | (simp [go_sem, P5.ls, ic0, ic1, ic2, ic3, ic4, ic5, Int.reduceMod, Int.reduceTMod, Int.toNat_one]; done)) ?_
   refine skip_k ?_
   refine hN8 _ ?_
   refine seq_k fun N9 M9 hN9 hM9 => ?_
   refine block_k fun B10 bn10 bx10 br10 bi10 => ?_
   refine sr_k fun K11 hK11 => ?_
   simp only [go_sem, P5.ls, ic0, ic1, ic2, ic3, ic4, ic5, Int.reduceMod, Int.reduceTMod, Int.toNat_one]
   all_goals repeat' (first | apply And.intro | intro _)
   refine hK11 _ ?_
   refine sr_k fun K12 hK12 => ?_
   simp only [go_sem, P5.ls, ic0, ic1, ic2, ic3, ic4, ic5, Int.reduceMod, Int.reduceTMod, Int.toNat_one]
   all_goals repeat' (first | apply And.intro | intro _)
   refine hK12 _ ?_
   refine block_k fun B13 bn13 bx13 br13 bi13 => ?_
   refine rounds_k 6 ?_
   refine rnd_k fun N15 M15 hN15 hM15 => ?_
   refine sr_k fun K16 hK16 => ?_
   simp only [go_sem, P5.ls, ic0, ic1, ic2, ic3, ic4, ic5, Int.reduceMod, Int.reduceTMod, Int.toNat_one]
   all_goals repeat' (first | apply And.intro | intro _)
   refine hK16 _ ?_
   refine seq_k fun N17 M17 hN17 hM17 => ?_
   refine condT_k (by first | rfl | (simp [go_sem, P5.ls, ic0, ic1, ic2, ic3, ic4, ic5, Int.reduceMod, Int.reduceTMod, Int.toNat_one]; done)) ?_
   refine skip_k ?_
   refine hN17 _ ?_
   refine seq_k fun N18 M18 hN18 hM18 => ?_
   refine block_k fun B19 bn19 bx19 br19 bi19 => ?_
   refine sr_k fun K20 hK20 => ?_
   simp only [go_sem, P5.ls, ic0, ic1, ic2, ic3, ic4, ic5, Int.reduceMod, Int.reduceTMod, Int.toNat_one]
   all_goals repeat' (first | apply And.intro | intro _)
   refine hK20 _ ?_
   refine sr_k fun K21 hK21 => ?_
   simp only [go_sem, P5.ls, ic0, ic1, ic2, ic3, ic4, ic5, Int.reduceMod, Int.reduceTMod, Int.toNat_one]
   all_goals repeat' (first | apply And.intro | intro _)
   refine hK21 _ ?_
   refine seq_k fun N22 M22 hN22 hM22 => ?_
   refine sr_k fun K23 hK23 => ?_
   simp only [go_sem, P5.ls, ic0, ic1, ic2, ic3, ic4, ic5, Int.reduceMod, Int.reduceTMod, Int.toNat_one]
   all_goals repeat' (first | apply And.intro | intro _)
   refine hK23 _ ?_
   refine condF_k (by first | rfl | (simp [go_sem, P5.ls, ic0, ic1, ic2, ic3, ic4, ic5, Int.reduceMod, Int.reduceTMod, Int.toNat_one]; done)) ?_
   refine skip_k ?_
   refine hN22 _ ?_
   refine region_k fun K24 hK24 => ?_
   simp only [go_sem, P5.ls, ic0, ic1, ic2, ic3, ic4, ic5, Int.reduceMod, Int.reduceTMod, Int.toNat_one]
   all_goals repeat' (first | apply And.intro | intro _)
   refine hK24 _ ?_
   refine bn19 _ ?_
   refine hN18 _ ?_
   refine region_k fun K25 hK25 => ?_
   simp only [go_sem, P5.ls, ic0, ic1, ic2, ic3, ic4, ic5, Int.reduceMod, Int.reduceTMod, Int.toNat_one]
   all_goals repeat' (first | apply And.intro | intro _)
   refine hK25 _ ?_
   refine hN15 _ ?_
   refine rnd_forget [8, 9, 10, 18, 19, 20, 21, 22, 23, 24, 25, 26, 27, 28, 29, 30, 31, 32, 33, 34, 35, 36, 37, 38, 39] ?_
   simp only [go_sem, St.forget, fgt]
   refine rnd_k fun N26 M26 hN26 hM26 => ?_
   refine sr_k fun K27 hK27 => ?_
   simp only [go_sem, P5.ls, ic0, ic1, ic2, ic3, ic4, ic5, Int.reduceMod, Int.reduceTMod, Int.toNat_one]
   all_goals repeat' (first | apply And.intro | intro _)
   refine hK27 _ ?_
   refine seq_k fun N28 M28 hN28 hM28 => ?_
   refine condT_k (by first | rfl | (simp [go_sem, P5.ls, ic0, ic1, ic2, ic3, ic4, ic5, Int.reduceMod, Int.reduceTMod, Int.toNat_one]; done)) ?_
   refine skip_k ?_
   refine hN28 _ ?_
   refine seq_k fun N29 M29 hN29 hM29 => ?_
   refine block_k fun B30 bn30 bx30 br30 bi30 => ?_
   refine sr_k fun K31 hK31 => ?_
   simp only [go_sem, P5.ls, ic0, ic1, ic2, ic3, ic4, ic5, Int.reduceMod, Int.reduceTMod, Int.toNat_one]
   all_goals repeat' (first | apply And.intro | intro _)
   refine hK31 _ ?_
   refine sr_k fun K32 hK32 => ?_
   simp only [go_sem, P5.ls, ic0, ic1, ic2, ic3, ic4, ic5, Int.reduceMod, Int.reduceTMod, Int.toNat_one]
   all_goals repeat' (first | apply And.intro | intro _)
   refine hK32 _ ?_
   refine seq_k fun N33 M33 hN33 hM33 => ?_
   refine sr_k fun K34 hK34 => ?_
   simp only [go_sem, P5.ls, ic0, ic1, ic2, ic3, ic4, ic5, Int.reduceMod, Int.reduceTMod, Int.toNat_one]
   all_goals repeat' (first | apply And.intro | intro _)
   refine hK34 _ ?_
   refine condF_k (by first | rfl | (simp [go_sem, P5.ls, ic0, ic1, ic2, ic3, ic4, ic5, Int.reduceMod, Int.reduceTMod, Int.toNat_one]; done)) ?_
   refine skip_k ?_
   refine hN33 _ ?_
   refine region_k fun K35 hK35 => ?_
   simp only [go_sem, P5.ls, ic0, ic1, ic2, ic3, ic4, ic5, Int.reduceMod, Int.reduceTMod, Int.toNat_one]
   all_goals repeat' (first | apply And.intro | intro _)
   refine hK35 _ ?_
   refine bn30 _ ?_
   refine hN29 _ ?_
   refine region_k fun K36 hK36 => ?_
   simp only [go_sem, P5.ls, ic0, ic1, ic2, ic3, ic4, ic5, Int.reduceMod, Int.reduceTMod, Int.toNat_one]
   all_goals repeat' (first | apply And.intro | intro _)
   refine hK36 _ ?_
   refine hN26 _ ?_
   refine rnd_forget [8, 9, 10, 18, 19, 20, 21, 22, 23, 24, 25, 26, 27, 28, 29, 30, 31, 32, 33, 34, 35, 36, 37, 38, 39] ?_
   simp only [go_sem, St.forget, fgt]
   refine rnd_k fun N37 M37 hN37 hM37 => ?_
   refine sr_k fun K38 hK38 => ?_
   simp only [go_sem, P5.ls, ic0, ic1, ic2, ic3, ic4, ic5, Int.reduceMod, Int.reduceTMod, Int.toNat_one]
   all_goals repeat' (first | apply And.intro | intro _)
   refine hK38 _ ?_
   refine seq_k fun N39 M39 hN39 hM39 => ?_
   refine condT_k (by first | rfl | (simp [go_sem, P5.ls, ic0, ic1, ic2, ic3, ic4, ic5, Int.reduceMod, Int.reduceTMod, Int.toNat_one]; done)) ?_
   refine skip_k ?_
   refine hN39 _ ?_
   refine seq_k fun N40 M40 hN40 hM40 => ?_
   refine block_k fun B41 bn41 bx41 br41 bi41 => ?_
   refine sr_k fun K42 hK42 => ?_
   simp only [go_sem, P5.ls, ic0, ic1, ic2, ic3, ic4, ic5, Int.reduceMod, Int.reduceTMod, Int.toNat_one]
   all_goals repeat' (first | apply And.intro | intro _)
   refine hK42 _ ?_
   refine sr_k fun K43 hK43 => ?_
   simp only [go_sem, P5.ls, ic0, ic1, ic2, ic3, ic4, ic5, Int.reduceMod, Int.reduceTMod, Int.toNat_one]
   all_goals repeat' (first | apply And.intro | intro _)
   refine hK43 _ ?_
   refine seq_k fun N44 M44 hN44 hM44 => ?_
   refine sr_k fun K45 hK45 => ?_
   simp only [go_sem, P5.ls, ic0, ic1, ic2, ic3, ic4, ic5, Int.reduceMod, Int.reduceTMod, Int.toNat_one]
   all_goals repeat' (first | apply And.intro | intro _)
   refine hK45 _ ?_
   refine condF_k (by first | rfl | (simp [go_sem, P5.ls, ic0, ic1, ic2, ic3, ic4, ic5, Int.reduceMod, Int.reduceTMod, Int.toNat_one]; done)) ?_
   refine skip_k ?_
   refine hN44 _ ?_
   refine region_k fun K46 hK46 => ?_
   simp only [go_sem, P5.ls, ic0, ic1, ic2, ic3, ic4, ic5, Int.reduceMod, Int.reduceTMod, Int.toNat_one]
   all_goals repeat' (first | apply And.intro | intro _)
   refine hK46 _ ?_
   refine bn41 _ ?_
   refine hN40 _ ?_
   refine region_k fun K47 hK47 => ?_
   simp only [go_sem, P5.ls, ic0, ic1, ic2, ic3, ic4, ic5, Int.reduceMod, Int.reduceTMod, Int.toNat_one]
   all_goals repeat' (first | apply And.intro | intro _)
   refine hK47 _ ?_
   refine hN37 _ ?_
   refine rnd_forget [8, 9, 10, 18, 19, 20, 21, 22, 23, 24, 25, 26, 27, 28, 29, 30, 31, 32, 33, 34, 35, 36, 37, 38, 39] ?_
   simp only [go_sem, St.forget, fgt]
   refine rnd_k fun N48 M48 hN48 hM48 => ?_
   refine sr_k fun K49 hK49 => ?_
   simp only [go_sem, P5.ls, ic0, ic1, ic2, ic3, ic4, ic5, Int.reduceMod, Int.reduceTMod, Int.toNat_one]
   all_goals repeat' (first | apply And.intro | intro _)
   refine hK49 _ ?_
   refine seq_k fun N50 M50 hN50 hM50 => ?_
   refine condT_k (by first | rfl | (simp [go_sem, P5.ls, ic0, ic1, ic2, ic3, ic4, ic5, Int.reduceMod, Int.reduceTMod, Int.toNat_one]; done)) ?_
   refine skip_k ?_
   refine hN50 _ ?_
   refine seq_k fun N51 M51 hN51 hM51 => ?_
   refine block_k fun B52 bn52 bx52 br52 bi52 => ?_
   refine sr_k fun K53 hK53 => ?_
   simp only [go_sem, P5.ls, ic0, ic1, ic2, ic3, ic4, ic5, Int.reduceMod, Int.reduceTMod, Int.toNat_one]
   all_goals repeat' (first | apply And.intro | intro _)
   refine hK53 _ ?_
   refine sr_k fun K54 hK54 => ?_
   simp only [go_sem, P5.ls, ic0, ic1, ic2, ic3, ic4, ic5, Int.reduceMod, Int.reduceTMod, Int.toNat_one]
   all_goals repeat' (first | apply And.intro | intro _)
   refine hK54 _ ?_
   refine seq_k fun N55 M55 hN55 hM55 => ?_
   refine sr_k fun K56 hK56 => ?_
   simp only [go_sem, P5.ls, ic0, ic1, ic2, ic3, ic4, ic5, Int.reduceMod, Int.reduceTMod, Int.toNat_one]
   all_goals repeat' (first | apply And.intro | intro _)
   refine hK56 _ ?_
   refine condF_k (by first | rfl | (simp [go_sem, P5.ls, ic0, ic1, ic2, ic3, ic4, ic5, Int.reduceMod, Int.reduceTMod, Int.toNat_one]; done)) ?_
   refine skip_k ?_
   refine hN55 _ ?_
   refine region_k fun K57 hK57 => ?_
   simp only [go_sem, P5.ls, ic0, ic1, ic2, ic3, ic4, ic5, Int.reduceMod, Int.reduceTMod, Int.toNat_one]
   all_goals repeat' (first | apply And.intro | intro _)
   refine hK57 _ ?_
   refine bn52 _ ?_
   refine hN51 _ ?_
   refine region_k fun K58 hK58 => ?_
   simp only [go_sem, P5.ls, ic0, ic1, ic2, ic3, ic4, ic5, Int.reduceMod, Int.reduceTMod, Int.toNat_one]
   all_goals repeat' (first | apply And.intro | intro _)
   refine hK58 _ ?_
   refine hN48 _ ?_
   refine rnd_forget [8, 9, 10, 18, 19, 20, 21, 22, 23, 24, 25, 26, 27, 28, 29, 30, 31, 32, 33, 34, 35, 36, 37, 38, 39] ?_
   simp only [go_sem, St.forget, fgt]
   refine rnd_k fun N59 M59 hN59 hM59 => ?_
   refine sr_k fun K60 hK60 => ?_
   simp only [go_sem, P5.ls, ic0, ic1, ic2, ic3, ic4, ic5, Int.reduceMod, Int.reduceTMod, Int.toNat_one]
   all_goals repeat' (first | apply And.intro | intro _)
   refine hK60 _ ?_
   refine seq_k fun N61 M61 hN61 hM61 => ?_
   refine condT_k (by first | rfl | (simp [go_sem, P5.ls, ic0, ic1, ic2, ic3, ic4, ic5, Int.reduceMod, Int.reduceTMod, Int.toNat_one]; done)) ?_
   refine skip_k ?_
   refine hN61 _ ?_
   refine seq_k fun N62 M62 hN62 hM62 => ?_
   refine block_k fun B63 bn63 bx63 br63 bi63 => ?_
   refine sr_k fun K64 hK64 => ?_
   simp only [go_sem, P5.ls, ic0, ic1, ic2, ic3, ic4, ic5, Int.reduceMod, Int.reduceTMod, Int.toNat_one]
   all_goals repeat' (first | apply And.intro | intro _)
   refine hK64 _ ?_
   refine sr_k fun K65 hK65 => ?_
   simp only [go_sem, P5.ls, ic0, ic1, ic2, ic3, ic4, ic5, Int.reduceMod, Int.reduceTMod, Int.toNat_one]
   all_goals repeat' (first | apply And.intro | intro _)
   refine hK65 _ ?_
   refine seq_k fun N66 M66 hN66 hM66 => ?_
   refine sr_k fun K67 hK67 => ?_
   simp only [go_sem, P5.ls, ic0, ic1, ic2, ic3, ic4, ic5, Int.reduceMod, Int.reduceTMod, Int.toNat_one]
   all_goals repeat' (first | apply And.intro | intro _)
   refine hK67 _ ?_
   refine condF_k (by first | rfl | (simp [go_sem, P5.ls, ic0, ic1, ic2, ic3, ic4, ic5, Int.reduceMod, Int.reduceTMod, Int.toNat_one]; done)) ?_
   refine skip_k ?_
   refine hN66 _ ?_
   refine region_k fun K68 hK68 => ?_
   simp only [go_sem, P5.ls, ic0, ic1, ic2, ic3, ic4, ic5, Int.reduceMod, Int.reduceTMod, Int.toNat_one]
   all_goals repeat' (first | apply And.intro | intro _)
   refine hK68 _ ?_
   refine bn63 _ ?_
   refine hN62 _ ?_
   refine region_k fun K69 hK69 => ?_
   simp only [go_sem, P5.ls, ic0, ic1, ic2, ic3, ic4, ic5, Int.reduceMod, Int.reduceTMod, Int.toNat_one]
   all_goals repeat' (first | apply And.intro | intro _)
   refine hK69 _ ?_
   refine hN59 _ ?_
   refine rnd_forget [8, 9, 10, 18, 19, 20, 21, 22, 23, 24, 25, 26, 27, 28, 29, 30, 31, 32, 33, 34, 35, 36, 37, 38, 39] ?_
   simp only [go_sem, St.forget, fgt]
   refine rnd_k fun N70 M70 hN70 hM70 => ?_
   refine sr_k fun K71 hK71 => ?_
   simp only [go_sem, P5.ls, ic0, ic1, ic2, ic3, ic4, ic5, Int.reduceMod, Int.reduceTMod, Int.toNat_one]
   all_goals repeat' (first | apply And.intro | intro _)
   refine hK71 _ ?_
   refine seq_k fun N72 M72 hN72 hM72 => ?_
   refine condF_k (by first | rfl | (simp [go_sem, P5.ls, ic0, ic1, ic2, ic3, ic4, ic5, Int.reduceMod, Int.reduceTMod, Int.toNat_one]; done)) ?_
   refine exit_k ?_
   refine hM72 _ _ ?_
   refine hM70 _ _ ?_
   refine bx13 _ ?_
   refine bn10 _ ?_
   refine hN9 _ ?_
   refine region_k fun K73 hK73 => ?_
   simp only [go_sem, P5.ls, ic0, ic1, ic2, ic3, ic4, ic5, Int.reduceMod, Int.reduceTMod, Int.toNat_one]
   all_goals repeat' (first | apply And.intro | intro _)
   refine hK73 _ ?_
   refine hN6 ⟨1, by omega⟩ _ ?_ ?_ ?_
   · (show 5 - (0 + 1) < 5 - 0; omega)
   · (simp only [go_sem, leX, List.cons_append, List.nil_append]; try simp)
   · (simp only [mulN, go_sem, leX, List.cons_append, List.nil_append]; first | done | (simp [mulN, mul5, P5.ls, leX, look]; done) | rfl)
 · simp only [mulN]
   refine sr_k fun K74 hK74 => ?_
   simp only [go_sem, P5.ls, ic0, ic1, ic2, ic3, ic4, ic5, Int.reduceMod, Int.reduceTMod, Int.toNat_one]
   all_goals repeat' (first | apply And.intro | intro _)
   refine hK74 _ ?_
   refine seq_k fun N75 M75 hN75 hM75 => ?_
   refine condT_k (by first | rfl | (simp [go_sem, P5.ls, ic0, ic1, ic2, ic3, ic4, ic5, Int.reduceMod, Int.reduceTMod, Int.toNat_one]; done)) ?_
   refine skip_k ?_
   refine hN75 _ ?_
   refine seq_k fun N76 M76 hN76 hM76 => ?_
   refine block_k fun B77 bn77 bx77 br77 bi77 => ?_
   refine sr_k fun K78 hK78 => ?_
   simp only [go_sem, P5.ls, ic0, ic1, ic2, ic3, ic4, ic5, Int.reduceMod, Int.reduceTMod, Int.toNat_one]
   all_goals repeat' (first | apply And.intro | intro _)
   refine hK78 _ ?_
   refine sr_k fun K79 hK79 => ?_
   simp only [go_sem, P5.ls, ic0, ic1, ic2, ic3, ic4, ic5, Int.reduceMod, Int.reduceTMod, Int.toNat_one]
   all_goals repeat' (first | apply And.intro | intro _)
   refine hK79 _ ?_
   refine block_k fun B80 bn80 bx80 br80 bi80 => ?_
   refine rounds_k 6 ?_
   refine rnd_k fun N82 M82 hN82 hM82 => ?_
   refine sr_k fun K83 hK83 => ?_
   simp only [go_sem, P5.ls, ic0, ic1, ic2, ic3, ic4, ic5, Int.reduceMod, Int.reduceTMod, Int.toNat_one]
   all_goals repeat' (first | apply And.intro | intro _)
   refine hK83 _ ?_
   refine seq_k fun N84 M84 hN84 hM84 => ?_
   refine condT_k (by first | rfl | (simp [go_sem, P5.ls, ic0, ic1, ic2, ic3, ic4, ic5, Int.reduceMod, Int.reduceTMod, Int.toNat_one]; done)) ?_
   refine skip_k ?_
   refine hN84 _ ?_
   refine seq_k fun N85 M85 hN85 hM85 => ?_
   refine block_k fun B86 bn86 bx86 br86 bi86 => ?_
   refine sr_k fun K87 hK87 => ?_
   simp only [go_sem, P5.ls, ic0, ic1, ic2, ic3, ic4, ic5, Int.reduceMod, Int.reduceTMod, Int.toNat_one]
   all_goals repeat' (first | apply And.intro | intro _)
   refine hK87 _ ?_
   refine sr_k fun K88 hK88 => ?_
   simp only [go_sem, P5.ls, ic0, ic1, ic2, ic3, ic4, ic5, Int.reduceMod, Int.reduceTMod, Int.toNat_one]
   all_goals repeat' (first | apply And.intro | intro _)
   refine hK88 _ ?_
   refine seq_k fun N89 M89 hN89 hM89 => ?_
   refine sr_k fun K90 hK90 => ?_
   simp only [go_sem, P5.ls, ic0, ic1, ic2, ic3, ic4, ic5, Int.reduceMod, Int.reduceTMod, Int.toNat_one]
   all_goals repeat' (first | apply And.intro | intro _)
   refine hK90 _ ?_
   refine condF_k (by first | rfl | (simp [go_sem, P5.ls, ic0, ic1, ic2, ic3, ic4, ic5, Int.reduceMod, Int.reduceTMod, Int.toNat_one]; done)) ?_
   refine skip_k ?_
   refine hN89 _ ?_
   refine region_k fun K91 hK91 => ?_
   simp only [go_sem, P5.ls, ic0, ic1, ic2, ic3, ic4, ic5, Int.reduceMod, Int.reduceTMod, Int.toNat_one]
   all_goals repeat' (first | apply And.intro | intro _)
   refine hK91 _ ?_
   refine bn86 _ ?_
   refine hN85 _ ?_
   refine region_k fun K92 hK92 => ?_
   simp only [go_sem, P5.ls, ic0, ic1, ic2, ic3, ic4, ic5, Int.reduceMod, Int.reduceTMod, Int.toNat_one]
   all_goals repeat' (first | apply And.intro | intro _)
   refine hK92 _ ?_
   refine hN82 _ ?_
   refine rnd_forget [8, 9, 10, 18, 19, 20, 21, 22, 23, 24, 25, 26, 27, 28, 29, 30, 31, 32, 33, 34, 35, 36, 37, 38, 39] ?_
   simp only [go_sem, St.forget, fgt]
   refine rnd_k fun N93 M93 hN93 hM93 => ?_
   refine sr_k fun K94 hK94 => ?_
   simp only [go_sem, P5.ls, ic0, ic1, ic2, ic3, ic4, ic5, Int.reduceMod, Int.reduceTMod, Int.toNat_one]
   all_goals repeat' (first | apply And.intro | intro _)
   refine hK94 _ ?_
   refine seq_k fun N95 M95 hN95 hM95 => ?_
   refine condT_k (by first | rfl | (simp [go_sem, P5.ls, ic0, ic1, ic2, ic3, ic4, ic5, Int.reduceMod, Int.reduceTMod, Int.toNat_one]; done)) ?_
   refine skip_k ?_
   refine hN95 _ ?_
   refine seq_k fun N96 M96 hN96 hM96 => ?_
   refine block_k fun B97 bn97 bx97 br97 bi97 => ?_
   refine sr_k fun K98 hK98 => ?_
   simp only [go_sem, P5.ls, ic0, ic1, ic2, ic3, ic4, ic5, Int.reduceMod, Int.reduceTMod, Int.toNat_one]
   all_goals repeat' (first | apply And.intro | intro _)
   refine hK98 _ ?_
   refine sr_k fun K99 hK99 => ?_
   simp only [go_sem, P5.ls, ic0, ic1, ic2, ic3, ic4, ic5, Int.reduceMod, Int.reduceTMod, Int.toNat_one]
   all_goals repeat' (first | apply And.intro | intro _)
   refine hK99 _ ?_
   refine seq_k fun N100 M100 hN100 hM100 => ?_
   refine sr_k fun K101 hK101 => ?_
   simp only [go_sem, P5.ls, ic0, ic1, ic2, ic3, ic4, ic5, Int.reduceMod, Int.reduceTMod, Int.toNat_one]
   all_goals repeat' (first | apply And.intro | intro _)
   refine hK101 _ ?_
   refine condF_k (by first | rfl | (simp [go_sem, P5.ls, ic0, ic1, ic2, ic3, ic4, ic5, Int.reduceMod, Int.reduceTMod, Int.toNat_one]; done)) ?_
   refine skip_k ?_
   refine hN100 _ ?_
   refine region_k fun K102 hK102 => ?_
   simp only [go_sem, P5.ls, ic0, ic1, ic2, ic3, ic4, ic5, Int.reduceMod, Int.reduceTMod, Int.toNat_one]
   all_goals repeat' (first | apply And.intro | intro _)
   refine hK102 _ ?_
   refine bn97 _ ?_
   refine hN96 _ ?_
   refine region_k fun K103 hK103 => ?_
   simp only [go_sem, P5.ls, ic0, ic1, ic2, ic3, ic4, ic5, Int.reduceMod, Int.reduceTMod, Int.toNat_one]
   all_goals repeat' (first | apply And.intro | intro _)
   refine hK103 _ ?_
   refine hN93 _ ?_
   refine rnd_forget [8, 9, 10, 18, 19, 20, 21, 22, 23, 24, 25, 26, 27, 28, 29, 30, 31, 32, 33, 34, 35, 36, 37, 38, 39] ?_
   simp only [go_sem, St.forget, fgt]
   refine rnd_k fun N104 M104 hN104 hM104 => ?_
   refine sr_k fun K105 hK105 => ?_
   simp only [go_sem, P5.ls, ic0, ic1, ic2, ic3, ic4, ic5, Int.reduceMod, Int.reduceTMod, Int.toNat_one]
   all_goals repeat' (first | apply And.intro | intro _)
   refine hK105 _ ?_
   refine seq_k fun N106 M106 hN106 hM106 => ?_
   refine condT_k (by first | rfl | (simp [go_sem, P5.ls, ic0, ic1, ic2, ic3, ic4, ic5, Int.reduceMod, Int.reduceTMod, Int.toNat_one]; done)) ?_
   refine skip_k ?_
   refine hN106 _ ?_
   refine seq_k fun N107 M107 hN107 hM107 => ?_
   refine block_k fun B108 bn108 bx108 br108 bi108 => ?_
   refine sr_k fun K109 hK109 => ?_
   simp only [go_sem, P5.ls, ic0, ic1, ic2, ic3, ic4, ic5, Int.reduceMod, Int.reduceTMod, Int.toNat_one]
   all_goals repeat' (first | apply And.intro | intro _)
   refine hK109 _ ?_
   refine sr_k fun K110 hK110 => ?_
   simp only [go_sem, P5.ls, ic0, ic1, ic2, ic3, ic4, ic5, Int.reduceMod, Int.reduceTMod, Int.toNat_one]
   all_goals repeat' (first | apply And.intro | intro _)
   refine hK110 _ ?_
   refine seq_k fun N111 M111 hN111 hM111 => ?_
   refine sr_k fun K112 hK112 => ?_
   simp only [go_sem, P5.ls, ic0, ic1, ic2, ic3, ic4, ic5, Int.reduceMod, Int.reduceTMod, Int.toNat_one]
   all_goals repeat' (first | apply And.intro | intro _)
   refine hK112 _ ?_
   refine condF_k (by first | rfl | (simp [go_sem, P5.ls, ic0, ic1, ic2, ic3, ic4, ic5, Int.reduceMod, Int.reduceTMod, Int.toNat_one]; done)) ?_
   refine skip_k ?_
   refine hN111 _ ?_
   refine region_k fun K113 hK113 => ?_
   simp only [go_sem, P5.ls, ic0, ic1, ic2, ic3, ic4, ic5, Int.reduceMod, Int.reduceTMod, Int.toNat_one]
   all_goals repeat' (first | apply And.intro | intro _)
   refine hK113 _ ?_
   refine bn108 _ ?_
   refine hN107 _ ?_
   refine region_k fun K114 hK114 => ?_
   simp only [go_sem, P5.ls, ic0, ic1, ic2, ic3, ic4, ic5, Int.reduceMod, Int.reduceTMod, Int.toNat_one]
   all_goals repeat' (first | apply And.intro | intro _)
   refine hK114 _ ?_
   refine hN104 _ ?_
   refine rnd_forget [8, 9, 10, 18, 19, 20, 21, 22, 23, 24, 25, 26, 27, 28, 29, 30, 31, 32, 33, 34, 35, 36, 37, 38, 39] ?_
   simp only [go_sem, St.forget, fgt]
   refine rnd_k fun N115 M115 hN115 hM115 => ?_
   refine sr_k fun K116 hK116 => ?_
   simp only [go_sem, P5.ls, ic0, ic1, ic2, ic3, ic4, ic5, Int.reduceMod, Int.reduceTMod, Int.toNat_one]
   all_goals repeat' (first | apply And.intro | intro _)
   refine hK116 _ ?_
   refine seq_k fun N117 M117 hN117 hM117 => ?_
   refine condT_k (by first | rfl | (simp [go_sem, P5.ls, ic0, ic1, ic2, ic3, ic4, ic5, Int.reduceMod, Int.reduceTMod, Int.toNat_one]; done)) ?_
   refine skip_k ?_
   refine hN117 _ ?_
   refine seq_k fun N118 M118 hN118 hM118 => ?_
   refine block_k fun B119 bn119 bx119 br119 bi119 => ?_
   refine sr_k fun K120 hK120 => ?_
   simp only [go_sem, P5.ls, ic0, ic1, ic2, ic3, ic4, ic5, Int.reduceMod, Int.reduceTMod, Int.toNat_one]
   all_goals repeat' (first | apply And.intro | intro _)
   refine hK120 _ ?_
   refine sr_k fun K121 hK121 => ?_
   simp only [go_sem, P5.ls, ic0, ic1, ic2, ic3, ic4, ic5, Int.reduceMod, Int.reduceTMod, Int.toNat_one]
   all_goals repeat' (first | apply And.intro | intro _)
   refine hK121 _ ?_
   refine seq_k fun N122 M122 hN122 hM122 => ?_
   refine sr_k fun K123 hK123 => ?_
   simp only [go_sem, P5.ls, ic0, ic1, ic2, ic3, ic4, ic5, Int.reduceMod, Int.reduceTMod, Int.toNat_one]
   all_goals repeat' (first | apply And.intro | intro _)
   refine hK123 _ ?_
   refine condF_k (by first | rfl | (simp [go_sem, P5.ls, ic0, ic1, ic2, ic3, ic4, ic5, Int.reduceMod, Int.reduceTMod, Int.toNat_one]; done)) ?_
   refine skip_k ?_
   refine hN122 _ ?_
   refine region_k fun K124 hK124 => ?_
   simp only [go_sem, P5.ls, ic0, ic1, ic2, ic3, ic4, ic5, Int.reduceMod, Int.reduceTMod, Int.toNat_one]
   all_goals repeat' (first | apply And.intro | intro _)
   refine hK124 _ ?_
   refine bn119 _ ?_
   refine hN118 _ ?_
   refine region_k fun K125 hK125 => ?_
   simp only [go_sem, P5.ls, ic0, ic1, ic2, ic3, ic4, ic5, Int.reduceMod, Int.reduceTMod, Int.toNat_one]
   all_goals repeat' (first | apply And.intro | intro _)
   refine hK125 _ ?_
   refine hN115 _ ?_
   refine rnd_forget [8, 9, 10, 18, 19, 20, 21, 22, 23, 24, 25, 26, 27, 28, 29, 30, 31, 32, 33, 34, 35, 36, 37, 38, 39] ?_
   simp only [go_sem, St.forget, fgt]
   refine rnd_k fun N126 M126 hN126 hM126 => ?_
   refine sr_k fun K127 hK127 => ?_
   simp only [go_sem, P5.ls, ic0, ic1, ic2, ic3, ic4, ic5, Int.reduceMod, Int.reduceTMod, Int.toNat_one]
   all_goals repeat' (first | apply And.intro | intro _)
   refine hK127 _ ?_
   refine seq_k fun N128 M128 hN128 hM128 => ?_
   refine condT_k (by first | rfl | (simp [go_sem, P5.ls, ic0, ic1, ic2, ic3, ic4, ic5, Int.reduceMod, Int.reduceTMod, Int.toNat_one]; done)) ?_
   refine skip_k ?_
   refine hN128 _ ?_
   refine seq_k fun N129 M129 hN129 hM129 => ?_
   refine block_k fun B130 bn130 bx130 br130 bi130 => ?_
   refine sr_k fun K131 hK131 => ?_
   simp only [go_sem, P5.ls, ic0, ic1, ic2, ic3, ic4, ic5, Int.reduceMod, Int.reduceTMod, Int.toNat_one]
   all_goals repeat' (first | apply And.intro | intro _)
   refine hK131 _ ?_
   refine sr_k fun K132 hK132 => ?_
   simp only [go_sem, P5.ls, ic0, ic1, ic2, ic3, ic4, ic5, Int.reduceMod, Int.reduceTMod, Int.toNat_one]
   all_goals repeat' (first | apply And.intro | intro _)
   refine hK132 _ ?_
   refine seq_k fun N133 M133 hN133 hM133 => ?_
   refine sr_k fun K134 hK134 => ?_
   simp only [go_sem, P5.ls, ic0, ic1, ic2, ic3, ic4, ic5, Int.reduceMod, Int.reduceTMod, Int.toNat_one]
   all_goals repeat' (first | apply And.intro | intro _)
   refine hK134 _ ?_
   refine condT_k (by first | rfl | (simp [go_sem, P5.ls, ic0, ic1, ic2, ic3, ic4, ic5, Int.reduceMod, Int.reduceTMod, Int.toNat_one]; done)) ?_
   refine region_k fun K135 hK135 => ?_
   simp only [go_sem, P5.ls, ic0, ic1, ic2, ic3, ic4, ic5, Int.reduceMod, Int.reduceTMod, Int.toNat_one]
   all_goals repeat' (first | apply And.intro | intro _)
   refine hK135 _ ?_
   refine hN133 _ ?_
   refine region_k fun K136 hK136 => ?_
   simp only [go_sem, P5.ls, ic0, ic1, ic2, ic3, ic4, ic5, Int.reduceMod, Int.reduceTMod, Int.toNat_one]
   all_goals repeat' (first | apply And.intro | intro _)
   refine hK136 _ ?_
   refine bn130 _ ?_
   refine hN129 _ ?_
   refine region_k fun K137 hK137 => ?_
   simp only [go_sem, P5.ls, ic0, ic1, ic2, ic3, ic4, ic5, Int.reduceMod, Int.reduceTMod, Int.toNat_one]
   all_goals repeat' (first | apply And.intro | intro _)
   refine hK137 _ ?_
   refine hN126 _ ?_
   refine rnd_forget [8, 9, 10, 18, 19, 20, 21, 22, 23, 24, 25, 26, 27, 28, 29, 30, 31, 32, 33, 34, 35, 36, 37, 38, 39] ?_
   simp only [go_sem, St.forget, fgt]
   refine rnd_k fun N138 M138 hN138 hM138 => ?_
   refine sr_k fun K139 hK139 => ?_
   simp only [go_sem, P5.ls, ic0, ic1, ic2, ic3, ic4, ic5, Int.reduceMod, Int.reduceTMod, Int.toNat_one]
   all_goals repeat' (first | apply And.intro | intro _)
   refine hK139 _ ?_
   refine seq_k fun N140 M140 hN140 hM140 => ?_
   refine condF_k (by first | rfl | (simp [go_sem, P5.ls, ic0, ic1, ic2, ic3, ic4, ic5, Int.reduceMod, Int.reduceTMod, Int.toNat_one]; done)) ?_
   refine exit_k ?_
   refine hM140 _ _ ?_
   refine hM138 _ _ ?_
   refine bx80 _ ?_
   refine bn77 _ ?_
   refine hN76 _ ?_
   refine region_k fun K141 hK141 => ?_
   simp only [go_sem, P5.ls, ic0, ic1, ic2, ic3, ic4, ic5, Int.reduceMod, Int.reduceTMod, Int.toNat_one]
   all_goals repeat' (first | apply And.intro | intro _)
   refine hK141 _ ?_
   refine hN6 ⟨2, by omega⟩ _ ?_ ?_ ?_
   · (show 5 - (1 + 1) < 5 - 1; omega)
   · (simp only [go_sem, leX, List.cons_append, List.nil_append]; try simp)
   · (simp only [mulN, go_sem, leX, List.cons_append, List.nil_append]; first | done | (simp [mulN, mul5, P5.ls, leX, look]; done) | rfl)
 · simp only [mulN]
   refine sr_k fun K142 hK142 => ?_
   simp only [go_sem, P5.ls, ic0, ic1, ic2, ic3, ic4, ic5, Int.reduceMod, Int.reduceTMod, Int.toNat_one]
   all_goals repeat' (first | apply And.intro | intro _)
   refine hK142 _ ?_
   refine seq_k fun N143 M143 hN143 hM143 => ?_
   refine condT_k (by first | rfl | (simp [go_sem, P5.ls, ic0, ic1, ic2, ic3, ic4, ic5, Int.reduceMod, Int.reduceTMod, Int.toNat_one]; done)) ?_
   refine skip_k ?_
   refine hN143 _ ?_
   refine seq_k fun N144 M144 hN144 hM144 => ?_
   refine block_k fun B145 bn145 bx145 br145 bi145 => ?_
   refine sr_k fun K146 hK146 => ?_
   simp only [go_sem, P5.ls, ic0, ic1, ic2, ic3, ic4, ic5, Int.reduceMod, Int.reduceTMod, Int.toNat_one]
   all_goals repeat' (first | apply And.intro | intro _)
   refine hK146 _ ?_
   refine sr_k fun K147 hK147 => ?_
   simp only [go_sem, P5.ls, ic0, ic1, ic2, ic3, ic4, ic5, Int.reduceMod, Int.reduceTMod, Int.toNat_one]
   all_goals repeat' (first | apply And.intro | intro _)
   refine hK147 _ ?_
   refine block_k fun B148 bn148 bx148 br148 bi148 => ?_
   refine rounds_k 6 ?_
   refine rnd_k fun N150 M150 hN150 hM150 => ?_
   refine sr_k fun K151 hK151 => ?_
   simp only [go_sem, P5.ls, ic0, ic1, ic2, ic3, ic4, ic5, Int.reduceMod, Int.reduceTMod, Int.toNat_one]
   all_goals repeat' (first | apply And.intro | intro _)
   refine hK151 _ ?_
   refine seq_k fun N152 M152 hN152 hM152 => ?_
   refine condT_k (by first | rfl | (simp [go_sem, P5.ls, ic0, ic1, ic2, ic3, ic4, ic5, Int.reduceMod, Int.reduceTMod, Int.toNat_one]; done)) ?_
   refine skip_k ?_
   refine hN152 _ ?_
   refine seq_k fun N153 M153 hN153 hM153 => ?_
   refine block_k fun B154 bn154 bx154 br154 bi154 => ?_
   refine sr_k fun K155 hK155 => ?_
   simp only [go_sem, P5.ls, ic0, ic1, ic2, ic3, ic4, ic5, Int.reduceMod, Int.reduceTMod, Int.toNat_one]
   all_goals repeat' (first | apply And.intro | intro _)
   refine hK155 _ ?_
   refine sr_k fun K156 hK156 => ?_
   simp only [go_sem, P5.ls, ic0, ic1, ic2, ic3, ic4, ic5, Int.reduceMod, Int.reduceTMod, Int.toNat_one]
   all_goals repeat' (first | apply And.intro | intro _)
   refine hK156 _ ?_
   refine seq_k fun N157 M157 hN157 hM157 => ?_
   refine sr_k fun K158 hK158 => ?_
   simp only [go_sem, P5.ls, ic0, ic1, ic2, ic3, ic4, ic5, Int.reduceMod, Int.reduceTMod, Int.toNat_one]
   all_goals repeat' (first | apply And.intro | intro _)
   refine hK158 _ ?_
   refine condF_k (by first | rfl | (simp [go_sem, P5.ls, ic0, ic1, ic2, ic3, ic4, ic5, Int.reduceMod, Int.reduceTMod, Int.toNat_one]; done)) ?_
   refine skip_k ?_
   refine hN157 _ ?_
   refine region_k fun K159 hK159 => ?_
   simp only [go_sem, P5.ls, ic0, ic1, ic2, ic3, ic4, ic5, Int.reduceMod, Int.reduceTMod, Int.toNat_one]
   all_goals repeat' (first | apply And.intro | intro _)
   refine hK159 _ ?_
   refine bn154 _ ?_
   refine hN153 _ ?_
   refine region_k fun K160 hK160 => ?_
   simp only [go_sem, P5.ls, ic0, ic1, ic2, ic3, ic4, ic5, Int.reduceMod, Int.reduceTMod, Int.toNat_one]
   all_goals repeat' (first | apply And.intro | intro _)
   refine hK160 _ ?_
   refine hN150 _ ?_
   refine rnd_forget [8, 9, 10, 18, 19, 20, 21, 22, 23, 24, 25, 26, 27, 28, 29, 30, 31, 32, 33, 34, 35, 36, 37, 38, 39] ?_
   simp only [go_sem, St.forget, fgt]
   refine rnd_k fun N161 M161 hN161 hM161 => ?_
   refine sr_k fun K162 hK162 => ?_
   simp only [go_sem, P5.ls, ic0, ic1, ic2, ic3, ic4, ic5, Int.reduceMod, Int.reduceTMod, Int.toNat_one]
   all_goals repeat' (first | apply And.intro | intro _)
   refine hK162 _ ?_
   refine seq_k fun N163 M163 hN163 hM163 => ?_
   refine condT_k (by first | rfl | (simp [go_sem, P5.ls, ic0, ic1, ic2, ic3, ic4, ic5, Int.reduceMod, Int.reduceTMod, Int.toNat_one]; done)) ?_
   refine skip_k ?_
   refine hN163 _ ?_
   refine seq_k fun N164 M164 hN164 hM164 => ?_
   refine block_k fun B165 bn165 bx165 br165 bi165 => ?_
   refine sr_k fun K166 hK166 => ?_
   simp only [go_sem, P5.ls, ic0, ic1, ic2, ic3, ic4, ic5, Int.reduceMod, Int.reduceTMod, Int.toNat_one]
   all_goals repeat' (first | apply And.intro | intro _)
   refine hK166 _ ?_
   refine sr_k fun K167 hK167 => ?_
   simp only [go_sem, P5.ls, ic0, ic1, ic2, ic3, ic4, ic5, Int.reduceMod, Int.reduceTMod, Int.toNat_one]
   all_goals repeat' (first | apply And.intro | intro _)
   refine hK167 _ ?_
   refine seq_k fun N168 M168 hN168 hM168 => ?_
   refine sr_k fun K169 hK169 => ?_
   simp only [go_sem, P5.ls, ic0, ic1, ic2, ic3, ic4, ic5, Int.reduceMod, Int.reduceTMod, Int.toNat_one]
   all_goals repeat' (first | apply And.intro | intro _)
   refine hK169 _ ?_
   refine condF_k (by first | rfl | (simp [go_sem, P5.ls, ic0, ic1, ic2, ic3, ic4, ic5, Int.reduceMod, Int.reduceTMod, Int.toNat_one]; done)) ?_
   refine skip_k ?_
   refine hN168 _ ?_
   refine region_k fun K170 hK170 => ?_
   simp only [go_sem, P5.ls, ic0, ic1, ic2, ic3, ic4, ic5, Int.reduceMod, Int.reduceTMod, Int.toNat_one]
   all_goals repeat' (first | apply And.intro | intro _)
   refine hK170 _ ?_
   refine bn165 _ ?_
   refine hN164 _ ?_
   refine region_k fun K171 hK171 => ?_
   simp only [go_sem, P5.ls, ic0, ic1, ic2, ic3, ic4, ic5, Int.reduceMod, Int.reduceTMod, Int.toNat_one]
   all_goals repeat' (first | apply And.intro | intro _)
   refine hK171 _ ?_
   refine hN161 _ ?_
   refine rnd_forget [8, 9, 10, 18, 19, 20, 21, 22, 23, 24, 25, 26, 27, 28, 29, 30, 31, 32, 33, 34, 35, 36, 37, 38, 39] ?_
   simp only [go_sem, St.forget, fgt]
   refine rnd_k fun N172 M172 hN172 hM172 => ?_
   refine sr_k fun K173 hK173 => ?_
   simp only [go_sem, P5.ls, ic0, ic1, ic2, ic3, ic4, ic5, Int.reduceMod, Int.reduceTMod, Int.toNat_one]
   all_goals repeat' (first | apply And.intro | intro _)
   refine hK173 _ ?_
   refine seq_k fun N174 M174 hN174 hM174 => ?_
   refine condT_k (by first | rfl | (simp [go_sem, P5.ls, ic0, ic1, ic2, ic3, ic4, ic5, Int.reduceMod, Int.reduceTMod, Int.toNat_one]; done)) ?_
   refine skip_k ?_
   refine hN174 _ ?_
   refine seq_k fun N175 M175 hN175 hM175 => ?_
   refine block_k fun B176 bn176 bx176 br176 bi176 => ?_
   refine sr_k fun K177 hK177 => ?_
   simp only [go_sem, P5.ls, ic0, ic1, ic2, ic3, ic4, ic5, Int.reduceMod, Int.reduceTMod, Int.toNat_one]
   all_goals repeat' (first | apply And.intro | intro _)
   refine hK177 _ ?_
   refine sr_k fun K178 hK178 => ?_
   simp only [go_sem, P5.ls, ic0, ic1, ic2, ic3, ic4, ic5, Int.reduceMod, Int.reduceTMod, Int.toNat_one]
   all_goals repeat' (first | apply And.intro | intro _)
   refine hK178 _ ?_
   refine seq_k fun N179 M179 hN179 hM179 => ?_
   refine sr_k fun K180 hK180 => ?_
   simp only [go_sem, P5.ls, ic0, ic1, ic2, ic3, ic4, ic5, Int.reduceMod, Int.reduceTMod, Int.toNat_one]
   all_goals repeat' (first | apply And.intro | intro _)
   refine hK180 _ ?_
   refine condF_k (by first | rfl | (simp [go_sem, P5.ls, ic0, ic1, ic2, ic3, ic4, ic5, Int.reduceMod, Int.reduceTMod, Int.toNat_one]; done)) ?_
   refine skip_k ?_
   refine hN179 _ ?_
   refine region_k fun K181 hK181 => ?_
   simp only [go_sem, P5.ls, ic0, ic1, ic2, ic3, ic4, ic5, Int.reduceMod, Int.reduceTMod, Int.toNat_one]
   all_goals repeat' (first | apply And.intro | intro _)
   refine hK181 _ ?_
   refine bn176 _ ?_
   refine hN175 _ ?_
   refine region_k fun K182 hK182 => ?_
   simp only [go_sem, P5.ls, ic0, ic1, ic2, ic3, ic4, ic5, Int.reduceMod, Int.reduceTMod, Int.toNat_one]
   all_goals repeat' (first | apply And.intro | intro _)
   refine hK182 _ ?_
   refine hN172 _ ?_
   refine rnd_forget [8, 9, 10, 18, 19, 20, 21, 22, 23, 24, 25, 26, 27, 28, 29, 30, 31, 32, 33, 34, 35, 36, 37, 38, 39] ?_
   simp only [go_sem, St.forget, fgt]
   refine rnd_k fun N183 M183 hN183 hM183 => ?_
   refine sr_k fun K184 hK184 => ?_
   simp only [go_sem, P5.ls, ic0, ic1, ic2, ic3, ic4, ic5, Int.reduceMod, Int.reduceTMod, Int.toNat_one]
   all_goals repeat' (first | apply And.intro | intro _)
   refine hK184 _ ?_
   refine seq_k fun N185 M185 hN185 hM185 => ?_
   refine condT_k (by first | rfl | (simp [go_sem, P5.ls, ic0, ic1, ic2, ic3, ic4, ic5, Int.reduceMod, Int.reduceTMod, Int.toNat_one]; done)) ?_
   refine skip_k ?_
   refine hN185 _ ?_
   refine seq_k fun N186 M186 hN186 hM186 => ?_
   refine block_k fun B187 bn187 bx187 br187 bi187 => ?_
   refine sr_k fun K188 hK188 => ?_
   simp only [go_sem, P5.ls, ic0, ic1, ic2, ic3, ic4, ic5, Int.reduceMod, Int.reduceTMod, Int.toNat_one]
   all_goals repeat' (first | apply And.intro | intro _)
   refine hK188 _ ?_
   refine sr_k fun K189 hK189 => ?_
   simp only [go_sem, P5.ls, ic0, ic1, ic2, ic3, ic4, ic5, Int.reduceMod, Int.reduceTMod, Int.toNat_one]
   all_goals repeat' (first | apply And.intro | intro _)
   refine hK189 _ ?_
   refine seq_k fun N190 M190 hN190 hM190 => ?_
   refine sr_k fun K191 hK191 => ?_
   simp only [go_sem, P5.ls, ic0, ic1, ic2, ic3, ic4, ic5, Int.reduceMod, Int.reduceTMod, Int.toNat_one]
   all_goals repeat' (first | apply And.intro | intro _)
   refine hK191 _ ?_
   refine condT_k (by first | rfl | (simp [go_sem, P5.ls, ic0, ic1, ic2, ic3, ic4, ic5, Int.reduceMod, Int.reduceTMod, Int.toNat_one]; done)) ?_
   refine region_k fun K192 hK192 => ?_
   simp only [go_sem, P5.ls, ic0, ic1, ic2, ic3, ic4, ic5, Int.reduceMod, Int.reduceTMod, Int.toNat_one]
   all_goals repeat' (first | apply And.intro | intro _)
   refine hK192 _ ?_
   refine hN190 _ ?_
   refine region_k fun K193 hK193 => ?_
   simp only [go_sem, P5.ls, ic0, ic1, ic2, ic3, ic4, ic5, Int.reduceMod, Int.reduceTMod, Int.toNat_one]
   all_goals repeat' (first | apply And.intro | intro _)
   refine hK193 _ ?_
   refine bn187 _ ?_
   refine hN186 _ ?_
   refine region_k fun K194 hK194 => ?_
   simp only [go_sem, P5.ls, ic0, ic1, ic2, ic3, ic4, ic5, Int.reduceMod, Int.reduceTMod, Int.toNat_one]
   all_goals repeat' (first | apply And.intro | intro _)
   refine hK194 _ ?_
   refine hN183 _ ?_
   refine rnd_forget [8, 9, 10, 18, 19, 20, 21, 22, 23, 24, 25, 26, 27, 28, 29, 30, 31, 32, 33, 34, 35, 36, 37, 38, 39] ?_
   simp only [go_sem, St.forget, fgt]
   refine rnd_k fun N195 M195 hN195 hM195 => ?_
   refine sr_k fun K196 hK196 => ?_
   simp only [go_sem, P5.ls, ic0, ic1, ic2, ic3, ic4, ic5, Int.reduceMod, Int.reduceTMod, Int.toNat_one]
   all_goals repeat' (first | apply And.intro | intro _)
   refine hK196 _ ?_
   refine seq_k fun N197 M197 hN197 hM197 => ?_
   refine condT_k (by first | rfl | (simp [go_sem, P5.ls, ic0, ic1, ic2, ic3, ic4, ic5, Int.reduceMod, Int.reduceTMod, Int.toNat_one]; done)) ?_
   refine skip_k ?_
   refine hN197 _ ?_
   refine seq_k fun N198 M198 hN198 hM198 => ?_
   refine block_k fun B199 bn199 bx199 br199 bi199 => ?_
   refine sr_k fun K200 hK200 => ?_
   simp only [go_sem, P5.ls, ic0, ic1, ic2, ic3, ic4, ic5, Int.reduceMod, Int.reduceTMod, Int.toNat_one]
   all_goals repeat' (first | apply And.intro | intro _)
   refine hK200 _ ?_
   refine sr_k fun K201 hK201 => ?_
   simp only [go_sem, P5.ls, ic0, ic1, ic2, ic3, ic4, ic5, Int.reduceMod, Int.reduceTMod, Int.toNat_one]
   all_goals repeat' (first | apply And.intro | intro _)
   refine hK201 _ ?_
   refine seq_k fun N202 M202 hN202 hM202 => ?_
   refine sr_k fun K203 hK203 => ?_
   simp only [go_sem, P5.ls, ic0, ic1, ic2, ic3, ic4, ic5, Int.reduceMod, Int.reduceTMod, Int.toNat_one]
   all_goals repeat' (first | apply And.intro | intro _)
   refine hK203 _ ?_
   refine condT_k (by first | rfl | (simp [go_sem, P5.ls, ic0, ic1, ic2, ic3, ic4, ic5, Int.reduceMod, Int.reduceTMod, Int.toNat_one]; done)) ?_
   refine region_k fun K204 hK204 => ?_
   simp only [go_sem, P5.ls, ic0, ic1, ic2, ic3, ic4, ic5, Int.reduceMod, Int.reduceTMod, Int.toNat_one]
   all_goals repeat' (first | apply And.intro | intro _)
   refine hK204 _ ?_
   refine hN202 _ ?_
   refine region_k fun K205 hK205 => ?_
   simp only [go_sem, P5.ls, ic0, ic1, ic2, ic3, ic4, ic5, Int.reduceMod, Int.reduceTMod, Int.toNat_one]
   all_goals repeat' (first | apply And.intro | intro _)
   refine hK205 _ ?_
   refine bn199 _ ?_
   refine hN198 _ ?_
   refine region_k fun K206 hK206 => ?_
   simp only [go_sem, P5.ls, ic0, ic1, ic2, ic3, ic4, ic5, Int.reduceMod, Int.reduceTMod, Int.toNat_one]
   all_goals repeat' (first | apply And.intro | intro _)
   refine hK206 _ ?_
   refine hN195 _ ?_
   refine rnd_forget [8, 9, 10, 18, 19, 20, 21, 22, 23, 24, 25, 26, 27, 28, 29, 30, 31, 32, 33, 34, 35, 36, 37, 38, 39] ?_
   simp only [go_sem, St.forget, fgt]
   refine rnd_k fun N207 M207 hN207 hM207 => ?_
   refine sr_k fun K208 hK208 => ?_
   simp only [go_sem, P5.ls, ic0, ic1, ic2, ic3, ic4, ic5, Int.reduceMod, Int.reduceTMod, Int.toNat_one]
   all_goals repeat' (first | apply And.intro | intro _)
   refine hK208 _ ?_
   refine seq_k fun N209 M209 hN209 hM209 => ?_
   refine condF_k (by first | rfl | (simp [go_sem, P5.ls, ic0, ic1, ic2, ic3, ic4, ic5, Int.reduceMod, Int.reduceTMod, Int.toNat_one]; done)) ?_
   refine exit_k ?_
   refine hM209 _ _ ?_
   refine hM207 _ _ ?_
   refine bx148 _ ?_
   refine bn145 _ ?_
   refine hN144 _ ?_
   refine region_k fun K210 hK210 => ?_
   simp only [go_sem, P5.ls, ic0, ic1, ic2, ic3, ic4, ic5, Int.reduceMod, Int.reduceTMod, Int.toNat_one]
   all_goals repeat' (first | apply And.intro | intro _)
   refine hK210 _ ?_
   refine hN6 ⟨3, by omega⟩ _ ?_ ?_ ?_
   · (show 5 - (2 + 1) < 5 - 2; omega)
   · (simp only [go_sem, leX, List.cons_append, List.nil_append]; try simp)
   · (simp only [mulN, go_sem, leX, List.cons_append, List.nil_append]; first | done | (simp [mulN, mul5, P5.ls, leX, look]; done) | rfl)
 · simp only [mulN]
   refine sr_k fun K211 hK211 => ?_
   simp only [go_sem, P5.ls, ic0, ic1, ic2, ic3, ic4, ic5, Int.reduceMod, Int.reduceTMod, Int.toNat_one]
   all_goals repeat' (first | apply And.intro | intro _)
   refine hK211 _ ?_
   refine seq_k fun N212 M212 hN212 hM212 => ?_
   refine condT_k (by first | rfl | (simp [go_sem, P5.ls, ic0, ic1, ic2, ic3, ic4, ic5, Int.reduceMod, Int.reduceTMod, Int.toNat_one]; done)) ?_
   refine skip_k ?_
   refine hN212 _ ?_
   refine seq_k fun N213 M213 hN213 hM213 => ?_
   refine block_k fun B214 bn214 bx214 br214 bi214 => ?_
   refine sr_k fun K215 hK215 => ?_
   simp only [go_sem, P5.ls, ic0, ic1, ic2, ic3, ic4, ic5, Int.reduceMod, Int.reduceTMod, Int.toNat_one]
   all_goals repeat' (first | apply And.intro | intro _)
   refine hK215 _ ?_
   refine sr_k fun K216 hK216 => ?_
   simp only [go_sem, P5.ls, ic0, ic1, ic2, ic3, ic4, ic5, Int.reduceMod, Int.reduceTMod, Int.toNat_one]
   all_goals repeat' (first | apply And.intro | intro _)
   refine hK216 _ ?_
   refine block_k fun B217 bn217 bx217 br217 bi217 => ?_
   refine rounds_k 6 ?_
   refine rnd_k fun N219 M219 hN219 hM219 => ?_
   refine sr_k fun K220 hK220 => ?_
   simp only [go_sem, P5.ls, ic0, ic1, ic2, ic3, ic4, ic5, Int.reduceMod, Int.reduceTMod, Int.toNat_one]
   all_goals repeat' (first | apply And.intro | intro _)
   refine hK220 _ ?_
   refine seq_k fun N221 M221 hN221 hM221 => ?_
   refine condT_k (by first | rfl | (simp [go_sem, P5.ls, ic0, ic1, ic2, ic3, ic4, ic5, Int.reduceMod, Int.reduceTMod, Int.toNat_one]; done)) ?_
   refine skip_k ?_
   refine hN221 _ ?_
   refine seq_k fun N222 M222 hN222 hM222 => ?_
   refine block_k fun B223 bn223 bx223 br223 bi223 => ?_
   refine sr_k fun K224 hK224 => ?_
   simp only [go_sem, P5.ls, ic0, ic1, ic2, ic3, ic4, ic5, Int.reduceMod, Int.reduceTMod, Int.toNat_one]
   all_goals repeat' (first | apply And.intro | intro _)
   refine hK224 _ ?_
   refine sr_k fun K225 hK225 => ?_
   simp only [go_sem, P5.ls, ic0, ic1, ic2, ic3, ic4, ic5, Int.reduceMod, Int.reduceTMod, Int.toNat_one]
   all_goals repeat' (first | apply And.intro | intro _)
   refine hK225 _ ?_
   refine seq_k fun N226 M226 hN226 hM226 => ?_
   refine sr_k fun K227 hK227 => ?_
   simp only [go_sem, P5.ls, ic0, ic1, ic2, ic3, ic4, ic5, Int.reduceMod, Int.reduceTMod, Int.toNat_one]
   all_goals repeat' (first | apply And.intro | intro _)
   refine hK227 _ ?_
   refine condF_k (by first | rfl | (simp [go_sem, P5.ls, ic0, ic1, ic2, ic3, ic4, ic5, Int.reduceMod, Int.reduceTMod, Int.toNat_one]; done)) ?_
   refine skip_k ?_
   refine hN226 _ ?_
   refine region_k fun K228 hK228 => ?_
   simp only [go_sem, P5.ls, ic0, ic1, ic2, ic3, ic4, ic5, Int.reduceMod, Int.reduceTMod, Int.toNat_one]
   all_goals repeat' (first | apply And.intro | intro _)
   refine hK228 _ ?_
   refine bn223 _ ?_
   refine hN222 _ ?_
   refine region_k fun K229 hK229 => ?_
   simp only [go_sem, P5.ls, ic0, ic1, ic2, ic3, ic4, ic5, Int.reduceMod, Int.reduceTMod, Int.toNat_one]
   all_goals repeat' (first | apply And.intro | intro _)
   refine hK229 _ ?_
   refine hN219 _ ?_
   refine rnd_forget [8, 9, 10, 18, 19, 20, 21, 22, 23, 24, 25, 26, 27, 28, 29, 30, 31, 32, 33, 34, 35, 36, 37, 38, 39] ?_
   simp only [go_sem, St.forget, fgt]
   refine rnd_k fun N230 M230 hN230 hM230 => ?_
   refine sr_k fun K231 hK231 => ?_
   simp only [go_sem, P5.ls, ic0, ic1, ic2, ic3, ic4, ic5, Int.reduceMod, Int.reduceTMod, Int.toNat_one]
   all_goals repeat' (first | apply And.intro | intro _)
   refine hK231 _ ?_
   refine seq_k fun N232 M232 hN232 hM232 => ?_
   refine condT_k (by first | rfl | (simp [go_sem, P5.ls, ic0, ic1, ic2, ic3, ic4, ic5, Int.reduceMod, Int.reduceTMod, Int.toNat_one]; done)) ?_
   refine skip_k ?_
   refine hN232 _ ?_
   refine seq_k fun N233 M233 hN233 hM233 => ?_
   refine block_k fun B234 bn234 bx234 br234 bi234 => ?_
   refine sr_k fun K235 hK235 => ?_
   simp only [go_sem, P5.ls, ic0, ic1, ic2, ic3, ic4, ic5, Int.reduceMod, Int.reduceTMod, Int.toNat_one]
   all_goals repeat' (first | apply And.intro | intro _)
   refine hK235 _ ?_
   refine sr_k fun K236 hK236 => ?_
   simp only [go_sem, P5.ls, ic0, ic1, ic2, ic3, ic4, ic5, Int.reduceMod, Int.reduceTMod, Int.toNat_one]
   all_goals repeat' (first | apply And.intro | intro _)
   refine hK236 _ ?_
   refine seq_k fun N237 M237 hN237 hM237 => ?_
   refine sr_k fun K238 hK238 => ?_
   simp only [go_sem, P5.ls, ic0, ic1, ic2, ic3, ic4, ic5, Int.reduceMod, Int.reduceTMod, Int.toNat_one]
   all_goals repeat' (first | apply And.intro | intro _)
   refine hK238 _ ?_
   refine condF_k (by first | rfl | (simp [go_sem, P5.ls, ic0, ic1, ic2, ic3, ic4, ic5, Int.reduceMod, Int.reduceTMod, Int.toNat_one]; done)) ?_
   refine skip_k ?_
   refine hN237 _ ?_
   refine region_k fun K239 hK239 => ?_
   simp only [go_sem, P5.ls, ic0, ic1, ic2, ic3, ic4, ic5, Int.reduceMod, Int.reduceTMod, Int.toNat_one]
   all_goals repeat' (first | apply And.intro | intro _)
   refine hK239 _ ?_
   refine bn234 _ ?_
   refine hN233 _ ?_
   refine region_k fun K240 hK240 => ?_
   simp only [go_sem, P5.ls, ic0, ic1, ic2, ic3, ic4, ic5, Int.reduceMod, Int.reduceTMod, Int.toNat_one]
   all_goals repeat' (first | apply And.intro | intro _)
   refine hK240 _ ?_
   refine hN230 _ ?_
   refine rnd_forget [8, 9, 10, 18, 19, 20, 21, 22, 23, 24, 25, 26, 27, 28, 29, 30, 31, 32, 33, 34, 35, 36, 37, 38, 39] ?_
   simp only [go_sem, St.forget, fgt]
   refine rnd_k fun N241 M241 hN241 hM241 => ?_
   refine sr_k fun K242 hK242 => ?_
   simp only [go_sem, P5.ls, ic0, ic1, ic2, ic3, ic4, ic5, Int.reduceMod, Int.reduceTMod, Int.toNat_one]
   all_goals repeat' (first | apply And.intro | intro _)
   refine hK242 _ ?_
   refine seq_k fun N243 M243 hN243 hM243 => ?_
   refine condT_k (by first | rfl | (simp [go_sem, P5.ls, ic0, ic1, ic2, ic3, ic4, ic5, Int.reduceMod, Int.reduceTMod, Int.toNat_one]; done)) ?_
   refine skip_k ?_
   refine hN243 _ ?_
   refine seq_k fun N244 M244 hN244 hM244 => ?_
   refine block_k fun B245 bn245 bx245 br245 bi245 => ?_
   refine sr_k fun K246 hK246 => ?_
   simp only [go_sem, P5.ls, ic0, ic1, ic2, ic3, ic4, ic5, Int.reduceMod, Int.reduceTMod, Int.toNat_one]
   all_goals repeat' (first | apply And.intro | intro _)
   refine hK246 _ ?_
   refine sr_k fun K247 hK247 => ?_
   simp only [go_sem, P5.ls, ic0, ic1, ic2, ic3, ic4, ic5, Int.reduceMod, Int.reduceTMod, Int.toNat_one]
   all_goals repeat' (first | apply And.intro | intro _)
   refine hK247 _ ?_
   refine seq_k fun N248 M248 hN248 hM248 => ?_
   refine sr_k fun K249 hK249 => ?_
   simp only [go_sem, P5.ls, ic0, ic1, ic2, ic3, ic4, ic5, Int.reduceMod, Int.reduceTMod, Int.toNat_one]
   all_goals repeat' (first | apply And.intro | intro _)
   refine hK249 _ ?_
   refine condT_k (by first | rfl | (simp [go_sem, P5.ls, ic0, ic1, ic2, ic3, ic4, ic5, Int.reduceMod, Int.reduceTMod, Int.toNat_one]; done)) ?_
   refine region_k fun K250 hK250 => ?_
   simp only [go_sem, P5.ls, ic0, ic1, ic2, ic3, ic4, ic5, Int.reduceMod, Int.reduceTMod, Int.toNat_one]
   all_goals repeat' (first | apply And.intro | intro _)
   refine hK250 _ ?_
   refine hN248 _ ?_
   refine region_k fun K251 hK251 => ?_
   simp only [go_sem, P5.ls, ic0, ic1, ic2, ic3, ic4, ic5, Int.reduceMod, Int.reduceTMod, Int.toNat_one]
   all_goals repeat' (first | apply And.intro | intro _)
   refine hK251 _ ?_
   refine bn245 _ ?_
   refine hN244 _ ?_
   refine region_k fun K252 hK252 => ?_
   simp only [go_sem, P5.ls, ic0, ic1, ic2, ic3, ic4, ic5, Int.reduceMod, Int.reduceTMod, Int.toNat_one]
   all_goals repeat' (first | apply And.intro | intro _)
   refine hK252 _ ?_
   refine hN241 _ ?_
   refine rnd_forget [8, 9, 10, 18, 19, 20, 21, 22, 23, 24, 25, 26, 27, 28, 29, 30, 31, 32, 33, 34, 35, 36, 37, 38, 39] ?_
   simp only [go_sem, St.forget, fgt]
   refine rnd_k fun N253 M253 hN253 hM253 => ?_
   refine sr_k fun K254 hK254 => ?_
   simp only [go_sem, P5.ls, ic0, ic1, ic2, ic3, ic4, ic5, Int.reduceMod, Int.reduceTMod, Int.toNat_one]
   all_goals repeat' (first | apply And.intro | intro _)
   refine hK254 _ ?_
   refine seq_k fun N255 M255 hN255 hM255 => ?_
   refine condT_k (by first | rfl | (simp [go_sem, P5.ls, ic0, ic1, ic2, ic3, ic4, ic5, Int.reduceMod, Int.reduceTMod, Int.toNat_one]; done)) ?_
   refine skip_k ?_
   refine hN255 _ ?_
   refine seq_k fun N256 M256 hN256 hM256 => ?_
   refine block_k fun B257 bn257 bx257 br257 bi257 => ?_
   refine sr_k fun K258 hK258 => ?_
   simp only [go_sem, P5.ls, ic0, ic1, ic2, ic3, ic4, ic5, Int.reduceMod, Int.reduceTMod, Int.toNat_one]
   all_goals repeat' (first | apply And.intro | intro _)
   refine hK258 _ ?_
   refine sr_k fun K259 hK259 => ?_
   simp only [go_sem, P5.ls, ic0, ic1, ic2, ic3, ic4, ic5, Int.reduceMod, Int.reduceTMod, Int.toNat_one]
   all_goals repeat' (first | apply And.intro | intro _)
   refine hK259 _ ?_
   refine seq_k fun N260 M260 hN260 hM260 => ?_
   refine sr_k fun K261 hK261 => ?_
   simp only [go_sem, P5.ls, ic0, ic1, ic2, ic3, ic4, ic5, Int.reduceMod, Int.reduceTMod, Int.toNat_one]
   all_goals repeat' (first | apply And.intro | intro _)
   refine hK261 _ ?_
   refine condT_k (by first | rfl | (simp [go_sem, P5.ls, ic0, ic1, ic2, ic3, ic4, ic5, Int.reduceMod, Int.reduceTMod, Int.toNat_one]; done)) ?_
   refine region_k fun K262 hK262 => ?_
   simp only [go_sem, P5.ls, ic0, ic1, ic2, ic3, ic4, ic5, Int.reduceMod, Int.reduceTMod, Int.toNat_one]
   all_goals repeat' (first | apply And.intro | intro _)
   refine hK262 _ ?_
   refine hN260 _ ?_
   refine region_k fun K263 hK263 => ?_
   simp only [go_sem, P5.ls, ic0, ic1, ic2, ic3, ic4, ic5, Int.reduceMod, Int.reduceTMod, Int.toNat_one]
   all_goals repeat' (first | apply And.intro | intro _)
   refine hK263 _ ?_
   refine bn257 _ ?_
   refine hN256 _ ?_
   refine region_k fun K264 hK264 => ?_
   simp only [go_sem, P5.ls, ic0, ic1, ic2, ic3, ic4, ic5, Int.reduceMod, Int.reduceTMod, Int.toNat_one]
   all_goals repeat' (first | apply And.intro | intro _)
   refine hK264 _ ?_
   refine hN253 _ ?_
   refine rnd_forget [8, 9, 10, 18, 19, 20, 21, 22, 23, 24, 25, 26, 27, 28, 29, 30, 31, 32, 33, 34, 35, 36, 37, 38, 39] ?_
   simp only [go_sem, St.forget, fgt]
   refine rnd_k fun N265 M265 hN265 hM265 => ?_
   refine sr_k fun K266 hK266 => ?_
   simp only [go_sem, P5.ls, ic0, ic1, ic2, ic3, ic4, ic5, Int.reduceMod, Int.reduceTMod, Int.toNat_one]
   all_goals repeat' (first | apply And.intro | intro _)
   refine hK266 _ ?_
   refine seq_k fun N267 M267 hN267 hM267 => ?_
   refine condT_k (by first | rfl | (simp [go_sem, P5.ls, ic0, ic1, ic2, ic3, ic4, ic5, Int.reduceMod, Int.reduceTMod, Int.toNat_one]; done)) ?_
   refine skip_k ?_
   refine hN267 _ ?_
   refine seq_k fun N268 M268 hN268 hM268 => ?_
   refine block_k fun B269 bn269 bx269 br269 bi269 => ?_
   refine sr_k fun K270 hK270 => ?_
   simp only [go_sem, P5.ls, ic0, ic1, ic2, ic3, ic4, ic5, Int.reduceMod, Int.reduceTMod, Int.toNat_one]
   all_goals repeat' (first | apply And.intro | intro _)
   refine hK270 _ ?_
   refine sr_k fun K271 hK271 => ?_
   simp only [go_sem, P5.ls, ic0, ic1, ic2, ic3, ic4, ic5, Int.reduceMod, Int.reduceTMod, Int.toNat_one]
   all_goals repeat' (first | apply And.intro | intro _)
   refine hK271 _ ?_
   refine seq_k fun N272 M272 hN272 hM272 => ?_
   refine sr_k fun K273 hK273 => ?_
   simp only [go_sem, P5.ls, ic0, ic1, ic2, ic3, ic4, ic5, Int.reduceMod, Int.reduceTMod, Int.toNat_one]
   all_goals repeat' (first | apply And.intro | intro _)
   refine hK273 _ ?_
   refine condT_k (by first | rfl | (simp [go_sem, P5.ls, ic0, ic1, ic2, ic3, ic4, ic5, Int.reduceMod, Int.reduceTMod, Int.toNat_one]; done)) ?_
   refine region_k fun K274 hK274 => ?_
   simp only [go_sem, P5.ls, ic0, ic1, ic2, ic3, ic4, ic5, Int.reduceMod, Int.reduceTMod, Int.toNat_one]
   all_goals repeat' (first | apply And.intro | intro _)
   refine hK274 _ ?_
   refine hN272 _ ?_
   refine region_k fun K275 hK275 => ?_
   simp only [go_sem, P5.ls, ic0, ic1, ic2, ic3, ic4, ic5, Int.reduceMod, Int.reduceTMod, Int.toNat_one]
   all_goals repeat' (first | apply And.intro | intro _)
   refine hK275 _ ?_
   refine bn269 _ ?_
   refine hN268 _ ?_
   refine region_k fun K276 hK276 => ?_
   simp only [go_sem, P5.ls, ic0, ic1, ic2, ic3, ic4, ic5, Int.reduceMod, Int.reduceTMod, Int.toNat_one]
   all_goals repeat' (first | apply And.intro | intro _)
   refine hK276 _ ?_
   refine hN265 _ ?_
   refine rnd_forget [8, 9, 10, 18, 19, 20, 21, 22, 23, 24, 25, 26, 27, 28, 29, 30, 31, 32, 33, 34, 35, 36, 37, 38, 39] ?_
   simp only [go_sem, St.forget, fgt]
   refine rnd_k fun N277 M277 hN277 hM277 => ?_
   refine sr_k fun K278 hK278 => ?_
   simp only [go_sem, P5.ls, ic0, ic1, ic2, ic3, ic4, ic5, Int.reduceMod, Int.reduceTMod, Int.toNat_one]
   all_goals repeat' (first | apply And.intro | intro _)
   refine hK278 _ ?_
   refine seq_k fun N279 M279 hN279 hM279 => ?_
   refine condF_k (by first | rfl | (simp [go_sem, P5.ls, ic0, ic1, ic2, ic3, ic4, ic5, Int.reduceMod, Int.reduceTMod, Int.toNat_one]; done)) ?_
   refine exit_k ?_
   refine hM279 _ _ ?_
   refine hM277 _ _ ?_
   refine bx217 _ ?_
   refine bn214 _ ?_
   refine hN213 _ ?_
   refine region_k fun K280 hK280 => ?_
   simp only [go_sem, P5.ls, ic0, ic1, ic2, ic3, ic4, ic5, Int.reduceMod, Int.reduceTMod, Int.toNat_one]
   all_goals repeat' (first | apply And.intro | intro _)
   refine hK280 _ ?_
   refine hN6 ⟨4, by omega⟩ _ ?_ ?_ ?_
   · (show 5 - (3 + 1) < 5 - 3; omega)
   · (simp only [go_sem, leX, List.cons_append, List.nil_append]; try simp)
   · (simp only [mulN, go_sem, leX, List.cons_append, List.nil_append]; first | done | (simp [mulN, mul5, P5.ls, leX, look]; done) | rfl)
 · simp only [mulN]
   refine sr_k fun K281 hK281 => ?_
   simp only [go_sem, P5.ls, ic0, ic1, ic2, ic3, ic4, ic5, Int.reduceMod, Int.reduceTMod, Int.toNat_one]
   all_goals repeat' (first | apply And.intro | intro _)
   refine hK281 _ ?_
   refine seq_k fun N282 M282 hN282 hM282 => ?_
   refine condT_k (by first | rfl | (simp [go_sem, P5.ls, ic0, ic1, ic2, ic3, ic4, ic5, Int.reduceMod, Int.reduceTMod, Int.toNat_one]; done)) ?_
   refine skip_k ?_
   refine hN282 _ ?_
   refine seq_k fun N283 M283 hN283 hM283 => ?_
   refine block_k fun B284 bn284 bx284 br284 bi284 => ?_
   refine sr_k fun K285 hK285 => ?_
   simp only [go_sem, P5.ls, ic0, ic1, ic2, ic3, ic4, ic5, Int.reduceMod, Int.reduceTMod, Int.toNat_one]
   all_goals repeat' (first | apply And.intro | intro _)
   refine hK285 _ ?_
   refine sr_k fun K286 hK286 => ?_
   simp only [go_sem, P5.ls, ic0, ic1, ic2, ic3, ic4, ic5, Int.reduceMod, Int.reduceTMod, Int.toNat_one]
   all_goals repeat' (first | apply And.intro | intro _)
   refine hK286 _ ?_
   refine block_k fun B287 bn287 bx287 br287 bi287 => ?_
   refine rounds_k 6 ?_
   refine rnd_k fun N289 M289 hN289 hM289 => ?_
   refine sr_k fun K290 hK290 => ?_
   simp only [go_sem, P5.ls, ic0, ic1, ic2, ic3, ic4, ic5, Int.reduceMod, Int.reduceTMod, Int.toNat_one]
   all_goals repeat' (first | apply And.intro | intro _)
   refine hK290 _ ?_
   refine seq_k fun N291 M291 hN291 hM291 => ?_
   refine condT_k (by first | rfl | (simp [go_sem, P5.ls, ic0, ic1, ic2, ic3, ic4, ic5, Int.reduceMod, Int.reduceTMod, Int.toNat_one]; done)) ?_
   refine skip_k ?_
   refine hN291 _ ?_
   refine seq_k fun N292 M292 hN292 hM292 => ?_
   refine block_k fun B293 bn293 bx293 br293 bi293 => ?_
   refine sr_k fun K294 hK294 => ?_
   simp only [go_sem, P5.ls, ic0, ic1, ic2, ic3, ic4, ic5, Int.reduceMod, Int.reduceTMod, Int.toNat_one]
   all_goals repeat' (first | apply And.intro | intro _)
   refine hK294 _ ?_
   refine sr_k fun K295 hK295 => ?_
   simp only [go_sem, P5.ls, ic0, ic1, ic2, ic3, ic4, ic5, Int.reduceMod, Int.reduceTMod, Int.toNat_one]
   all_goals repeat' (first | apply And.intro | intro _)
   refine hK295 _ ?_
   refine seq_k fun N296 M296 hN296 hM296 => ?_
   refine sr_k fun K297 hK297 => ?_
   simp only [go_sem, P5.ls, ic0, ic1, ic2, ic3, ic4, ic5, Int.reduceMod, Int.reduceTMod, Int.toNat_one]
   all_goals repeat' (first | apply And.intro | intro _)
   refine hK297 _ ?_
   refine condF_k (by first | rfl | (simp [go_sem, P5.ls, ic0, ic1, ic2, ic3, ic4, ic5, Int.reduceMod, Int.reduceTMod, Int.toNat_one]; done)) ?_
   refine skip_k ?_
   refine hN296 _ ?_
   refine region_k fun K298 hK298 => ?_
   simp only [go_sem, P5.ls, ic0, ic1, ic2, ic3, ic4, ic5, Int.reduceMod, Int.reduceTMod, Int.toNat_one]
   all_goals repeat' (first | apply And.intro | intro _)
   refine hK298 _ ?_
   refine bn293 _ ?_
   refine hN292 _ ?_
   refine region_k fun K299 hK299 => ?_
   simp only [go_sem, P5.ls, ic0, ic1, ic2, ic3, ic4, ic5, Int.reduceMod, Int.reduceTMod, Int.toNat_one]
   all_goals repeat' (first | apply And.intro | intro _)
   refine hK299 _ ?_
   refine hN289 _ ?_
   refine rnd_forget [8, 9, 10, 18, 19, 20, 21, 22, 23, 24, 25, 26, 27, 28, 29, 30, 31, 32, 33, 34, 35, 36, 37, 38, 39] ?_
   simp only [go_sem, St.forget, fgt]
   refine rnd_k fun N300 M300 hN300 hM300 => ?_
   refine sr_k fun K301 hK301 => ?_
   simp only [go_sem, P5.ls, ic0, ic1, ic2, ic3, ic4, ic5, Int.reduceMod, Int.reduceTMod, Int.toNat_one]
   all_goals repeat' (first | apply And.intro | intro _)
   refine hK301 _ ?_
   refine seq_k fun N302 M302 hN302 hM302 => ?_
   refine condT_k (by first | rfl | (simp [go_sem, P5.ls, ic0, ic1, ic2, ic3, ic4, ic5, Int.reduceMod, Int.reduceTMod, Int.toNat_one]; done)) ?_
   refine skip_k ?_
   refine hN302 _ ?_
   refine seq_k fun N303 M303 hN303 hM303 => ?_
   refine block_k fun B304 bn304 bx304 br304 bi304 => ?_
   refine sr_k fun K305 hK305 => ?_
   simp only [go_sem, P5.ls, ic0, ic1, ic2, ic3, ic4, ic5, Int.reduceMod, Int.reduceTMod, Int.toNat_one]
   all_goals repeat' (first | apply And.intro | intro _)
   refine hK305 _ ?_
   refine sr_k fun K306 hK306 => ?_
   simp only [go_sem, P5.ls, ic0, ic1, ic2, ic3, ic4, ic5, Int.reduceMod, Int.reduceTMod, Int.toNat_one]
   all_goals repeat' (first | apply And.intro | intro _)
   refine hK306 _ ?_
   refine seq_k fun N307 M307 hN307 hM307 => ?_
   refine sr_k fun K308 hK308 => ?_
   simp only [go_sem, P5.ls, ic0, ic1, ic2, ic3, ic4, ic5, Int.reduceMod, Int.reduceTMod, Int.toNat_one]
   all_goals repeat' (first | apply And.intro | intro _)
   refine hK308 _ ?_
   refine condT_k (by first | rfl | (simp [go_sem, P5.ls, ic0, ic1, ic2, ic3, ic4, ic5, Int.reduceMod, Int.reduceTMod, Int.toNat_one]; done)) ?_
   refine region_k fun K309 hK309 => ?_
   simp only [go_sem, P5.ls, ic0, ic1, ic2, ic3, ic4, ic5, Int.reduceMod, Int.reduceTMod, Int.toNat_one]
   all_goals repeat' (first | apply And.intro | intro _)
   refine hK309 _ ?_
   refine hN307 _ ?_
   refine region_k fun K310 hK310 => ?_
   simp only [go_sem, P5.ls, ic0, ic1, ic2, ic3, ic4, ic5, Int.reduceMod, Int.reduceTMod, Int.toNat_one]
   all_goals repeat' (first | apply And.intro | intro _)
   refine hK310 _ ?_
   refine bn304 _ ?_
   refine hN303 _ ?_
   refine region_k fun K311 hK311 => ?_
   simp only [go_sem, P5.ls, ic0, ic1, ic2, ic3, ic4, ic5, Int.reduceMod, Int.reduceTMod, Int.toNat_one]
   all_goals repeat' (first | apply And.intro | intro _)
   refine hK311 _ ?_
   refine hN300 _ ?_
   refine rnd_forget [8, 9, 10, 18, 19, 20, 21, 22, 23, 24, 25, 26, 27, 28, 29, 30, 31, 32, 33, 34, 35, 36, 37, 38, 39] ?_
   simp only [go_sem, St.forget, fgt]
   refine rnd_k fun N312 M312 hN312 hM312 => ?_
   refine sr_k fun K313 hK313 => ?_
   simp only [go_sem, P5.ls, ic0, ic1, ic2, ic3, ic4, ic5, Int.reduceMod, Int.reduceTMod, Int.toNat_one]
   all_goals repeat' (first | apply And.intro | intro _)
   refine hK313 _ ?_
   refine seq_k fun N314 M314 hN314 hM314 => ?_
   refine condT_k (by first | rfl | (simp [go_sem, P5.ls, ic0, ic1, ic2, ic3, ic4, ic5, Int.reduceMod, Int.reduceTMod, Int.toNat_one]; done)) ?_
   refine skip_k ?_
   refine hN314 _ ?_
   refine seq_k fun N315 M315 hN315 hM315 => ?_
   refine block_k fun B316 bn316 bx316 br316 bi316 => ?_
   refine sr_k fun K317 hK317 => ?_
   simp only [go_sem, P5.ls, ic0, ic1, ic2, ic3, ic4, ic5, Int.reduceMod, Int.reduceTMod, Int.toNat_one]
   all_goals repeat' (first | apply And.intro | intro _)
   refine hK317 _ ?_
   refine sr_k fun K318 hK318 => ?_
   simp only [go_sem, P5.ls, ic0, ic1, ic2, ic3, ic4, ic5, Int.reduceMod, Int.reduceTMod, Int.toNat_one]
   all_goals repeat' (first | apply And.intro | intro _)
   refine hK318 _ ?_
   refine seq_k fun N319 M319 hN319 hM319 => ?_
   refine sr_k fun K320 hK320 => ?_
   simp only [go_sem, P5.ls, ic0, ic1, ic2, ic3, ic4, ic5, Int.reduceMod, Int.reduceTMod, Int.toNat_one]
   all_goals repeat' (first | apply And.intro | intro _)
   refine hK320 _ ?_
   refine condT_k (by first | rfl | (simp [go_sem, P5.ls, ic0, ic1, ic2, ic3, ic4, ic5, Int.reduceMod, Int.reduceTMod, Int.toNat_one]; done)) ?_
   refine region_k fun K321 hK321 => ?_
   simp only [go_sem, P5.ls, ic0, ic1, ic2, ic3, ic4, ic5, Int.reduceMod, Int.reduceTMod, Int.toNat_one]
   all_goals repeat' (first | apply And.intro | intro _)
   refine hK321 _ ?_
   refine hN319 _ ?_
   refine region_k fun K322 hK322 => ?_
   simp only [go_sem, P5.ls, ic0, ic1, ic2, ic3, ic4, ic5, Int.reduceMod, Int.reduceTMod, Int.toNat_one]
   all_goals repeat' (first | apply And.intro | intro _)
   refine hK322 _ ?_
   refine bn316 _ ?_
   refine hN315 _ ?_
   refine region_k fun K323 hK323 => ?_
   simp only [go_sem, P5.ls, ic0, ic1, ic2, ic3, ic4, ic5, Int.reduceMod, Int.reduceTMod, Int.toNat_one]
   all_goals repeat' (first | apply And.intro | intro _)
   refine hK323 _ ?_
   refine hN312 _ ?_
   refine rnd_forget [8, 9, 10, 18, 19, 20, 21, 22, 23, 24, 25, 26, 27, 28, 29, 30, 31, 32, 33, 34, 35, 36, 37, 38, 39] ?_
   simp only [go_sem, St.forget, fgt]
   refine rnd_k fun N324 M324 hN324 hM324 => ?_
   refine sr_k fun K325 hK325 => ?_
   simp only [go_sem, P5.ls, ic0, ic1, ic2, ic3, ic4, ic5, Int.reduceMod, Int.reduceTMod, Int.toNat_one]
   all_goals repeat' (first | apply And.intro | intro _)
   refine hK325 _ ?_
   refine seq_k fun N326 M326 hN326 hM326 => ?_
   refine condT_k (by first | rfl | (simp [go_sem, P5.ls, ic0, ic1, ic2, ic3, ic4, ic5, Int.reduceMod, Int.reduceTMod, Int.toNat_one]; done)) ?_
   refine skip_k ?_
   refine hN326 _ ?_
   refine seq_k fun N327 M327 hN327 hM327 => ?_
   refine block_k fun B328 bn328 bx328 br328 bi328 => ?_
   refine sr_k fun K329 hK329 => ?_
   simp only [go_sem, P5.ls, ic0, ic1, ic2, ic3, ic4, ic5, Int.reduceMod, Int.reduceTMod, Int.toNat_one]
   all_goals repeat' (first | apply And.intro | intro _)
   refine hK329 _ ?_
   refine sr_k fun K330 hK330 => ?_
   simp only [go_sem, P5.ls, ic0, ic1, ic2, ic3, ic4, ic5, Int.reduceMod, Int.reduceTMod, Int.toNat_one]
   all_goals repeat' (first | apply And.intro | intro _)
   refine hK330 _ ?_
   refine seq_k fun N331 M331 hN331 hM331 => ?_
   refine sr_k fun K332 hK332 => ?_
   simp only [go_sem, P5.ls, ic0, ic1, ic2, ic3, ic4, ic5, Int.reduceMod, Int.reduceTMod, Int.toNat_one]
   all_goals repeat' (first | apply And.intro | intro _)
   refine hK332 _ ?_
   refine condT_k (by first | rfl | (simp [go_sem, P5.ls, ic0, ic1, ic2, ic3, ic4, ic5, Int.reduceMod, Int.reduceTMod, Int.toNat_one]; done)) ?_
   refine region_k fun K333 hK333 => ?_
   simp only [go_sem, P5.ls, ic0, ic1, ic2, ic3, ic4, ic5, Int.reduceMod, Int.reduceTMod, Int.toNat_one]
   all_goals repeat' (first | apply And.intro | intro _)
   refine hK333 _ ?_
   refine hN331 _ ?_
   refine region_k fun K334 hK334 => ?_
   simp only [go_sem, P5.ls, ic0, ic1, ic2, ic3, ic4, ic5, Int.reduceMod, Int.reduceTMod, Int.toNat_one]
   all_goals repeat' (first | apply And.intro | intro _)
   refine hK334 _ ?_
   refine bn328 _ ?_
   refine hN327 _ ?_
   refine region_k fun K335 hK335 => ?_
   simp only [go_sem, P5.ls, ic0, ic1, ic2, ic3, ic4, ic5, Int.reduceMod, Int.reduceTMod, Int.toNat_one]
   all_goals repeat' (first | apply And.intro | intro _)
   refine hK335 _ ?_
   refine hN324 _ ?_
   refine rnd_forget [8, 9, 10, 18, 19, 20, 21, 22, 23, 24, 25, 26, 27, 28, 29, 30, 31, 32, 33, 34, 35, 36, 37, 38, 39] ?_
   simp only [go_sem, St.forget, fgt]
   refine rnd_k fun N336 M336 hN336 hM336 => ?_
   refine sr_k fun K337 hK337 => ?_
   simp only [go_sem, P5.ls, ic0, ic1, ic2, ic3, ic4, ic5, Int.reduceMod, Int.reduceTMod, Int.toNat_one]
   all_goals repeat' (first | apply And.intro | intro _)
   refine hK337 _ ?_
   refine seq_k fun N338 M338 hN338 hM338 => ?_
   refine condT_k (by first | rfl | (simp [go_sem, P5.ls, ic0, ic1, ic2, ic3, ic4, ic5, Int.reduceMod, Int.reduceTMod, Int.toNat_one]; done)) ?_
   refine skip_k ?_
   refine hN338 _ ?_
   refine seq_k fun N339 M339 hN339 hM339 => ?_
   refine block_k fun B340 bn340 bx340 br340 bi340 => ?_
   refine sr_k fun K341 hK341 => ?_
   simp only [go_sem, P5.ls, ic0, ic1, ic2, ic3, ic4, ic5, Int.reduceMod, Int.reduceTMod, Int.toNat_one]
   all_goals repeat' (first | apply And.intro | intro _)
   refine hK341 _ ?_
   refine sr_k fun K342 hK342 => ?_
   simp only [go_sem, P5.ls, ic0, ic1, ic2, ic3, ic4, ic5, Int.reduceMod, Int.reduceTMod, Int.toNat_one]
   all_goals repeat' (first | apply And.intro | intro _)
   refine hK342 _ ?_
   refine seq_k fun N343 M343 hN343 hM343 => ?_
   refine sr_k fun K344 hK344 => ?_
   simp only [go_sem, P5.ls, ic0, ic1, ic2, ic3, ic4, ic5, Int.reduceMod, Int.reduceTMod, Int.toNat_one]
   all_goals repeat' (first | apply And.intro | intro _)
   refine hK344 _ ?_
   refine condT_k (by first | rfl | (simp [go_sem, P5.ls, ic0, ic1, ic2, ic3, ic4, ic5, Int.reduceMod, Int.reduceTMod, Int.toNat_one]; done)) ?_
   refine region_k fun K345 hK345 => ?_
   simp only [go_sem, P5.ls, ic0, ic1, ic2, ic3, ic4, ic5, Int.reduceMod, Int.reduceTMod, Int.toNat_one]
   all_goals repeat' (first | apply And.intro | intro _)
   refine hK345 _ ?_
   refine hN343 _ ?_
   refine region_k fun K346 hK346 => ?_
   simp only [go_sem, P5.ls, ic0, ic1, ic2, ic3, ic4, ic5, Int.reduceMod, Int.reduceTMod, Int.toNat_one]
   all_goals repeat' (first | apply And.intro | intro _)
   refine hK346 _ ?_
   refine bn340 _ ?_
   refine hN339 _ ?_
   refine region_k fun K347 hK347 => ?_
   simp only [go_sem, P5.ls, ic0, ic1, ic2, ic3, ic4, ic5, Int.reduceMod, Int.reduceTMod, Int.toNat_one]
   all_goals repeat' (first | apply And.intro | intro _)
   refine hK347 _ ?_
   refine hN336 _ ?_
   refine rnd_forget [8, 9, 10, 18, 19, 20, 21, 22, 23, 24, 25, 26, 27, 28, 29, 30, 31, 32, 33, 34, 35, 36, 37, 38, 39] ?_
   simp only [go_sem, St.forget, fgt]
   refine rnd_k fun N348 M348 hN348 hM348 => ?_
   refine sr_k fun K349 hK349 => ?_
   simp only [go_sem, P5.ls, ic0, ic1, ic2, ic3, ic4, ic5, Int.reduceMod, Int.reduceTMod, Int.toNat_one]
   all_goals repeat' (first | apply And.intro | intro _)
   refine hK349 _ ?_
   refine seq_k fun N350 M350 hN350 hM350 => ?_
   refine condF_k (by first | rfl | (simp [go_sem, P5.ls, ic0, ic1, ic2, ic3, ic4, ic5, Int.reduceMod, Int.reduceTMod, Int.toNat_one]; done)) ?_
   refine exit_k ?_
   refine hM350 _ _ ?_
   refine hM348 _ _ ?_
   refine bx287 _ ?_
   refine bn284 _ ?_
   refine hN283 _ ?_
   refine region_k fun K351 hK351 => ?_
   simp only [go_sem, P5.ls, ic0, ic1, ic2, ic3, ic4, ic5, Int.reduceMod, Int.reduceTMod, Int.toNat_one]
   all_goals repeat' (first | apply And.intro | intro _)
   refine hK351 _ ?_
   refine hN6 ⟨5, by omega⟩ _ ?_ ?_ ?_
   · (show 5 - (4 + 1) < 5 - 4; omega)
   · (simp only [go_sem, leX, List.cons_append, List.nil_append]; try simp)
   · (simp only [mulN, go_sem, leX, List.cons_append, List.nil_append]; first | done | (simp [mulN, mul5, P5.ls, leX, look]; done) | rfl)
 · simp only [mulN]
   refine sr_k fun K352 hK352 => ?_
   simp only [go_sem, P5.ls, ic0, ic1, ic2, ic3, ic4, ic5, Int.reduceMod, Int.reduceTMod, Int.toNat_one]
   all_goals repeat' (first | apply And.intro | intro _)
   refine hK352 _ ?_
   refine seq_k fun N353 M353 hN353 hM353 => ?_
   refine condF_k (by first | rfl | (simp [go_sem, P5.ls, ic0, ic1, ic2, ic3, ic4, ic5, Int.reduceMod, Int.reduceTMod, Int.toNat_one]; done)) ?_
   refine exit_k ?_
   refine hM353 _ _ ?_
   refine hM6 _ _ ?_
   refine bx5 _ ?_
   refine hN3 _ ?_
   refine sr_k fun K354 hK354 => ?_
   simp only [go_sem, P5.ls, ic0, ic1, ic2, ic3, ic4, ic5, Int.reduceMod, Int.reduceTMod, Int.toNat_one]
   all_goals repeat' (first | apply And.intro | intro _)
   all_goals refine call_view (fun k => k) (fun _ _ => rfl) (by first | rfl | (simp only [go_sem, P5.ls, ic0, ic1, ic2, ic3, ic4, ic5, Int.reduceMod, Int.reduceTMod, Int.toNat_one]; rfl) | simp only [go_sem, P5.ls, ic0, ic1, ic2, ic3, ic4, ic5, Int.reduceMod, Int.reduceTMod, Int.toNat_one]) ((carried_of (mul5 p r)).plain fun _ _ h => h) ?_
   all_goals (rintro v m ⟨hR, hm⟩; subst hR; subst hm)
   all_goals refine And.intro (by first | rfl | simp only [go_sem, P5.ls, ic0, ic1, ic2, ic3, ic4, ic5, Int.reduceMod, Int.reduceTMod, Int.toNat_one]) (And.intro (by first | rfl | simp only [go_sem, P5.ls, ic0, ic1, ic2, ic3, ic4, ic5, Int.reduceMod, Int.reduceTMod, Int.toNat_one]) ?_)
   all_goals simp only [go_sem, P5.ls, ic0, ic1, ic2, ic3, ic4, ic5, Int.reduceMod, Int.reduceTMod, Int.toNat_one]
   all_goals repeat' (first | apply And.intro | intro _)
   refine hK354 _ ?_
   refine ret_k ?_
   simp only [go_sem, P5.ls, ic0, ic1, ic2, ic3, ic4, ic5, Int.reduceMod, Int.reduceTMod, Int.toNat_one]
   all_goals (first | rfl | (simp only [P5.ls]; done) | trace_state)
end Go.Sy
