/- Walks: five parts of 26 bits. -/
import Derived.Test.YthcpkdhojokhdaaveE2
set_option linter.unusedVariables false
set_option linter.unusedSimpArgs false
namespace Go.Sy
open Go.Proofs
attribute [local irreducible] atCall HT runOps runD onC onE onO onG goV goA goS onSt onGuard
def P5.ls (p : P5) : List L := [.pl (.u64 p.a), .pl (.u64 p.b), .pl (.u64 p.c), .pl (.u64 p.d), .pl (.u64 p.e)]
def passN : Nat → P5 → P5
 | 0, p => p
 | k + 1, p => (passN k p).pass
def W3 (x y z : UInt64) : List L := [.pl (.u64 x), .pl (.u64 y), .pl (.u64 z)]
set_option maxHeartbeats 400000 in
theorem parts_of (x y z : UInt64) :
 Ct Try.prog 41 [.w (.agg (W3 x y z))] (fun v m => v = .w (.agg (parts3 x y z).ls)) := by
 refine Ct.k Try.func41 rfl Try.ntmps41 (congrArg Array.toList Try.results41) (by simp) fun w0 ro => ?_
 refine sr_k fun K1 hK1 => ?_
 simp only [go_sem, W3]
 all_goals repeat' (first | apply And.intro | intro _)
 refine hK1 _ ?_
 refine sr_k fun K2 hK2 => ?_
 simp only [go_sem, W3]
 all_goals repeat' (first | apply And.intro | intro _)
 refine hK2 _ ?_
 refine ret_k ?_
 simp only [go_sem, W3]
 all_goals rfl
set_option maxHeartbeats 400000 in
theorem whole_ (a b c d e : UInt64) :
 Ct Try.prog 43 [.w (.agg [.pl (.u64 a), .pl (.u64 b), .pl (.u64 c), .pl (.u64 d), .pl (.u64 e)])] (fun v m => v = .w (.agg (W3 (P5.w0 ⟨a, b, c, d, e⟩) (P5.w1 ⟨a, b, c, d, e⟩) (P5.w2 ⟨a, b, c, d, e⟩)))) := by
 refine Ct.k Try.func43 rfl Try.ntmps43 (congrArg Array.toList Try.results43) (by simp) fun w0 ro => ?_
 refine sr_k fun K1 hK1 => ?_
 simp only [go_sem]
 all_goals repeat' (first | apply And.intro | intro _)
 refine hK1 _ ?_
 refine sr_k fun K2 hK2 => ?_
 simp only [go_sem]
 all_goals repeat' (first | apply And.intro | intro _)
 refine hK2 _ ?_
 refine ret_k ?_
 simp only [go_sem]
 all_goals rfl
set_option maxHeartbeats 1600000 in
theorem carried_ (a b c d e : UInt64) :
 Ct Try.prog 42 [.w (.agg [.pl (.u64 a), .pl (.u64 b), .pl (.u64 c), .pl (.u64 d), .pl (.u64 e)])] (fun v m => v = .w (.agg (P5.carried ⟨a, b, c, d, e⟩).ls)) := by
 refine Ct.k Try.func42 rfl Try.ntmps42 (congrArg Array.toList Try.results42) (by simp) fun w0 ro => ?_
 refine sr_k fun K1 hK1 => ?_
 simp only [go_sem]
 all_goals repeat' (first | apply And.intro | intro _)
 refine hK1 _ ?_
 refine seq_k fun N2 M2 hN2 hM2 => ?_
 refine sr_k fun K3 hK3 => ?_
 simp only [go_sem]
 all_goals repeat' (first | apply And.intro | intro _)
 refine hK3 _ ?_
 refine block_k fun B4 bn4 bx4 br4 bi4 => ?_
 refine ht_dropE [0] ?_
 simp only [dropE_mk, fgt_nil, fgt_cons, List.contains_cons, List.contains_nil, Nat.reduceBEq, beq_self_eq_true, Bool.or_false, Bool.or_true, Bool.true_or, Bool.false_or, Bool.false_eq_true, reduceIte]
 refine loop_k (fun y => [(7, .w (.one (.pl (.i ((y.1 : Nat) : Int)))))]) (fun y => [(1, ⟨false, (passN y.1 ⟨a, b, c, d, e⟩).ls⟩)]) (fun y => 3 - y.1) (⟨0, by omega⟩ : {y : Nat // y ≤ 3}) ?_ ?_ ?_
 · (simp only [go_sem, P5.ls, passN, leX, List.cons_append, List.nil_append]; try simp)
 · (simp only [go_sem, P5.ls, passN, leX, List.cons_append, List.nil_append]; try simp)
 intro yy N5 M5 hN5 hM5
 simp only [List.cons_append, List.nil_append]
 obtain ⟨j, hj⟩ := yy
 rcases Nat.lt_or_ge j 3 with hlt | hge
 rotate_left
 obtain ⟨q, hq⟩ : ∃ q, passN j ⟨a, b, c, d, e⟩ = q := ⟨_, rfl⟩
 have hd := Classical.em (0 < sh26 q.f5)
 rcases hd with hcar | hcar
 rotate_left 2
 · have hc : ((j : Nat) : Int) < 3 := by omega
   have hs1 : Go.RowKit.wrap64 (((j : Nat) : Int) + 1) = ((j + 1 : Nat) : Int) := wnat (by omega) (by omega)
   obtain ⟨q, hq⟩ : ∃ q, passN j ⟨a, b, c, d, e⟩ = q := ⟨_, rfl⟩
   obtain ⟨qa, qb, qc, qd, qe⟩ := q
   simp only [hq, P5.ls]
   refine sr_k fun K6 hK6 => ?_
   simp only [go_sem, hc, hs1]
   all_goals repeat' (first | apply And.intro | intro _)
   refine hK6 _ ?_
   refine seq_k fun N7 M7 hN7 hM7 => ?_
   refine condT_k (by first | rfl | (simp [go_sem, hc, hs1]; done)) ?_
   refine skip_k ?_
   refine hN7 _ ?_
   refine seq_k fun N8 M8 hN8 hM8 => ?_
   refine block_k fun B9 bn9 bx9 br9 bi9 => ?_
   refine sr_k fun K10 hK10 => ?_
   simp only [go_sem, hc, hs1]
   all_goals repeat' (first | apply And.intro | intro _)
   refine hK10 _ ?_
   refine seq_k fun N11 M11 hN11 hM11 => ?_
   refine sr_k fun K12 hK12 => ?_
   simp only [go_sem, hc, hs1]
   all_goals repeat' (first | apply And.intro | intro _)
   refine hK12 _ ?_
   refine block_k fun B13 bn13 bx13 br13 bi13 => ?_
   refine rounds_k 6 ?_
   refine rnd_k fun N15 M15 hN15 hM15 => ?_
   refine sr_k fun K16 hK16 => ?_
   simp only [go_sem, hc, hs1]
   all_goals repeat' (first | apply And.intro | intro _)
   refine hK16 _ ?_
   refine seq_k fun N17 M17 hN17 hM17 => ?_
   refine condT_k (by first | rfl | (simp [go_sem, hc, hs1]; done)) ?_
   refine skip_k ?_
   refine hN17 _ ?_
   refine seq_k fun N18 M18 hN18 hM18 => ?_
   refine block_k fun B19 bn19 bx19 br19 bi19 => ?_
   refine sr_k fun K20 hK20 => ?_
   simp only [go_sem, hc, hs1]
   all_goals repeat' (first | apply And.intro | intro _)
   refine hK20 _ ?_
   refine sr_k fun K21 hK21 => ?_
   simp only [go_sem, hc, hs1]
   all_goals repeat' (first | apply And.intro | intro _)
   refine hK21 _ ?_
   refine region_k fun K22 hK22 => ?_
   simp only [go_sem, hc, hs1]
   all_goals repeat' (first | apply And.intro | intro _)
   refine hK22 _ ?_
   refine bn19 _ ?_
   refine hN18 _ ?_
   refine region_k fun K23 hK23 => ?_
   simp only [go_sem, hc, hs1]
   all_goals repeat' (first | apply And.intro | intro _)
   refine hK23 _ ?_
   refine hN15 _ ?_
   refine rnd_forget [4, 10, 11, 12, 13, 14, 15, 16, 17, 18, 19, 20, 21, 22, 23] ?_
   simp only [go_sem, St.forget, fgt]
   refine rnd_k fun N24 M24 hN24 hM24 => ?_
   refine sr_k fun K25 hK25 => ?_
   simp only [go_sem, hc, hs1]
   all_goals repeat' (first | apply And.intro | intro _)
   refine hK25 _ ?_
   refine seq_k fun N26 M26 hN26 hM26 => ?_
   refine condT_k (by first | rfl | (simp [go_sem, hc, hs1]; done)) ?_
   refine skip_k ?_
   refine hN26 _ ?_
   refine seq_k fun N27 M27 hN27 hM27 => ?_
   refine block_k fun B28 bn28 bx28 br28 bi28 => ?_
   refine sr_k fun K29 hK29 => ?_
   simp only [go_sem, hc, hs1]
   all_goals repeat' (first | apply And.intro | intro _)
   refine hK29 _ ?_
   refine sr_k fun K30 hK30 => ?_
   simp only [go_sem, hc, hs1]
   all_goals repeat' (first | apply And.intro | intro _)
   refine hK30 _ ?_
   refine region_k fun K31 hK31 => ?_
   simp only [go_sem, hc, hs1]
   all_goals repeat' (first | apply And.intro | intro _)
   refine hK31 _ ?_
   refine bn28 _ ?_
   refine hN27 _ ?_
   refine region_k fun K32 hK32 => ?_
   simp only [go_sem, hc, hs1]
   all_goals repeat' (first | apply And.intro | intro _)
   refine hK32 _ ?_
   refine hN24 _ ?_
   refine rnd_forget [4, 10, 11, 12, 13, 14, 15, 16, 17, 18, 19, 20, 21, 22, 23] ?_
   simp only [go_sem, St.forget, fgt]
   refine rnd_k fun N33 M33 hN33 hM33 => ?_
   refine sr_k fun K34 hK34 => ?_
   simp only [go_sem, hc, hs1]
   all_goals repeat' (first | apply And.intro | intro _)
   refine hK34 _ ?_
   refine seq_k fun N35 M35 hN35 hM35 => ?_
   refine condT_k (by first | rfl | (simp [go_sem, hc, hs1]; done)) ?_
   refine skip_k ?_
   refine hN35 _ ?_
   refine seq_k fun N36 M36 hN36 hM36 => ?_
   refine block_k fun B37 bn37 bx37 br37 bi37 => ?_
   refine sr_k fun K38 hK38 => ?_
   simp only [go_sem, hc, hs1]
   all_goals repeat' (first | apply And.intro | intro _)
   refine hK38 _ ?_
   refine sr_k fun K39 hK39 => ?_
   simp only [go_sem, hc, hs1]
   all_goals repeat' (first | apply And.intro | intro _)
   refine hK39 _ ?_
   refine region_k fun K40 hK40 => ?_
   simp only [go_sem, hc, hs1]
   all_goals repeat' (first | apply And.intro | intro _)
   refine hK40 _ ?_
   refine bn37 _ ?_
   refine hN36 _ ?_
   refine region_k fun K41 hK41 => ?_
   simp only [go_sem, hc, hs1]
   all_goals repeat' (first | apply And.intro | intro _)
   refine hK41 _ ?_
   refine hN33 _ ?_
   refine rnd_forget [4, 10, 11, 12, 13, 14, 15, 16, 17, 18, 19, 20, 21, 22, 23] ?_
   simp only [go_sem, St.forget, fgt]
   refine rnd_k fun N42 M42 hN42 hM42 => ?_
   refine sr_k fun K43 hK43 => ?_
   simp only [go_sem, hc, hs1]
   all_goals repeat' (first | apply And.intro | intro _)
   refine hK43 _ ?_
   refine seq_k fun N44 M44 hN44 hM44 => ?_
   refine condT_k (by first | rfl | (simp [go_sem, hc, hs1]; done)) ?_
   refine skip_k ?_
   refine hN44 _ ?_
   refine seq_k fun N45 M45 hN45 hM45 => ?_
   refine block_k fun B46 bn46 bx46 br46 bi46 => ?_
   refine sr_k fun K47 hK47 => ?_
   simp only [go_sem, hc, hs1]
   all_goals repeat' (first | apply And.intro | intro _)
   refine hK47 _ ?_
   refine sr_k fun K48 hK48 => ?_
   simp only [go_sem, hc, hs1]
   all_goals repeat' (first | apply And.intro | intro _)
   refine hK48 _ ?_
   refine region_k fun K49 hK49 => ?_
   simp only [go_sem, hc, hs1]
   all_goals repeat' (first | apply And.intro | intro _)
   refine hK49 _ ?_
   refine bn46 _ ?_
   refine hN45 _ ?_
   refine region_k fun K50 hK50 => ?_
   simp only [go_sem, hc, hs1]
   all_goals repeat' (first | apply And.intro | intro _)
   refine hK50 _ ?_
   refine hN42 _ ?_
   refine rnd_forget [4, 10, 11, 12, 13, 14, 15, 16, 17, 18, 19, 20, 21, 22, 23] ?_
   simp only [go_sem, St.forget, fgt]
   refine rnd_k fun N51 M51 hN51 hM51 => ?_
   refine sr_k fun K52 hK52 => ?_
   simp only [go_sem, hc, hs1]
   all_goals repeat' (first | apply And.intro | intro _)
   refine hK52 _ ?_
   refine seq_k fun N53 M53 hN53 hM53 => ?_
   refine condT_k (by first | rfl | (simp [go_sem, hc, hs1]; done)) ?_
   refine skip_k ?_
   refine hN53 _ ?_
   refine seq_k fun N54 M54 hN54 hM54 => ?_
   refine block_k fun B55 bn55 bx55 br55 bi55 => ?_
   refine sr_k fun K56 hK56 => ?_
   simp only [go_sem, hc, hs1]
   all_goals repeat' (first | apply And.intro | intro _)
   refine hK56 _ ?_
   refine sr_k fun K57 hK57 => ?_
   simp only [go_sem, hc, hs1]
   all_goals repeat' (first | apply And.intro | intro _)
   refine hK57 _ ?_
   refine region_k fun K58 hK58 => ?_
   simp only [go_sem, hc, hs1]
   all_goals repeat' (first | apply And.intro | intro _)
   refine hK58 _ ?_
   refine bn55 _ ?_
   refine hN54 _ ?_
   refine region_k fun K59 hK59 => ?_
   simp only [go_sem, hc, hs1]
   all_goals repeat' (first | apply And.intro | intro _)
   refine hK59 _ ?_
   refine hN51 _ ?_
   refine rnd_forget [4, 10, 11, 12, 13, 14, 15, 16, 17, 18, 19, 20, 21, 22, 23] ?_
   simp only [go_sem, St.forget, fgt]
   refine rnd_k fun N60 M60 hN60 hM60 => ?_
   refine sr_k fun K61 hK61 => ?_
   simp only [go_sem, hc, hs1]
   all_goals repeat' (first | apply And.intro | intro _)
   refine hK61 _ ?_
   refine seq_k fun N62 M62 hN62 hM62 => ?_
   refine condF_k (by first | rfl | (simp [go_sem, hc, hs1]; done)) ?_
   refine exit_k ?_
   refine hM62 _ _ ?_
   refine hM60 _ _ ?_
   refine bx13 _ ?_
   refine hN11 _ ?_
   refine region_k fun K63 hK63 => ?_
   simp only [go_sem, hc, hs1]
   all_goals repeat' (first | apply And.intro | intro _)
   refine hK63 _ ?_
   refine bn9 _ ?_
   refine hN8 _ ?_
   refine region_k fun K64 hK64 => ?_
   simp only [go_sem, hc, hs1]
   all_goals repeat' (first | apply And.intro | intro _)
   refine hK64 _ ?_
   refine hN5 ⟨j + 1, by omega⟩ _ ?_ ?_ ?_
   · (show 3 - (j + 1) < 3 - j; clear hs1; omega)
   · (simp only [go_sem, leX, List.cons_append, List.nil_append]; try simp)
   · (simp only [passN, hq, go_sem, leX, List.cons_append, List.nil_append]; try simp [passN, hq, P5.ls, P5.pass, P5.c1, P5.c2, P5.c3, P5.c4, P5.c5, mk26, sh26, leX, look])
 · have hc : ¬ ((j : Nat) : Int) < 3 := by omega
   have hj3 : j = 3 := by omega
   subst hj3
   obtain ⟨qa, qb, qc, qd, qe⟩ := q
   have hcc : P5.carried ⟨a, b, c, d, e⟩ = P5.car ⟨qa, qb, qc, qd, qe⟩ := by rw [← hq]; rfl
   rw [P5.car, if_pos hcar] at hcc
   simp only [P5.f1, P5.f2, P5.f3, P5.f4, P5.f5, sh26, mk26] at hcar hcc
   simp only [hq, P5.ls]
   refine sr_k fun K65 hK65 => ?_
   simp only [go_sem, hc, hcar]
   all_goals repeat' (first | apply And.intro | intro _)
   refine hK65 _ ?_
   refine seq_k fun N66 M66 hN66 hM66 => ?_
   refine condF_k (by first | rfl | (simp [go_sem, hc, hcar]; done)) ?_
   refine exit_k ?_
   refine hM66 _ _ ?_
   refine hM5 _ _ ?_
   refine bx4 _ ?_
   refine hN2 _ ?_
   refine sr_k fun K67 hK67 => ?_
   simp only [go_sem, hc, hcar]
   all_goals repeat' (first | apply And.intro | intro _)
   refine hK67 _ ?_
   refine sr_k fun K68 hK68 => ?_
   simp only [go_sem, hc, hcar]
   all_goals repeat' (first | apply And.intro | intro _)
   refine hK68 _ ?_
   refine seq_k fun N69 M69 hN69 hM69 => ?_
   refine sr_k fun K70 hK70 => ?_
   simp only [go_sem, hc, hcar]
   all_goals repeat' (first | apply And.intro | intro _)
   refine hK70 _ ?_
   refine block_k fun B71 bn71 bx71 br71 bi71 => ?_
   refine rounds_k 5 ?_
   refine rnd_k fun N73 M73 hN73 hM73 => ?_
   refine sr_k fun K74 hK74 => ?_
   simp only [go_sem, hc, hcar]
   all_goals repeat' (first | apply And.intro | intro _)
   refine hK74 _ ?_
   refine seq_k fun N75 M75 hN75 hM75 => ?_
   refine condT_k (by first | rfl | (simp [go_sem, hc, hcar]; done)) ?_
   refine skip_k ?_
   refine hN75 _ ?_
   refine seq_k fun N76 M76 hN76 hM76 => ?_
   refine block_k fun B77 bn77 bx77 br77 bi77 => ?_
   refine sr_k fun K78 hK78 => ?_
   simp only [go_sem, hc, hcar]
   all_goals repeat' (first | apply And.intro | intro _)
   refine hK78 _ ?_
   refine sd_k [39, 40, 41, 42, 43, 44, 45, 46, 47, 48] [0, 1, 3, 7, 0, 16, 48, 112, 255, 511, 1023] [] mixed (by kernel_rfl) (by simp only [go_sem]) fun K79 hK79 => ?_
   simp only [go_sem, hc, hcar]
   all_goals repeat' (first | apply And.intro | intro _)
   refine hK79 _ _ ?_ ?_
   · first | trivial | (simp only [go_sem]; done) | (simp only [go_sem]; simp; done) | (simp only [go_sem]; simp; simp only [go_sem])
   refine region_k fun K80 hK80 => ?_
   simp only [go_sem, hc, hcar]
   all_goals repeat' (first | apply And.intro | intro _)
   refine hK80 _ ?_
   refine bn77 _ ?_
   refine hN76 _ ?_
   refine region_k fun K81 hK81 => ?_
   simp only [go_sem, hc, hcar]
   all_goals repeat' (first | apply And.intro | intro _)
   refine hK81 _ ?_
   refine hN73 _ ?_
   refine rnd_forget [6, 37, 38, 39, 40, 41, 42, 43, 44, 45, 46, 47, 48, 49, 50, 51, 52, 53, 54] ?_
   simp only [go_sem, St.forget, fgt]
   refine rnd_k fun N82 M82 hN82 hM82 => ?_
   refine sr_k fun K83 hK83 => ?_
   simp only [go_sem, hc, hcar]
   all_goals repeat' (first | apply And.intro | intro _)
   refine hK83 _ ?_
   refine seq_k fun N84 M84 hN84 hM84 => ?_
   refine condT_k (by first | rfl | (simp [go_sem, hc, hcar]; done)) ?_
   refine skip_k ?_
   refine hN84 _ ?_
   refine seq_k fun N85 M85 hN85 hM85 => ?_
   refine block_k fun B86 bn86 bx86 br86 bi86 => ?_
   refine sr_k fun K87 hK87 => ?_
   simp only [go_sem, hc, hcar]
   all_goals repeat' (first | apply And.intro | intro _)
   refine hK87 _ ?_
   refine sd_k [39, 40, 41, 42, 43, 44, 45, 46, 47, 48] [0, 1, 3, 7, 0, 16, 48, 112, 255, 511, 1023] [] mixed (by kernel_rfl) (by simp only [go_sem]) fun K88 hK88 => ?_
   simp only [go_sem, hc, hcar]
   all_goals repeat' (first | apply And.intro | intro _)
   refine hK88 _ _ ?_ ?_
   · first | trivial | (simp only [go_sem]; done) | (simp only [go_sem]; simp; done) | (simp only [go_sem]; simp; simp only [go_sem])
   refine region_k fun K89 hK89 => ?_
   simp only [go_sem, hc, hcar]
   all_goals repeat' (first | apply And.intro | intro _)
   refine hK89 _ ?_
   refine bn86 _ ?_
   refine hN85 _ ?_
   refine region_k fun K90 hK90 => ?_
   simp only [go_sem, hc, hcar]
   all_goals repeat' (first | apply And.intro | intro _)
   refine hK90 _ ?_
   refine hN82 _ ?_
   refine rnd_forget [6, 37, 38, 39, 40, 41, 42, 43, 44, 45, 46, 47, 48, 49, 50, 51, 52, 53, 54] ?_
   simp only [go_sem, St.forget, fgt]
   refine rnd_k fun N91 M91 hN91 hM91 => ?_
   refine sr_k fun K92 hK92 => ?_
   simp only [go_sem, hc, hcar]
   all_goals repeat' (first | apply And.intro | intro _)
   refine hK92 _ ?_
   refine seq_k fun N93 M93 hN93 hM93 => ?_
   refine condT_k (by first | rfl | (simp [go_sem, hc, hcar]; done)) ?_
   refine skip_k ?_
   refine hN93 _ ?_
   refine seq_k fun N94 M94 hN94 hM94 => ?_
   refine block_k fun B95 bn95 bx95 br95 bi95 => ?_
   refine sr_k fun K96 hK96 => ?_
   simp only [go_sem, hc, hcar]
   all_goals repeat' (first | apply And.intro | intro _)
   refine hK96 _ ?_
   refine sd_k [39, 40, 41, 42, 43, 44, 45, 46, 47, 48] [0, 1, 3, 7, 0, 16, 48, 112, 255, 511, 1023] [] mixed (by kernel_rfl) (by simp only [go_sem]) fun K97 hK97 => ?_
   simp only [go_sem, hc, hcar]
   all_goals repeat' (first | apply And.intro | intro _)
   refine hK97 _ _ ?_ ?_
   · first | trivial | (simp only [go_sem]; done) | (simp only [go_sem]; simp; done) | (simp only [go_sem]; simp; simp only [go_sem])
   refine region_k fun K98 hK98 => ?_
   simp only [go_sem, hc, hcar]
   all_goals repeat' (first | apply And.intro | intro _)
   refine hK98 _ ?_
   refine bn95 _ ?_
   refine hN94 _ ?_
   refine region_k fun K99 hK99 => ?_
   simp only [go_sem, hc, hcar]
   all_goals repeat' (first | apply And.intro | intro _)
   refine hK99 _ ?_
   refine hN91 _ ?_
   refine rnd_forget [6, 37, 38, 39, 40, 41, 42, 43, 44, 45, 46, 47, 48, 49, 50, 51, 52, 53, 54] ?_
   simp only [go_sem, St.forget, fgt]
   refine rnd_k fun N100 M100 hN100 hM100 => ?_
   refine sr_k fun K101 hK101 => ?_
   simp only [go_sem, hc, hcar]
   all_goals repeat' (first | apply And.intro | intro _)
   refine hK101 _ ?_
   refine seq_k fun N102 M102 hN102 hM102 => ?_
   refine condT_k (by first | rfl | (simp [go_sem, hc, hcar]; done)) ?_
   refine skip_k ?_
   refine hN102 _ ?_
   refine seq_k fun N103 M103 hN103 hM103 => ?_
   refine block_k fun B104 bn104 bx104 br104 bi104 => ?_
   refine sr_k fun K105 hK105 => ?_
   simp only [go_sem, hc, hcar]
   all_goals repeat' (first | apply And.intro | intro _)
   refine hK105 _ ?_
   refine sd_k [39, 40, 41, 42, 43, 44, 45, 46, 47, 48] [0, 1, 3, 7, 0, 16, 48, 112, 255, 511, 1023] [] mixed (by kernel_rfl) (by simp only [go_sem]) fun K106 hK106 => ?_
   simp only [go_sem, hc, hcar]
   all_goals repeat' (first | apply And.intro | intro _)
   refine hK106 _ _ ?_ ?_
   · first | trivial | (simp only [go_sem]; done) | (simp only [go_sem]; simp; done) | (simp only [go_sem]; simp; simp only [go_sem])
   refine region_k fun K107 hK107 => ?_
   simp only [go_sem, hc, hcar]
   all_goals repeat' (first | apply And.intro | intro _)
   refine hK107 _ ?_
   refine bn104 _ ?_
   refine hN103 _ ?_
   refine region_k fun K108 hK108 => ?_
   simp only [go_sem, hc, hcar]
   all_goals repeat' (first | apply And.intro | intro _)
   refine hK108 _ ?_
   refine hN100 _ ?_
   refine rnd_forget [6, 37, 38, 39, 40, 41, 42, 43, 44, 45, 46, 47, 48, 49, 50, 51, 52, 53, 54] ?_
   simp only [go_sem, St.forget, fgt]
   refine rnd_k fun N109 M109 hN109 hM109 => ?_
   refine sr_k fun K110 hK110 => ?_
   simp only [go_sem, hc, hcar]
   all_goals repeat' (first | apply And.intro | intro _)
   refine hK110 _ ?_
   refine seq_k fun N111 M111 hN111 hM111 => ?_
   refine condF_k (by first | rfl | (simp [go_sem, hc, hcar]; done)) ?_
   refine exit_k ?_
   refine hM111 _ _ ?_
   refine hM109 _ _ ?_
   refine bx71 _ ?_
   refine hN69 _ ?_
   refine seq_k fun N112 M112 hN112 hM112 => ?_
   refine sr_k fun K113 hK113 => ?_
   simp only [go_sem, hc, hcar]
   all_goals repeat' (first | apply And.intro | intro _)
   refine hK113 _ ?_
   refine condT_k (by first | rfl | (simp [go_sem, hc, hcar]; done)) ?_
   refine sr_k fun K114 hK114 => ?_
   simp only [go_sem, hc, hcar]
   all_goals repeat' (first | apply And.intro | intro _)
   refine hK114 _ ?_
   refine sr_k fun K115 hK115 => ?_
   simp only [go_sem, hc, hcar]
   all_goals repeat' (first | apply And.intro | intro _)
   refine hK115 _ ?_
   refine ret_k ?_
   refine hM112 _ _ ?_
   simp only [go_sem, hc, hcar]
   all_goals (rw [hcc]; rfl)
 · have hc : ¬ ((j : Nat) : Int) < 3 := by omega
   have hj3 : j = 3 := by omega
   subst hj3
   obtain ⟨qa, qb, qc, qd, qe⟩ := q
   have hcc : P5.carried ⟨a, b, c, d, e⟩ = P5.car ⟨qa, qb, qc, qd, qe⟩ := by rw [← hq]; rfl
   rw [P5.car, if_neg hcar] at hcc
   simp only [P5.f1, P5.f2, P5.f3, P5.f4, P5.f5, sh26, mk26] at hcar hcc
   simp only [hq, P5.ls]
   refine sr_k fun K116 hK116 => ?_
   simp only [go_sem, hc, hcar]
   all_goals repeat' (first | apply And.intro | intro _)
   refine hK116 _ ?_
   refine seq_k fun N117 M117 hN117 hM117 => ?_
   refine condF_k (by first | rfl | (simp [go_sem, hc, hcar]; done)) ?_
   refine exit_k ?_
   refine hM117 _ _ ?_
   refine hM5 _ _ ?_
   refine bx4 _ ?_
   refine hN2 _ ?_
   refine sr_k fun K118 hK118 => ?_
   simp only [go_sem, hc, hcar]
   all_goals repeat' (first | apply And.intro | intro _)
   refine hK118 _ ?_
   refine sr_k fun K119 hK119 => ?_
   simp only [go_sem, hc, hcar]
   all_goals repeat' (first | apply And.intro | intro _)
   refine hK119 _ ?_
   refine seq_k fun N120 M120 hN120 hM120 => ?_
   refine sr_k fun K121 hK121 => ?_
   simp only [go_sem, hc, hcar]
   all_goals repeat' (first | apply And.intro | intro _)
   refine hK121 _ ?_
   refine block_k fun B122 bn122 bx122 br122 bi122 => ?_
   refine rounds_k 5 ?_
   refine rnd_k fun N124 M124 hN124 hM124 => ?_
   refine sr_k fun K125 hK125 => ?_
   simp only [go_sem, hc, hcar]
   all_goals repeat' (first | apply And.intro | intro _)
   refine hK125 _ ?_
   refine seq_k fun N126 M126 hN126 hM126 => ?_
   refine condT_k (by first | rfl | (simp [go_sem, hc, hcar]; done)) ?_
   refine skip_k ?_
   refine hN126 _ ?_
   refine seq_k fun N127 M127 hN127 hM127 => ?_
   refine block_k fun B128 bn128 bx128 br128 bi128 => ?_
   refine sr_k fun K129 hK129 => ?_
   simp only [go_sem, hc, hcar]
   all_goals repeat' (first | apply And.intro | intro _)
   refine hK129 _ ?_
   refine sd_k [39, 40, 41, 42, 43, 44, 45, 46, 47, 48] [0, 1, 3, 7, 0, 16, 48, 112, 255, 511, 1023] [] mixed (by kernel_rfl) (by simp only [go_sem]) fun K130 hK130 => ?_
   simp only [go_sem, hc, hcar]
   all_goals repeat' (first | apply And.intro | intro _)
   refine hK130 _ _ ?_ ?_
   · first | trivial | (simp only [go_sem]; done) | (simp only [go_sem]; simp; done) | (simp only [go_sem]; simp; simp only [go_sem])
   refine region_k fun K131 hK131 => ?_
   simp only [go_sem, hc, hcar]
   all_goals repeat' (first | apply And.intro | intro _)
   refine hK131 _ ?_
   refine bn128 _ ?_
   refine hN127 _ ?_
   refine region_k fun K132 hK132 => ?_
   simp only [go_sem, hc, hcar]
   all_goals repeat' (first | apply And.intro | intro _)
   refine hK132 _ ?_
   refine hN124 _ ?_
   refine rnd_forget [6, 37, 38, 39, 40, 41, 42, 43, 44, 45, 46, 47, 48, 49, 50, 51, 52, 53, 54] ?_
   simp only [go_sem, St.forget, fgt]
   refine rnd_k fun N133 M133 hN133 hM133 => ?_
   refine sr_k fun K134 hK134 => ?_
   simp only [go_sem, hc, hcar]
   all_goals repeat' (first | apply And.intro | intro _)
   refine hK134 _ ?_
   refine seq_k fun N135 M135 hN135 hM135 => ?_
   refine condT_k (by first | rfl | (simp [go_sem, hc, hcar]; done)) ?_
   refine skip_k ?_
   refine hN135 _ ?_
   refine seq_k fun N136 M136 hN136 hM136 => ?_
   refine block_k fun B137 bn137 bx137 br137 bi137 => ?_
   refine sr_k fun K138 hK138 => ?_
   simp only [go_sem, hc, hcar]
   all_goals repeat' (first | apply And.intro | intro _)
   refine hK138 _ ?_
   refine sd_k [39, 40, 41, 42, 43, 44, 45, 46, 47, 48] [0, 1, 3, 7, 0, 16, 48, 112, 255, 511, 1023] [] mixed (by kernel_rfl) (by simp only [go_sem]) fun K139 hK139 => ?_
   simp only [go_sem, hc, hcar]
   all_goals repeat' (first | apply And.intro | intro _)
   refine hK139 _ _ ?_ ?_
   · first | trivial | (simp only [go_sem]; done) | (simp only [go_sem]; simp; done) | (simp only [go_sem]; simp; simp only [go_sem])
   refine region_k fun K140 hK140 => ?_
   simp only [go_sem, hc, hcar]
   all_goals repeat' (first | apply And.intro | intro _)
   refine hK140 _ ?_
   refine bn137 _ ?_
   refine hN136 _ ?_
   refine region_k fun K141 hK141 => ?_
   simp only [go_sem, hc, hcar]
   all_goals repeat' (first | apply And.intro | intro _)
   refine hK141 _ ?_
   refine hN133 _ ?_
   refine rnd_forget [6, 37, 38, 39, 40, 41, 42, 43, 44, 45, 46, 47, 48, 49, 50, 51, 52, 53, 54] ?_
   simp only [go_sem, St.forget, fgt]
   refine rnd_k fun N142 M142 hN142 hM142 => ?_
   refine sr_k fun K143 hK143 => ?_
   simp only [go_sem, hc, hcar]
   all_goals repeat' (first | apply And.intro | intro _)
   refine hK143 _ ?_
   refine seq_k fun N144 M144 hN144 hM144 => ?_
   refine condT_k (by first | rfl | (simp [go_sem, hc, hcar]; done)) ?_
   refine skip_k ?_
   refine hN144 _ ?_
   refine seq_k fun N145 M145 hN145 hM145 => ?_
   refine block_k fun B146 bn146 bx146 br146 bi146 => ?_
   refine sr_k fun K147 hK147 => ?_
   simp only [go_sem, hc, hcar]
   all_goals repeat' (first | apply And.intro | intro _)
   refine hK147 _ ?_
   refine sd_k [39, 40, 41, 42, 43, 44, 45, 46, 47, 48] [0, 1, 3, 7, 0, 16, 48, 112, 255, 511, 1023] [] mixed (by kernel_rfl) (by simp only [go_sem]) fun K148 hK148 => ?_
   simp only [go_sem, hc, hcar]
   all_goals repeat' (first | apply And.intro | intro _)
   refine hK148 _ _ ?_ ?_
   · first | trivial | (simp only [go_sem]; done) | (simp only [go_sem]; simp; done) | (simp only [go_sem]; simp; simp only [go_sem])
   refine region_k fun K149 hK149 => ?_
   simp only [go_sem, hc, hcar]
   all_goals repeat' (first | apply And.intro | intro _)
   refine hK149 _ ?_
   refine bn146 _ ?_
   refine hN145 _ ?_
   refine region_k fun K150 hK150 => ?_
   simp only [go_sem, hc, hcar]
   all_goals repeat' (first | apply And.intro | intro _)
   refine hK150 _ ?_
   refine hN142 _ ?_
   refine rnd_forget [6, 37, 38, 39, 40, 41, 42, 43, 44, 45, 46, 47, 48, 49, 50, 51, 52, 53, 54] ?_
   simp only [go_sem, St.forget, fgt]
   refine rnd_k fun N151 M151 hN151 hM151 => ?_
   refine sr_k fun K152 hK152 => ?_
   simp only [go_sem, hc, hcar]
   all_goals repeat' (first | apply And.intro | intro _)
   refine hK152 _ ?_
   refine seq_k fun N153 M153 hN153 hM153 => ?_
   refine condT_k (by first | rfl | (simp [go_sem, hc, hcar]; done)) ?_
   refine skip_k ?_
   refine hN153 _ ?_
   refine seq_k fun N154 M154 hN154 hM154 => ?_
   refine block_k fun B155 bn155 bx155 br155 bi155 => ?_
   refine sr_k fun K156 hK156 => ?_
   simp only [go_sem, hc, hcar]
   all_goals repeat' (first | apply And.intro | intro _)
   refine hK156 _ ?_
   refine sd_k [39, 40, 41, 42, 43, 44, 45, 46, 47, 48] [0, 1, 3, 7, 0, 16, 48, 112, 255, 511, 1023] [] mixed (by kernel_rfl) (by simp only [go_sem]) fun K157 hK157 => ?_
   simp only [go_sem, hc, hcar]
   all_goals repeat' (first | apply And.intro | intro _)
   refine hK157 _ _ ?_ ?_
   · first | trivial | (simp only [go_sem]; done) | (simp only [go_sem]; simp; done) | (simp only [go_sem]; simp; simp only [go_sem])
   refine region_k fun K158 hK158 => ?_
   simp only [go_sem, hc, hcar]
   all_goals repeat' (first | apply And.intro | intro _)
   refine hK158 _ ?_
   refine bn155 _ ?_
   refine hN154 _ ?_
   refine region_k fun K159 hK159 => ?_
   simp only [go_sem, hc, hcar]
   all_goals repeat' (first | apply And.intro | intro _)
   refine hK159 _ ?_
   refine hN151 _ ?_
   refine rnd_forget [6, 37, 38, 39, 40, 41, 42, 43, 44, 45, 46, 47, 48, 49, 50, 51, 52, 53, 54] ?_
   simp only [go_sem, St.forget, fgt]
   refine rnd_k fun N160 M160 hN160 hM160 => ?_
   refine sr_k fun K161 hK161 => ?_
   simp only [go_sem, hc, hcar]
   all_goals repeat' (first | apply And.intro | intro _)
   refine hK161 _ ?_
   refine seq_k fun N162 M162 hN162 hM162 => ?_
   refine condF_k (by first | rfl | (simp [go_sem, hc, hcar]; done)) ?_
   refine exit_k ?_
   refine hM162 _ _ ?_
   refine hM160 _ _ ?_
   refine bx122 _ ?_
   refine hN120 _ ?_
   refine seq_k fun N163 M163 hN163 hM163 => ?_
   refine sr_k fun K164 hK164 => ?_
   simp only [go_sem, hc, hcar]
   all_goals repeat' (first | apply And.intro | intro _)
   refine hK164 _ ?_
   refine condF_k (by first | rfl | (simp [go_sem, hc, hcar]; done)) ?_
   refine skip_k ?_
   refine hN163 _ ?_
   refine sr_k fun K165 hK165 => ?_
   simp only [go_sem, hc, hcar]
   all_goals repeat' (first | apply And.intro | intro _)
   refine hK165 _ ?_
   refine ret_k ?_
   simp only [go_sem, hc, hcar]
   all_goals (rw [hcc]; rfl)
end Go.Sy
