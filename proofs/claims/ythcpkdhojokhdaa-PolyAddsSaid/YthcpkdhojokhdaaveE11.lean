/- Walks: five parts and five parts. -/
import Derived.Test.YthcpkdhojokhdaaveE7
set_option linter.unusedVariables false
set_option linter.unusedSimpArgs false
namespace Go.Sy
open Go.Proofs
attribute [local irreducible] atCall HT runOps runD onC onE onO onG goV goA goS onSt onGuard
theorem ic0 : ((0 : Nat) : Int) = 0 := rfl
theorem ic1 : ((1 : Nat) : Int) = 1 := rfl
theorem ic2 : ((2 : Nat) : Int) = 2 := rfl
theorem ic3 : ((3 : Nat) : Int) = 3 := rfl
theorem ic4 : ((4 : Nat) : Int) = 4 := rfl
theorem ic5 : ((5 : Nat) : Int) = 5 := rfl
def mulN (p r : P5) : Nat → List L
 | 0 => [.pl (.u64 (0)), .pl (.u64 (0)), .pl (.u64 (0)), .pl (.u64 (0)), .pl (.u64 (0))]
 | 1 => [.pl (.u64 (0 + p.a * r.a)), .pl (.u64 (0 + p.a * r.b)), .pl (.u64 (0 + p.a * r.c)), .pl (.u64 (0 + p.a * r.d)), .pl (.u64 (0 + p.a * r.e))]
 | 2 => [.pl (.u64 (0 + p.a * r.a + p.b * r.e * 5)), .pl (.u64 (0 + p.a * r.b + p.b * r.a)), .pl (.u64 (0 + p.a * r.c + p.b * r.b)), .pl (.u64 (0 + p.a * r.d + p.b * r.c)), .pl (.u64 (0 + p.a * r.e + p.b * r.d))]
 | 3 => [.pl (.u64 (0 + p.a * r.a + p.b * r.e * 5 + p.c * r.d * 5)), .pl (.u64 (0 + p.a * r.b + p.b * r.a + p.c * r.e * 5)), .pl (.u64 (0 + p.a * r.c + p.b * r.b + p.c * r.a)), .pl (.u64 (0 + p.a * r.d + p.b * r.c + p.c * r.b)), .pl (.u64 (0 + p.a * r.e + p.b * r.d + p.c * r.c))]
 | 4 => [.pl (.u64 (0 + p.a * r.a + p.b * r.e * 5 + p.c * r.d * 5 + p.d * r.c * 5)), .pl (.u64 (0 + p.a * r.b + p.b * r.a + p.c * r.e * 5 + p.d * r.d * 5)), .pl (.u64 (0 + p.a * r.c + p.b * r.b + p.c * r.a + p.d * r.e * 5)), .pl (.u64 (0 + p.a * r.d + p.b * r.c + p.c * r.b + p.d * r.a)), .pl (.u64 (0 + p.a * r.e + p.b * r.d + p.c * r.c + p.d * r.b))]
 | _ => (mul5 p r).ls
set_option maxHeartbeats 3200000 in
set_option maxRecDepth 100000 in
theorem ptimes_ (p r : P5) :
 Ct Try.prog 63 [.w (.agg [.pl (.u64 p.a), .pl (.u64 p.b), .pl (.u64 p.c), .pl (.u64 p.d), .pl (.u64 p.e)]), .w (.agg [.pl (.u64 r.a), .pl (.u64 r.b), .pl (.u64 r.c), .pl (.u64 r.d), .pl (.u64 r.e)])] (fun v m => v = .w (.agg (mul5 p r).carried.ls)) := by
 refine Ct.k Try.func63 rfl Try.ntmps63 (congrArg Array.toList Try.results63) (by simp) fun w0 ro => ?_
 refine seq_k fun N1 M1 hN1 hM1 => ?_
 refine region_k fun K2 hK2 => ?_
 simp only [go_sem, P5.ls, ic0, ic1, ic2, ic3, ic4, ic5, Int.reduceMod, Int.reduceTMod, Int.toNat_one]
 all_goals repeat' (first | apply And.intro | intro _)
 all_goals
  refine hK2 _ ?_
  refine hN1 _ ?_
  refine seq_k fun N3 M3 hN3 hM3 => ?_
  refine region_k fun K4 hK4 => ?_
  simp only [go_sem, P5.ls, ic0, ic1, ic2, ic3, ic4, ic5, Int.reduceMod, Int.reduceTMod, Int.toNat_one]
  all_goals repeat' (first | apply And.intro | intro _)
  all_goals
   refine hK4 _ ?_
   refine hN3 _ ?_
   refine seq_k fun N5 M5 hN5 hM5 => ?_
   refine seq_k fun N6 M6 hN6 hM6 => ?_
   refine region_k fun K7 hK7 => ?_
   simp only [go_sem, P5.ls, ic0, ic1, ic2, ic3, ic4, ic5, Int.reduceMod, Int.reduceTMod, Int.toNat_one]
   all_goals repeat' (first | apply And.intro | intro _)
   all_goals
    refine hK7 _ ?_
    refine hN6 _ ?_
    refine block_k fun B8 bn8 bx8 br8 bi8 => ?_
    refine ht_dropE [0, 1, 2] ?_
    simp only [dropE_mk, fgt_nil, fgt_cons, List.contains_cons, List.contains_nil, Nat.reduceBEq, beq_self_eq_true, Bool.or_false, Bool.or_true, Bool.true_or, Bool.false_or, Bool.false_eq_true, reduceIte]
    refine loop_k (fun y => [(12, .w (.one (.pl (.i ((y.1 : Nat) : Int)))))]) (fun y => [(5, ⟨false, mulN p r y.1⟩)]) (fun y => 5 - y.1) (⟨0, by omega⟩ : {y : Nat // y ≤ 5}) ?_ ?_ ?_
    · (simp only [go_sem, leX, List.cons_append, List.nil_append]; try simp)
    · (simp only [mulN, go_sem, leX, List.cons_append, List.nil_append]; try simp [mulN, leX, look])
    intro yy N9 M9 hN9 hM9
    simp only [List.cons_append, List.nil_append]
    obtain ⟨y, hy⟩ := yy
    have hd : y = 0 ∨ y = 1 ∨ y = 2 ∨ y = 3 ∨ y = 4 ∨ y = 5 := by omega
    rcases hd with rfl | rfl | rfl | rfl | rfl | rfl
    · simp only [mulN]
      refine seq_k fun N10 M10 hN10 hM10 => ?_
      refine region_k fun K11 hK11 => ?_
      simp only [go_sem, P5.ls, ic0, ic1, ic2, ic3, ic4, ic5, Int.reduceMod, Int.reduceTMod, Int.toNat_one]
      all_goals repeat' (first | apply And.intro | intro _)
      all_goals
       refine hK11 _ ?_
       refine hN10 _ ?_
       refine seq_k fun N12 M12 hN12 hM12 => ?_
       refine cond_k rfl (fun hc => ?_) (fun hc => ?_)
       · try simp only [go_sem, P5.ls, ic0, ic1, ic2, ic3, ic4, ic5, Int.reduceMod, Int.reduceTMod, Int.toNat_one] at hc
         all_goals
          refine skip_k ?_
          refine hN12 _ ?_
          refine seq_k fun N13 M13 hN13 hM13 => ?_
          refine block_k fun B14 bn14 bx14 br14 bi14 => ?_
          refine seq_k fun N15 M15 hN15 hM15 => ?_
          refine region_k fun K16 hK16 => ?_
          simp only [go_sem, P5.ls, ic0, ic1, ic2, ic3, ic4, ic5, Int.reduceMod, Int.reduceTMod, Int.toNat_one]
          all_goals repeat' (first | apply And.intro | intro _)
          all_goals
           refine hK16 _ ?_
           refine hN15 _ ?_
           refine seq_k fun N17 M17 hN17 hM17 => ?_
           refine region_k fun K18 hK18 => ?_
           simp only [go_sem, P5.ls, ic0, ic1, ic2, ic3, ic4, ic5, Int.reduceMod, Int.reduceTMod, Int.toNat_one]
           all_goals repeat' (first | apply And.intro | intro _)
           all_goals
            refine hK18 _ ?_
            refine hN17 _ ?_
            refine block_k fun B19 bn19 bx19 br19 bi19 => ?_
            refine rounds_k 6 ?_
            refine rnd_k fun N21 M21 hN21 hM21 => ?_
            refine seq_k fun N22 M22 hN22 hM22 => ?_
            refine region_k fun K23 hK23 => ?_
            simp only [go_sem, P5.ls, ic0, ic1, ic2, ic3, ic4, ic5, Int.reduceMod, Int.reduceTMod, Int.toNat_one]
            all_goals repeat' (first | apply And.intro | intro _)
            all_goals
             refine hK23 _ ?_
             refine hN22 _ ?_
             refine seq_k fun N24 M24 hN24 hM24 => ?_
             refine cond_k rfl (fun hc => ?_) (fun hc => ?_)
             · try simp only [go_sem, P5.ls, ic0, ic1, ic2, ic3, ic4, ic5, Int.reduceMod, Int.reduceTMod, Int.toNat_one] at hc
               all_goals
                refine skip_k ?_
                refine hN24 _ ?_
                refine seq_k fun N25 M25 hN25 hM25 => ?_
                refine block_k fun B26 bn26 bx26 br26 bi26 => ?_
                refine seq_k fun N27 M27 hN27 hM27 => ?_
                refine region_k fun K28 hK28 => ?_
                simp only [go_sem, P5.ls, ic0, ic1, ic2, ic3, ic4, ic5, Int.reduceMod, Int.reduceTMod, Int.toNat_one]
                all_goals repeat' (first | apply And.intro | intro _)
                all_goals
                 refine hK28 _ ?_
                 refine hN27 _ ?_
                 refine seq_k fun N29 M29 hN29 hM29 => ?_
                 refine region_k fun K30 hK30 => ?_
                 simp only [go_sem, P5.ls, ic0, ic1, ic2, ic3, ic4, ic5, Int.reduceMod, Int.reduceTMod, Int.toNat_one]
                 all_goals repeat' (first | apply And.intro | intro _)
                 all_goals
                  refine hK30 _ ?_
                  refine hN29 _ ?_
                  refine seq_k fun N31 M31 hN31 hM31 => ?_
                  refine seq_k fun N32 M32 hN32 hM32 => ?_
                  refine region_k fun K33 hK33 => ?_
                  simp only [go_sem, P5.ls, ic0, ic1, ic2, ic3, ic4, ic5, Int.reduceMod, Int.reduceTMod, Int.toNat_one]
                  all_goals repeat' (first | apply And.intro | intro _)
                  all_goals
                   refine hK33 _ ?_
                   refine hN32 _ ?_
                   refine cond_k rfl (fun hc => ?_) (fun hc => ?_)
                   · exfalso; revert hc; simp [go_sem, P5.ls, decide_true, decide_false, ic0, ic1, ic2, ic3, ic4, ic5, Int.reduceAdd, Int.reduceMod, Int.reduceTMod, Int.reduceLT, Int.reduceLE, Int.reduceToNat, Int.toNat_zero, Int.toNat_one]
                   · try simp only [go_sem, P5.ls, ic0, ic1, ic2, ic3, ic4, ic5, Int.reduceMod, Int.reduceTMod, Int.toNat_one] at hc
                     all_goals
                      refine skip_k ?_
                      refine hN31 _ ?_
                      refine region_k fun K34 hK34 => ?_
                      simp only [go_sem, P5.ls, ic0, ic1, ic2, ic3, ic4, ic5, Int.reduceMod, Int.reduceTMod, Int.toNat_one]
                      all_goals repeat' (first | apply And.intro | intro _)
                      all_goals
                       refine hK34 _ ?_
                       refine bn26 _ ?_
                       refine hN25 _ ?_
                       refine region_k fun K35 hK35 => ?_
                       simp only [go_sem, P5.ls, ic0, ic1, ic2, ic3, ic4, ic5, Int.reduceMod, Int.reduceTMod, Int.toNat_one]
                       all_goals repeat' (first | apply And.intro | intro _)
                       all_goals
                        refine hK35 _ ?_
                        refine hN21 _ ?_
                        refine rnd_forget [8, 9, 10, 18, 19, 20, 21, 22, 23, 24, 25, 26, 27, 28, 29, 30, 31, 32, 33, 34, 35, 36, 37, 38, 39] ?_
                        simp only [go_sem, St.forget, fgt]
                        refine rnd_k fun N36 M36 hN36 hM36 => ?_
                        refine seq_k fun N37 M37 hN37 hM37 => ?_
                        refine region_k fun K38 hK38 => ?_
                        simp only [go_sem, P5.ls, ic0, ic1, ic2, ic3, ic4, ic5, Int.reduceMod, Int.reduceTMod, Int.toNat_one]
                        all_goals repeat' (first | apply And.intro | intro _)
                        all_goals
                         refine hK38 _ ?_
                         refine hN37 _ ?_
                         refine seq_k fun N39 M39 hN39 hM39 => ?_
                         refine cond_k rfl (fun hc => ?_) (fun hc => ?_)
                         · try simp only [go_sem, P5.ls, ic0, ic1, ic2, ic3, ic4, ic5, Int.reduceMod, Int.reduceTMod, Int.toNat_one] at hc
                           all_goals
                            refine skip_k ?_
                            refine hN39 _ ?_
                            refine seq_k fun N40 M40 hN40 hM40 => ?_
                            refine block_k fun B41 bn41 bx41 br41 bi41 => ?_
                            refine seq_k fun N42 M42 hN42 hM42 => ?_
                            refine region_k fun K43 hK43 => ?_
                            simp only [go_sem, P5.ls, ic0, ic1, ic2, ic3, ic4, ic5, Int.reduceMod, Int.reduceTMod, Int.toNat_one]
                            all_goals repeat' (first | apply And.intro | intro _)
                            all_goals
                             refine hK43 _ ?_
                             refine hN42 _ ?_
                             refine seq_k fun N44 M44 hN44 hM44 => ?_
                             refine region_k fun K45 hK45 => ?_
                             simp only [go_sem, P5.ls, ic0, ic1, ic2, ic3, ic4, ic5, Int.reduceMod, Int.reduceTMod, Int.toNat_one]
                             all_goals repeat' (first | apply And.intro | intro _)
                             all_goals
                              refine hK45 _ ?_
                              refine hN44 _ ?_
                              refine seq_k fun N46 M46 hN46 hM46 => ?_
                              refine seq_k fun N47 M47 hN47 hM47 => ?_
                              refine region_k fun K48 hK48 => ?_
                              simp only [go_sem, P5.ls, ic0, ic1, ic2, ic3, ic4, ic5, Int.reduceMod, Int.reduceTMod, Int.toNat_one]
                              all_goals repeat' (first | apply And.intro | intro _)
                              all_goals
                               refine hK48 _ ?_
                               refine hN47 _ ?_
                               refine cond_k rfl (fun hc => ?_) (fun hc => ?_)
                               · exfalso; revert hc; simp [go_sem, P5.ls, decide_true, decide_false, ic0, ic1, ic2, ic3, ic4, ic5, Int.reduceAdd, Int.reduceMod, Int.reduceTMod, Int.reduceLT, Int.reduceLE, Int.reduceToNat, Int.toNat_zero, Int.toNat_one]
                               · try simp only [go_sem, P5.ls, ic0, ic1, ic2, ic3, ic4, ic5, Int.reduceMod, Int.reduceTMod, Int.toNat_one] at hc
                                 all_goals
                                  refine skip_k ?_
                                  refine hN46 _ ?_
                                  refine region_k fun K49 hK49 => ?_
                                  simp only [go_sem, P5.ls, ic0, ic1, ic2, ic3, ic4, ic5, Int.reduceMod, Int.reduceTMod, Int.toNat_one]
                                  all_goals repeat' (first | apply And.intro | intro _)
                                  all_goals
                                   refine hK49 _ ?_
                                   refine bn41 _ ?_
                                   refine hN40 _ ?_
                                   refine region_k fun K50 hK50 => ?_
                                   simp only [go_sem, P5.ls, ic0, ic1, ic2, ic3, ic4, ic5, Int.reduceMod, Int.reduceTMod, Int.toNat_one]
                                   all_goals repeat' (first | apply And.intro | intro _)
                                   all_goals
                                    refine hK50 _ ?_
                                    refine hN36 _ ?_
                                    refine rnd_forget [8, 9, 10, 18, 19, 20, 21, 22, 23, 24, 25, 26, 27, 28, 29, 30, 31, 32, 33, 34, 35, 36, 37, 38, 39] ?_
                                    simp only [go_sem, St.forget, fgt]
                                    refine rnd_k fun N51 M51 hN51 hM51 => ?_
                                    refine seq_k fun N52 M52 hN52 hM52 => ?_
                                    refine region_k fun K53 hK53 => ?_
                                    simp only [go_sem, P5.ls, ic0, ic1, ic2, ic3, ic4, ic5, Int.reduceMod, Int.reduceTMod, Int.toNat_one]
                                    all_goals repeat' (first | apply And.intro | intro _)
                                    all_goals
                                     refine hK53 _ ?_
                                     refine hN52 _ ?_
                                     refine seq_k fun N54 M54 hN54 hM54 => ?_
                                     refine cond_k rfl (fun hc => ?_) (fun hc => ?_)
                                     · try simp only [go_sem, P5.ls, ic0, ic1, ic2, ic3, ic4, ic5, Int.reduceMod, Int.reduceTMod, Int.toNat_one] at hc
                                       all_goals
                                        refine skip_k ?_
                                        refine hN54 _ ?_
                                        refine seq_k fun N55 M55 hN55 hM55 => ?_
                                        refine block_k fun B56 bn56 bx56 br56 bi56 => ?_
                                        refine seq_k fun N57 M57 hN57 hM57 => ?_
                                        refine region_k fun K58 hK58 => ?_
                                        simp only [go_sem, P5.ls, ic0, ic1, ic2, ic3, ic4, ic5, Int.reduceMod, Int.reduceTMod, Int.toNat_one]
                                        all_goals repeat' (first | apply And.intro | intro _)
                                        all_goals
                                         refine hK58 _ ?_
                                         refine hN57 _ ?_
                                         refine seq_k fun N59 M59 hN59 hM59 => ?_
                                         refine region_k fun K60 hK60 => ?_
                                         simp only [go_sem, P5.ls, ic0, ic1, ic2, ic3, ic4, ic5, Int.reduceMod, Int.reduceTMod, Int.toNat_one]
                                         all_goals repeat' (first | apply And.intro | intro _)
                                         all_goals
                                          refine hK60 _ ?_
                                          refine hN59 _ ?_
                                          refine seq_k fun N61 M61 hN61 hM61 => ?_
                                          refine seq_k fun N62 M62 hN62 hM62 => ?_
                                          refine region_k fun K63 hK63 => ?_
                                          simp only [go_sem, P5.ls, ic0, ic1, ic2, ic3, ic4, ic5, Int.reduceMod, Int.reduceTMod, Int.toNat_one]
                                          all_goals repeat' (first | apply And.intro | intro _)
                                          all_goals
                                           refine hK63 _ ?_
                                           refine hN62 _ ?_
                                           refine cond_k rfl (fun hc => ?_) (fun hc => ?_)
                                           · exfalso; revert hc; simp [go_sem, P5.ls, decide_true, decide_false, ic0, ic1, ic2, ic3, ic4, ic5, Int.reduceAdd, Int.reduceMod, Int.reduceTMod, Int.reduceLT, Int.reduceLE, Int.reduceToNat, Int.toNat_zero, Int.toNat_one]
                                           · try simp only [go_sem, P5.ls, ic0, ic1, ic2, ic3, ic4, ic5, Int.reduceMod, Int.reduceTMod, Int.toNat_one] at hc
                                             all_goals
                                              refine skip_k ?_
                                              refine hN61 _ ?_
                                              refine region_k fun K64 hK64 => ?_
                                              simp only [go_sem, P5.ls, ic0, ic1, ic2, ic3, ic4, ic5, Int.reduceMod, Int.reduceTMod, Int.toNat_one]
                                              all_goals repeat' (first | apply And.intro | intro _)
                                              all_goals
                                               refine hK64 _ ?_
                                               refine bn56 _ ?_
                                               refine hN55 _ ?_
                                               refine region_k fun K65 hK65 => ?_
                                               simp only [go_sem, P5.ls, ic0, ic1, ic2, ic3, ic4, ic5, Int.reduceMod, Int.reduceTMod, Int.toNat_one]
                                               all_goals repeat' (first | apply And.intro | intro _)
                                               all_goals
                                                refine hK65 _ ?_
                                                refine hN51 _ ?_
                                                refine rnd_forget [8, 9, 10, 18, 19, 20, 21, 22, 23, 24, 25, 26, 27, 28, 29, 30, 31, 32, 33, 34, 35, 36, 37, 38, 39] ?_
                                                simp only [go_sem, St.forget, fgt]
                                                refine rnd_k fun N66 M66 hN66 hM66 => ?_
                                                refine seq_k fun N67 M67 hN67 hM67 => ?_
                                                refine region_k fun K68 hK68 => ?_
                                                simp only [go_sem, P5.ls, ic0, ic1, ic2, ic3, ic4, ic5, Int.reduceMod, Int.reduceTMod, Int.toNat_one]
                                                all_goals repeat' (first | apply And.intro | intro _)
                                                all_goals
                                                 refine hK68 _ ?_
                                                 refine hN67 _ ?_
                                                 refine seq_k fun N69 M69 hN69 hM69 => ?_
                                                 refine cond_k rfl (fun hc => ?_) (fun hc => ?_)
                                                 · try simp only [go_sem, P5.ls, ic0, ic1, ic2, ic3, ic4, ic5, Int.reduceMod, Int.reduceTMod, Int.toNat_one] at hc
                                                   all_goals
                                                    refine skip_k ?_
                                                    refine hN69 _ ?_
                                                    refine seq_k fun N70 M70 hN70 hM70 => ?_
                                                    refine block_k fun B71 bn71 bx71 br71 bi71 => ?_
                                                    refine seq_k fun N72 M72 hN72 hM72 => ?_
                                                    refine region_k fun K73 hK73 => ?_
                                                    simp only [go_sem, P5.ls, ic0, ic1, ic2, ic3, ic4, ic5, Int.reduceMod, Int.reduceTMod, Int.toNat_one]
                                                    all_goals repeat' (first | apply And.intro | intro _)
                                                    all_goals
                                                     refine hK73 _ ?_
                                                     refine hN72 _ ?_
                                                     refine seq_k fun N74 M74 hN74 hM74 => ?_
                                                     refine region_k fun K75 hK75 => ?_
                                                     simp only [go_sem, P5.ls, ic0, ic1, ic2, ic3, ic4, ic5, Int.reduceMod, Int.reduceTMod, Int.toNat_one]
                                                     all_goals repeat' (first | apply And.intro | intro _)
                                                     all_goals
                                                      refine hK75 _ ?_
                                                      refine hN74 _ ?_
                                                      refine seq_k fun N76 M76 hN76 hM76 => ?_
                                                      refine seq_k fun N77 M77 hN77 hM77 => ?_
                                                      refine region_k fun K78 hK78 => ?_
                                                      simp only [go_sem, P5.ls, ic0, ic1, ic2, ic3, ic4, ic5, Int.reduceMod, Int.reduceTMod, Int.toNat_one]
                                                      all_goals repeat' (first | apply And.intro | intro _)
                                                      all_goals
                                                       refine hK78 _ ?_
                                                       refine hN77 _ ?_
                                                       refine cond_k rfl (fun hc => ?_) (fun hc => ?_)
                                                       · exfalso; revert hc; simp [go_sem, P5.ls, decide_true, decide_false, ic0, ic1, ic2, ic3, ic4, ic5, Int.reduceAdd, Int.reduceMod, Int.reduceTMod, Int.reduceLT, Int.reduceLE, Int.reduceToNat, Int.toNat_zero, Int.toNat_one]
                                                       · try simp only [go_sem, P5.ls, ic0, ic1, ic2, ic3, ic4, ic5, Int.reduceMod, Int.reduceTMod, Int.toNat_one] at hc
                                                         all_goals
                                                          refine skip_k ?_
                                                          refine hN76 _ ?_
                                                          refine region_k fun K79 hK79 => ?_
                                                          simp only [go_sem, P5.ls, ic0, ic1, ic2, ic3, ic4, ic5, Int.reduceMod, Int.reduceTMod, Int.toNat_one]
                                                          all_goals repeat' (first | apply And.intro | intro _)
                                                          all_goals
                                                           refine hK79 _ ?_
                                                           refine bn71 _ ?_
                                                           refine hN70 _ ?_
                                                           refine region_k fun K80 hK80 => ?_
                                                           simp only [go_sem, P5.ls, ic0, ic1, ic2, ic3, ic4, ic5, Int.reduceMod, Int.reduceTMod, Int.toNat_one]
                                                           all_goals repeat' (first | apply And.intro | intro _)
                                                           all_goals
                                                            refine hK80 _ ?_
                                                            refine hN66 _ ?_
                                                            refine rnd_forget [8, 9, 10, 18, 19, 20, 21, 22, 23, 24, 25, 26, 27, 28, 29, 30, 31, 32, 33, 34, 35, 36, 37, 38, 39] ?_
                                                            simp only [go_sem, St.forget, fgt]
                                                            refine rnd_k fun N81 M81 hN81 hM81 => ?_
                                                            refine seq_k fun N82 M82 hN82 hM82 => ?_
                                                            refine region_k fun K83 hK83 => ?_
                                                            simp only [go_sem, P5.ls, ic0, ic1, ic2, ic3, ic4, ic5, Int.reduceMod, Int.reduceTMod, Int.toNat_one]
                                                            all_goals repeat' (first | apply And.intro | intro _)
                                                            all_goals
                                                             refine hK83 _ ?_
                                                             refine hN82 _ ?_
                                                             refine seq_k fun N84 M84 hN84 hM84 => ?_
                                                             refine cond_k rfl (fun hc => ?_) (fun hc => ?_)
                                                             · try simp only [go_sem, P5.ls, ic0, ic1, ic2, ic3, ic4, ic5, Int.reduceMod, Int.reduceTMod, Int.toNat_one] at hc
                                                               all_goals
                                                                refine skip_k ?_
                                                                refine hN84 _ ?_
                                                                refine seq_k fun N85 M85 hN85 hM85 => ?_
                                                                refine block_k fun B86 bn86 bx86 br86 bi86 => ?_
                                                                refine seq_k fun N87 M87 hN87 hM87 => ?_
                                                                refine region_k fun K88 hK88 => ?_
                                                                simp only [go_sem, P5.ls, ic0, ic1, ic2, ic3, ic4, ic5, Int.reduceMod, Int.reduceTMod, Int.toNat_one]
                                                                all_goals repeat' (first | apply And.intro | intro _)
                                                                all_goals
                                                                 refine hK88 _ ?_
                                                                 refine hN87 _ ?_
                                                                 refine seq_k fun N89 M89 hN89 hM89 => ?_
                                                                 refine region_k fun K90 hK90 => ?_
                                                                 simp only [go_sem, P5.ls, ic0, ic1, ic2, ic3, ic4, ic5, Int.reduceMod, Int.reduceTMod, Int.toNat_one]
                                                                 all_goals repeat' (first | apply And.intro | intro _)
                                                                 all_goals
                                                                  refine hK90 _ ?_
                                                                  refine hN89 _ ?_
                                                                  refine seq_k fun N91 M91 hN91 hM91 => ?_
                                                                  refine seq_k fun N92 M92 hN92 hM92 => ?_
                                                                  refine region_k fun K93 hK93 => ?_
                                                                  simp only [go_sem, P5.ls, ic0, ic1, ic2, ic3, ic4, ic5, Int.reduceMod, Int.reduceTMod, Int.toNat_one]
                                                                  all_goals repeat' (first | apply And.intro | intro _)
                                                                  all_goals
                                                                   refine hK93 _ ?_
                                                                   refine hN92 _ ?_
                                                                   refine cond_k rfl (fun hc => ?_) (fun hc => ?_)
                                                                   · exfalso; revert hc; simp [go_sem, P5.ls, decide_true, decide_false, ic0, ic1, ic2, ic3, ic4, ic5, Int.reduceAdd, Int.reduceMod, Int.reduceTMod, Int.reduceLT, Int.reduceLE, Int.reduceToNat, Int.toNat_zero, Int.toNat_one]
                                                                   · try simp only [go_sem, P5.ls, ic0, ic1, ic2, ic3, ic4, ic5, Int.reduceMod, Int.reduceTMod, Int.toNat_one] at hc
                                                                     all_goals
                                                                      refine skip_k ?_
                                                                      refine hN91 _ ?_
                                                                      refine region_k fun K94 hK94 => ?_
                                                                      simp only [go_sem, P5.ls, ic0, ic1, ic2, ic3, ic4, ic5, Int.reduceMod, Int.reduceTMod, Int.toNat_one]
                                                                      all_goals repeat' (first | apply And.intro | intro _)
                                                                      all_goals
                                                                       refine hK94 _ ?_
                                                                       refine bn86 _ ?_
                                                                       refine hN85 _ ?_
                                                                       refine region_k fun K95 hK95 => ?_
                                                                       simp only [go_sem, P5.ls, ic0, ic1, ic2, ic3, ic4, ic5, Int.reduceMod, Int.reduceTMod, Int.toNat_one]
                                                                       all_goals repeat' (first | apply And.intro | intro _)
                                                                       all_goals
                                                                        refine hK95 _ ?_
                                                                        refine hN81 _ ?_
                                                                        refine rnd_forget [8, 9, 10, 18, 19, 20, 21, 22, 23, 24, 25, 26, 27, 28, 29, 30, 31, 32, 33, 34, 35, 36, 37, 38, 39] ?_
                                                                        simp only [go_sem, St.forget, fgt]
                                                                        refine rnd_k fun N96 M96 hN96 hM96 => ?_
                                                                        refine seq_k fun N97 M97 hN97 hM97 => ?_
                                                                        refine region_k fun K98 hK98 => ?_
                                                                        simp only [go_sem, P5.ls, ic0, ic1, ic2, ic3, ic4, ic5, Int.reduceMod, Int.reduceTMod, Int.toNat_one]
                                                                        all_goals repeat' (first | apply And.intro | intro _)
                                                                        all_goals
                                                                         refine hK98 _ ?_
                                                                         refine hN97 _ ?_
                                                                         refine seq_k fun N99 M99 hN99 hM99 => ?_
                                                                         refine cond_k rfl (fun hc => ?_) (fun hc => ?_)
                                                                         · exfalso; revert hc; simp
                                                                         · try simp only [go_sem, P5.ls, ic0, ic1, ic2, ic3, ic4, ic5, Int.reduceMod, Int.reduceTMod, Int.toNat_one] at hc
                                                                           all_goals
                                                                            refine exit_k ?_
                                                                            refine hM99 _ _ ?_
                                                                            refine hM96 _ _ ?_
                                                                            refine bx19 _ ?_
                                                                            refine bn14 _ ?_
                                                                            refine hN13 _ ?_
                                                                            refine region_k fun K100 hK100 => ?_
                                                                            simp only [go_sem, P5.ls, ic0, ic1, ic2, ic3, ic4, ic5, Int.reduceMod, Int.reduceTMod, Int.toNat_one]
                                                                            all_goals repeat' (first | apply And.intro | intro _)
                                                                            all_goals
                                                                             refine hK100 _ ?_
                                                                             refine hN9 ⟨1, by omega⟩ _ ?_ ?_ ?_
                                                                             · (show 5 - (0 + 1) < 5 - 0; omega)
                                                                             · (simp only [go_sem, leX, List.cons_append, List.nil_append]; try simp)
                                                                             · (simp only [mulN, go_sem, leX, List.cons_append, List.nil_append]; first | done | (simp [mulN, mul5, P5.ls, leX, look]; done) | rfl)
                                                             · exfalso; revert hc; simp
                                                 · exfalso; revert hc; simp
                                     · exfalso; revert hc; simp
                         · exfalso; revert hc; simp
             · exfalso; revert hc; simp
       · exfalso; revert hc; simp [go_sem, P5.ls, decide_true, decide_false, ic0, ic1, ic2, ic3, ic4, ic5, Int.reduceAdd, Int.reduceMod, Int.reduceTMod, Int.reduceLT, Int.reduceLE, Int.reduceToNat, Int.toNat_zero, Int.toNat_one]
    · simp only [mulN]
      refine seq_k fun N101 M101 hN101 hM101 => ?_
      refine region_k fun K102 hK102 => ?_
      simp only [go_sem, P5.ls, ic0, ic1, ic2, ic3, ic4, ic5, Int.reduceMod, Int.reduceTMod, Int.toNat_one]
      all_goals repeat' (first | apply And.intro | intro _)
      all_goals
       refine hK102 _ ?_
       refine hN101 _ ?_
       refine seq_k fun N103 M103 hN103 hM103 => ?_
       refine cond_k rfl (fun hc => ?_) (fun hc => ?_)
       · try simp only [go_sem, P5.ls, ic0, ic1, ic2, ic3, ic4, ic5, Int.reduceMod, Int.reduceTMod, Int.toNat_one] at hc
         all_goals
          refine skip_k ?_
          refine hN103 _ ?_
          refine seq_k fun N104 M104 hN104 hM104 => ?_
          refine block_k fun B105 bn105 bx105 br105 bi105 => ?_
          refine seq_k fun N106 M106 hN106 hM106 => ?_
          refine region_k fun K107 hK107 => ?_
          simp only [go_sem, P5.ls, ic0, ic1, ic2, ic3, ic4, ic5, Int.reduceMod, Int.reduceTMod, Int.toNat_one]
          all_goals repeat' (first | apply And.intro | intro _)
          all_goals
           refine hK107 _ ?_
           refine hN106 _ ?_
           refine seq_k fun N108 M108 hN108 hM108 => ?_
           refine region_k fun K109 hK109 => ?_
           simp only [go_sem, P5.ls, ic0, ic1, ic2, ic3, ic4, ic5, Int.reduceMod, Int.reduceTMod, Int.toNat_one]
           all_goals repeat' (first | apply And.intro | intro _)
           all_goals
            refine hK109 _ ?_
            refine hN108 _ ?_
            refine block_k fun B110 bn110 bx110 br110 bi110 => ?_
            refine rounds_k 6 ?_
            refine rnd_k fun N112 M112 hN112 hM112 => ?_
            refine seq_k fun N113 M113 hN113 hM113 => ?_
            refine region_k fun K114 hK114 => ?_
            simp only [go_sem, P5.ls, ic0, ic1, ic2, ic3, ic4, ic5, Int.reduceMod, Int.reduceTMod, Int.toNat_one]
            all_goals repeat' (first | apply And.intro | intro _)
            all_goals
             refine hK114 _ ?_
             refine hN113 _ ?_
             refine seq_k fun N115 M115 hN115 hM115 => ?_
             refine cond_k rfl (fun hc => ?_) (fun hc => ?_)
             · try simp only [go_sem, P5.ls, ic0, ic1, ic2, ic3, ic4, ic5, Int.reduceMod, Int.reduceTMod, Int.toNat_one] at hc
               all_goals
                refine skip_k ?_
                refine hN115 _ ?_
                refine seq_k fun N116 M116 hN116 hM116 => ?_
                refine block_k fun B117 bn117 bx117 br117 bi117 => ?_
                refine seq_k fun N118 M118 hN118 hM118 => ?_
                refine region_k fun K119 hK119 => ?_
                simp only [go_sem, P5.ls, ic0, ic1, ic2, ic3, ic4, ic5, Int.reduceMod, Int.reduceTMod, Int.toNat_one]
                all_goals repeat' (first | apply And.intro | intro _)
                all_goals
                 refine hK119 _ ?_
                 refine hN118 _ ?_
                 refine seq_k fun N120 M120 hN120 hM120 => ?_
                 refine region_k fun K121 hK121 => ?_
                 simp only [go_sem, P5.ls, ic0, ic1, ic2, ic3, ic4, ic5, Int.reduceMod, Int.reduceTMod, Int.toNat_one]
                 all_goals repeat' (first | apply And.intro | intro _)
                 all_goals
                  refine hK121 _ ?_
                  refine hN120 _ ?_
                  refine seq_k fun N122 M122 hN122 hM122 => ?_
                  refine seq_k fun N123 M123 hN123 hM123 => ?_
                  refine region_k fun K124 hK124 => ?_
                  simp only [go_sem, P5.ls, ic0, ic1, ic2, ic3, ic4, ic5, Int.reduceMod, Int.reduceTMod, Int.toNat_one]
                  all_goals repeat' (first | apply And.intro | intro _)
                  all_goals
                   refine hK124 _ ?_
                   refine hN123 _ ?_
                   refine cond_k rfl (fun hc => ?_) (fun hc => ?_)
                   · exfalso; revert hc; simp [go_sem, P5.ls, decide_true, decide_false, ic0, ic1, ic2, ic3, ic4, ic5, Int.reduceAdd, Int.reduceMod, Int.reduceTMod, Int.reduceLT, Int.reduceLE, Int.reduceToNat, Int.toNat_zero, Int.toNat_one]
                   · try simp only [go_sem, P5.ls, ic0, ic1, ic2, ic3, ic4, ic5, Int.reduceMod, Int.reduceTMod, Int.toNat_one] at hc
                     all_goals
                      refine skip_k ?_
                      refine hN122 _ ?_
                      refine region_k fun K125 hK125 => ?_
                      simp only [go_sem, P5.ls, ic0, ic1, ic2, ic3, ic4, ic5, Int.reduceMod, Int.reduceTMod, Int.toNat_one]
                      all_goals repeat' (first | apply And.intro | intro _)
                      all_goals
                       refine hK125 _ ?_
                       refine bn117 _ ?_
                       refine hN116 _ ?_
                       refine region_k fun K126 hK126 => ?_
                       simp only [go_sem, P5.ls, ic0, ic1, ic2, ic3, ic4, ic5, Int.reduceMod, Int.reduceTMod, Int.toNat_one]
                       all_goals repeat' (first | apply And.intro | intro _)
                       all_goals
                        refine hK126 _ ?_
                        refine hN112 _ ?_
                        refine rnd_forget [8, 9, 10, 18, 19, 20, 21, 22, 23, 24, 25, 26, 27, 28, 29, 30, 31, 32, 33, 34, 35, 36, 37, 38, 39] ?_
                        simp only [go_sem, St.forget, fgt]
                        refine rnd_k fun N127 M127 hN127 hM127 => ?_
                        refine seq_k fun N128 M128 hN128 hM128 => ?_
                        refine region_k fun K129 hK129 => ?_
                        simp only [go_sem, P5.ls, ic0, ic1, ic2, ic3, ic4, ic5, Int.reduceMod, Int.reduceTMod, Int.toNat_one]
                        all_goals repeat' (first | apply And.intro | intro _)
                        all_goals
                         refine hK129 _ ?_
                         refine hN128 _ ?_
                         refine seq_k fun N130 M130 hN130 hM130 => ?_
                         refine cond_k rfl (fun hc => ?_) (fun hc => ?_)
                         · try simp only [go_sem, P5.ls, ic0, ic1, ic2, ic3, ic4, ic5, Int.reduceMod, Int.reduceTMod, Int.toNat_one] at hc
                           all_goals
                            refine skip_k ?_
                            refine hN130 _ ?_
                            refine seq_k fun N131 M131 hN131 hM131 => ?_
                            refine block_k fun B132 bn132 bx132 br132 bi132 => ?_
                            refine seq_k fun N133 M133 hN133 hM133 => ?_
                            refine region_k fun K134 hK134 => ?_
                            simp only [go_sem, P5.ls, ic0, ic1, ic2, ic3, ic4, ic5, Int.reduceMod, Int.reduceTMod, Int.toNat_one]
                            all_goals repeat' (first | apply And.intro | intro _)
                            all_goals
                             refine hK134 _ ?_
                             refine hN133 _ ?_
                             refine seq_k fun N135 M135 hN135 hM135 => ?_
                             refine region_k fun K136 hK136 => ?_
                             simp only [go_sem, P5.ls, ic0, ic1, ic2, ic3, ic4, ic5, Int.reduceMod, Int.reduceTMod, Int.toNat_one]
                             all_goals repeat' (first | apply And.intro | intro _)
                             all_goals
                              refine hK136 _ ?_
                              refine hN135 _ ?_
                              refine seq_k fun N137 M137 hN137 hM137 => ?_
                              refine seq_k fun N138 M138 hN138 hM138 => ?_
                              refine region_k fun K139 hK139 => ?_
                              simp only [go_sem, P5.ls, ic0, ic1, ic2, ic3, ic4, ic5, Int.reduceMod, Int.reduceTMod, Int.toNat_one]
                              all_goals repeat' (first | apply And.intro | intro _)
                              all_goals
                               refine hK139 _ ?_
                               refine hN138 _ ?_
                               refine cond_k rfl (fun hc => ?_) (fun hc => ?_)
                               · exfalso; revert hc; simp [go_sem, P5.ls, decide_true, decide_false, ic0, ic1, ic2, ic3, ic4, ic5, Int.reduceAdd, Int.reduceMod, Int.reduceTMod, Int.reduceLT, Int.reduceLE, Int.reduceToNat, Int.toNat_zero, Int.toNat_one]
                               · try simp only [go_sem, P5.ls, ic0, ic1, ic2, ic3, ic4, ic5, Int.reduceMod, Int.reduceTMod, Int.toNat_one] at hc
                                 all_goals
                                  refine skip_k ?_
                                  refine hN137 _ ?_
                                  refine region_k fun K140 hK140 => ?_
                                  simp only [go_sem, P5.ls, ic0, ic1, ic2, ic3, ic4, ic5, Int.reduceMod, Int.reduceTMod, Int.toNat_one]
                                  all_goals repeat' (first | apply And.intro | intro _)
                                  all_goals
                                   refine hK140 _ ?_
                                   refine bn132 _ ?_
                                   refine hN131 _ ?_
                                   refine region_k fun K141 hK141 => ?_
                                   simp only [go_sem, P5.ls, ic0, ic1, ic2, ic3, ic4, ic5, Int.reduceMod, Int.reduceTMod, Int.toNat_one]
                                   all_goals repeat' (first | apply And.intro | intro _)
                                   all_goals
                                    refine hK141 _ ?_
                                    refine hN127 _ ?_
                                    refine rnd_forget [8, 9, 10, 18, 19, 20, 21, 22, 23, 24, 25, 26, 27, 28, 29, 30, 31, 32, 33, 34, 35, 36, 37, 38, 39] ?_
                                    simp only [go_sem, St.forget, fgt]
                                    refine rnd_k fun N142 M142 hN142 hM142 => ?_
                                    refine seq_k fun N143 M143 hN143 hM143 => ?_
                                    refine region_k fun K144 hK144 => ?_
                                    simp only [go_sem, P5.ls, ic0, ic1, ic2, ic3, ic4, ic5, Int.reduceMod, Int.reduceTMod, Int.toNat_one]
                                    all_goals repeat' (first | apply And.intro | intro _)
                                    all_goals
                                     refine hK144 _ ?_
                                     refine hN143 _ ?_
                                     refine seq_k fun N145 M145 hN145 hM145 => ?_
                                     refine cond_k rfl (fun hc => ?_) (fun hc => ?_)
                                     · try simp only [go_sem, P5.ls, ic0, ic1, ic2, ic3, ic4, ic5, Int.reduceMod, Int.reduceTMod, Int.toNat_one] at hc
                                       all_goals
                                        refine skip_k ?_
                                        refine hN145 _ ?_
                                        refine seq_k fun N146 M146 hN146 hM146 => ?_
                                        refine block_k fun B147 bn147 bx147 br147 bi147 => ?_
                                        refine seq_k fun N148 M148 hN148 hM148 => ?_
                                        refine region_k fun K149 hK149 => ?_
                                        simp only [go_sem, P5.ls, ic0, ic1, ic2, ic3, ic4, ic5, Int.reduceMod, Int.reduceTMod, Int.toNat_one]
                                        all_goals repeat' (first | apply And.intro | intro _)
                                        all_goals
                                         refine hK149 _ ?_
                                         refine hN148 _ ?_
                                         refine seq_k fun N150 M150 hN150 hM150 => ?_
                                         refine region_k fun K151 hK151 => ?_
                                         simp only [go_sem, P5.ls, ic0, ic1, ic2, ic3, ic4, ic5, Int.reduceMod, Int.reduceTMod, Int.toNat_one]
                                         all_goals repeat' (first | apply And.intro | intro _)
                                         all_goals
                                          refine hK151 _ ?_
                                          refine hN150 _ ?_
                                          refine seq_k fun N152 M152 hN152 hM152 => ?_
                                          refine seq_k fun N153 M153 hN153 hM153 => ?_
                                          refine region_k fun K154 hK154 => ?_
                                          simp only [go_sem, P5.ls, ic0, ic1, ic2, ic3, ic4, ic5, Int.reduceMod, Int.reduceTMod, Int.toNat_one]
                                          all_goals repeat' (first | apply And.intro | intro _)
                                          all_goals
                                           refine hK154 _ ?_
                                           refine hN153 _ ?_
                                           refine cond_k rfl (fun hc => ?_) (fun hc => ?_)
                                           · exfalso; revert hc; simp [go_sem, P5.ls, decide_true, decide_false, ic0, ic1, ic2, ic3, ic4, ic5, Int.reduceAdd, Int.reduceMod, Int.reduceTMod, Int.reduceLT, Int.reduceLE, Int.reduceToNat, Int.toNat_zero, Int.toNat_one]
                                           · try simp only [go_sem, P5.ls, ic0, ic1, ic2, ic3, ic4, ic5, Int.reduceMod, Int.reduceTMod, Int.toNat_one] at hc
                                             all_goals
                                              refine skip_k ?_
                                              refine hN152 _ ?_
                                              refine region_k fun K155 hK155 => ?_
                                              simp only [go_sem, P5.ls, ic0, ic1, ic2, ic3, ic4, ic5, Int.reduceMod, Int.reduceTMod, Int.toNat_one]
                                              all_goals repeat' (first | apply And.intro | intro _)
                                              all_goals
                                               refine hK155 _ ?_
                                               refine bn147 _ ?_
                                               refine hN146 _ ?_
                                               refine region_k fun K156 hK156 => ?_
                                               simp only [go_sem, P5.ls, ic0, ic1, ic2, ic3, ic4, ic5, Int.reduceMod, Int.reduceTMod, Int.toNat_one]
                                               all_goals repeat' (first | apply And.intro | intro _)
                                               all_goals
                                                refine hK156 _ ?_
                                                refine hN142 _ ?_
                                                refine rnd_forget [8, 9, 10, 18, 19, 20, 21, 22, 23, 24, 25, 26, 27, 28, 29, 30, 31, 32, 33, 34, 35, 36, 37, 38, 39] ?_
                                                simp only [go_sem, St.forget, fgt]
                                                refine rnd_k fun N157 M157 hN157 hM157 => ?_
                                                refine seq_k fun N158 M158 hN158 hM158 => ?_
                                                refine region_k fun K159 hK159 => ?_
                                                simp only [go_sem, P5.ls, ic0, ic1, ic2, ic3, ic4, ic5, Int.reduceMod, Int.reduceTMod, Int.toNat_one]
                                                all_goals repeat' (first | apply And.intro | intro _)
                                                all_goals
                                                 refine hK159 _ ?_
                                                 refine hN158 _ ?_
                                                 refine seq_k fun N160 M160 hN160 hM160 => ?_
                                                 refine cond_k rfl (fun hc => ?_) (fun hc => ?_)
                                                 · try simp only [go_sem, P5.ls, ic0, ic1, ic2, ic3, ic4, ic5, Int.reduceMod, Int.reduceTMod, Int.toNat_one] at hc
                                                   all_goals
                                                    refine skip_k ?_
                                                    refine hN160 _ ?_
                                                    refine seq_k fun N161 M161 hN161 hM161 => ?_
                                                    refine block_k fun B162 bn162 bx162 br162 bi162 => ?_
                                                    refine seq_k fun N163 M163 hN163 hM163 => ?_
                                                    refine region_k fun K164 hK164 => ?_
                                                    simp only [go_sem, P5.ls, ic0, ic1, ic2, ic3, ic4, ic5, Int.reduceMod, Int.reduceTMod, Int.toNat_one]
                                                    all_goals repeat' (first | apply And.intro | intro _)
                                                    all_goals
                                                     refine hK164 _ ?_
                                                     refine hN163 _ ?_
                                                     refine seq_k fun N165 M165 hN165 hM165 => ?_
                                                     refine region_k fun K166 hK166 => ?_
                                                     simp only [go_sem, P5.ls, ic0, ic1, ic2, ic3, ic4, ic5, Int.reduceMod, Int.reduceTMod, Int.toNat_one]
                                                     all_goals repeat' (first | apply And.intro | intro _)
                                                     all_goals
                                                      refine hK166 _ ?_
                                                      refine hN165 _ ?_
                                                      refine seq_k fun N167 M167 hN167 hM167 => ?_
                                                      refine seq_k fun N168 M168 hN168 hM168 => ?_
                                                      refine region_k fun K169 hK169 => ?_
                                                      simp only [go_sem, P5.ls, ic0, ic1, ic2, ic3, ic4, ic5, Int.reduceMod, Int.reduceTMod, Int.toNat_one]
                                                      all_goals repeat' (first | apply And.intro | intro _)
                                                      all_goals
                                                       refine hK169 _ ?_
                                                       refine hN168 _ ?_
                                                       refine cond_k rfl (fun hc => ?_) (fun hc => ?_)
                                                       · exfalso; revert hc; simp [go_sem, P5.ls, decide_true, decide_false, ic0, ic1, ic2, ic3, ic4, ic5, Int.reduceAdd, Int.reduceMod, Int.reduceTMod, Int.reduceLT, Int.reduceLE, Int.reduceToNat, Int.toNat_zero, Int.toNat_one]
                                                       · try simp only [go_sem, P5.ls, ic0, ic1, ic2, ic3, ic4, ic5, Int.reduceMod, Int.reduceTMod, Int.toNat_one] at hc
                                                         all_goals
                                                          refine skip_k ?_
                                                          refine hN167 _ ?_
                                                          refine region_k fun K170 hK170 => ?_
                                                          simp only [go_sem, P5.ls, ic0, ic1, ic2, ic3, ic4, ic5, Int.reduceMod, Int.reduceTMod, Int.toNat_one]
                                                          all_goals repeat' (first | apply And.intro | intro _)
                                                          all_goals
                                                           refine hK170 _ ?_
                                                           refine bn162 _ ?_
                                                           refine hN161 _ ?_
                                                           refine region_k fun K171 hK171 => ?_
                                                           simp only [go_sem, P5.ls, ic0, ic1, ic2, ic3, ic4, ic5, Int.reduceMod, Int.reduceTMod, Int.toNat_one]
                                                           all_goals repeat' (first | apply And.intro | intro _)
                                                           all_goals
                                                            refine hK171 _ ?_
                                                            refine hN157 _ ?_
                                                            refine rnd_forget [8, 9, 10, 18, 19, 20, 21, 22, 23, 24, 25, 26, 27, 28, 29, 30, 31, 32, 33, 34, 35, 36, 37, 38, 39] ?_
                                                            simp only [go_sem, St.forget, fgt]
                                                            refine rnd_k fun N172 M172 hN172 hM172 => ?_
                                                            refine seq_k fun N173 M173 hN173 hM173 => ?_
                                                            refine region_k fun K174 hK174 => ?_
                                                            simp only [go_sem, P5.ls, ic0, ic1, ic2, ic3, ic4, ic5, Int.reduceMod, Int.reduceTMod, Int.toNat_one]
                                                            all_goals repeat' (first | apply And.intro | intro _)
                                                            all_goals
                                                             refine hK174 _ ?_
                                                             refine hN173 _ ?_
                                                             refine seq_k fun N175 M175 hN175 hM175 => ?_
                                                             refine cond_k rfl (fun hc => ?_) (fun hc => ?_)
                                                             · try simp only [go_sem, P5.ls, ic0, ic1, ic2, ic3, ic4, ic5, Int.reduceMod, Int.reduceTMod, Int.toNat_one] at hc
                                                               all_goals
                                                                refine skip_k ?_
                                                                refine hN175 _ ?_
                                                                refine seq_k fun N176 M176 hN176 hM176 => ?_
                                                                refine block_k fun B177 bn177 bx177 br177 bi177 => ?_
                                                                refine seq_k fun N178 M178 hN178 hM178 => ?_
                                                                refine region_k fun K179 hK179 => ?_
                                                                simp only [go_sem, P5.ls, ic0, ic1, ic2, ic3, ic4, ic5, Int.reduceMod, Int.reduceTMod, Int.toNat_one]
                                                                all_goals repeat' (first | apply And.intro | intro _)
                                                                all_goals
                                                                 refine hK179 _ ?_
                                                                 refine hN178 _ ?_
                                                                 refine seq_k fun N180 M180 hN180 hM180 => ?_
                                                                 refine region_k fun K181 hK181 => ?_
                                                                 simp only [go_sem, P5.ls, ic0, ic1, ic2, ic3, ic4, ic5, Int.reduceMod, Int.reduceTMod, Int.toNat_one]
                                                                 all_goals repeat' (first | apply And.intro | intro _)
                                                                 all_goals
                                                                  refine hK181 _ ?_
                                                                  refine hN180 _ ?_
                                                                  refine seq_k fun N182 M182 hN182 hM182 => ?_
                                                                  refine seq_k fun N183 M183 hN183 hM183 => ?_
                                                                  refine region_k fun K184 hK184 => ?_
                                                                  simp only [go_sem, P5.ls, ic0, ic1, ic2, ic3, ic4, ic5, Int.reduceMod, Int.reduceTMod, Int.toNat_one]
                                                                  all_goals repeat' (first | apply And.intro | intro _)
                                                                  all_goals
                                                                   refine hK184 _ ?_
                                                                   refine hN183 _ ?_
                                                                   refine cond_k rfl (fun hc => ?_) (fun hc => ?_)
                                                                   · try simp only [go_sem, P5.ls, ic0, ic1, ic2, ic3, ic4, ic5, Int.reduceMod, Int.reduceTMod, Int.toNat_one] at hc
                                                                     all_goals
                                                                      refine region_k fun K185 hK185 => ?_
                                                                      simp only [go_sem, P5.ls, ic0, ic1, ic2, ic3, ic4, ic5, Int.reduceMod, Int.reduceTMod, Int.toNat_one]
                                                                      all_goals repeat' (first | apply And.intro | intro _)
                                                                      all_goals
                                                                       refine hK185 _ ?_
                                                                       refine hN182 _ ?_
                                                                       refine region_k fun K186 hK186 => ?_
                                                                       simp only [go_sem, P5.ls, ic0, ic1, ic2, ic3, ic4, ic5, Int.reduceMod, Int.reduceTMod, Int.toNat_one]
                                                                       all_goals repeat' (first | apply And.intro | intro _)
                                                                       all_goals
                                                                        refine hK186 _ ?_
                                                                        refine bn177 _ ?_
                                                                        refine hN176 _ ?_
                                                                        refine region_k fun K187 hK187 => ?_
                                                                        simp only [go_sem, P5.ls, ic0, ic1, ic2, ic3, ic4, ic5, Int.reduceMod, Int.reduceTMod, Int.toNat_one]
                                                                        all_goals repeat' (first | apply And.intro | intro _)
                                                                        all_goals
                                                                         refine hK187 _ ?_
                                                                         refine hN172 _ ?_
                                                                         refine rnd_forget [8, 9, 10, 18, 19, 20, 21, 22, 23, 24, 25, 26, 27, 28, 29, 30, 31, 32, 33, 34, 35, 36, 37, 38, 39] ?_
                                                                         simp only [go_sem, St.forget, fgt]
                                                                         refine rnd_k fun N188 M188 hN188 hM188 => ?_
                                                                         refine seq_k fun N189 M189 hN189 hM189 => ?_
                                                                         refine region_k fun K190 hK190 => ?_
                                                                         simp only [go_sem, P5.ls, ic0, ic1, ic2, ic3, ic4, ic5, Int.reduceMod, Int.reduceTMod, Int.toNat_one]
                                                                         all_goals repeat' (first | apply And.intro | intro _)
                                                                         all_goals
                                                                          refine hK190 _ ?_
                                                                          refine hN189 _ ?_
                                                                          refine seq_k fun N191 M191 hN191 hM191 => ?_
                                                                          refine cond_k rfl (fun hc => ?_) (fun hc => ?_)
                                                                          · exfalso; revert hc; simp
                                                                          · try simp only [go_sem, P5.ls, ic0, ic1, ic2, ic3, ic4, ic5, Int.reduceMod, Int.reduceTMod, Int.toNat_one] at hc
                                                                            all_goals
                                                                             refine exit_k ?_
                                                                             refine hM191 _ _ ?_
                                                                             refine hM188 _ _ ?_
                                                                             refine bx110 _ ?_
                                                                             refine bn105 _ ?_
                                                                             refine hN104 _ ?_
                                                                             refine region_k fun K192 hK192 => ?_
                                                                             simp only [go_sem, P5.ls, ic0, ic1, ic2, ic3, ic4, ic5, Int.reduceMod, Int.reduceTMod, Int.toNat_one]
                                                                             all_goals repeat' (first | apply And.intro | intro _)
                                                                             all_goals
                                                                              refine hK192 _ ?_
                                                                              refine hN9 ⟨2, by omega⟩ _ ?_ ?_ ?_
                                                                              · (show 5 - (1 + 1) < 5 - 1; omega)
                                                                              · (simp only [go_sem, leX, List.cons_append, List.nil_append]; try simp)
                                                                              · (simp only [mulN, go_sem, leX, List.cons_append, List.nil_append]; first | done | (simp [mulN, mul5, P5.ls, leX, look]; done) | rfl)
                                                                   · exfalso; revert hc; simp [go_sem, P5.ls, decide_true, decide_false, ic0, ic1, ic2, ic3, ic4, ic5, Int.reduceAdd, Int.reduceMod, Int.reduceTMod, Int.reduceLT, Int.reduceLE, Int.reduceToNat, Int.toNat_zero, Int.toNat_one]
                                                             · exfalso; revert hc; simp
                                                 · exfalso; revert hc; simp
                                     · exfalso; revert hc; simp
                         · exfalso; revert hc; simp
             · exfalso; revert hc; simp
       · exfalso; revert hc; simp [go_sem, P5.ls, decide_true, decide_false, ic0, ic1, ic2, ic3, ic4, ic5, Int.reduceAdd, Int.reduceMod, Int.reduceTMod, Int.reduceLT, Int.reduceLE, Int.reduceToNat, Int.toNat_zero, Int.toNat_one]
    · simp only [mulN]
      refine seq_k fun N193 M193 hN193 hM193 => ?_
      refine region_k fun K194 hK194 => ?_
      simp only [go_sem, P5.ls, ic0, ic1, ic2, ic3, ic4, ic5, Int.reduceMod, Int.reduceTMod, Int.toNat_one]
      all_goals repeat' (first | apply And.intro | intro _)
      all_goals
       refine hK194 _ ?_
       refine hN193 _ ?_
       refine seq_k fun N195 M195 hN195 hM195 => ?_
       refine cond_k rfl (fun hc => ?_) (fun hc => ?_)
       · try simp only [go_sem, P5.ls, ic0, ic1, ic2, ic3, ic4, ic5, Int.reduceMod, Int.reduceTMod, Int.toNat_one] at hc
         all_goals
          refine skip_k ?_
          refine hN195 _ ?_
          refine seq_k fun N196 M196 hN196 hM196 => ?_
          refine block_k fun B197 bn197 bx197 br197 bi197 => ?_
          refine seq_k fun N198 M198 hN198 hM198 => ?_
          refine region_k fun K199 hK199 => ?_
          simp only [go_sem, P5.ls, ic0, ic1, ic2, ic3, ic4, ic5, Int.reduceMod, Int.reduceTMod, Int.toNat_one]
          all_goals repeat' (first | apply And.intro | intro _)
          all_goals
           refine hK199 _ ?_
           refine hN198 _ ?_
           refine seq_k fun N200 M200 hN200 hM200 => ?_
           refine region_k fun K201 hK201 => ?_
           simp only [go_sem, P5.ls, ic0, ic1, ic2, ic3, ic4, ic5, Int.reduceMod, Int.reduceTMod, Int.toNat_one]
           all_goals repeat' (first | apply And.intro | intro _)
           all_goals
            refine hK201 _ ?_
            refine hN200 _ ?_
            refine block_k fun B202 bn202 bx202 br202 bi202 => ?_
            refine rounds_k 6 ?_
            refine rnd_k fun N204 M204 hN204 hM204 => ?_
            refine seq_k fun N205 M205 hN205 hM205 => ?_
            refine region_k fun K206 hK206 => ?_
            simp only [go_sem, P5.ls, ic0, ic1, ic2, ic3, ic4, ic5, Int.reduceMod, Int.reduceTMod, Int.toNat_one]
            all_goals repeat' (first | apply And.intro | intro _)
            all_goals
             refine hK206 _ ?_
             refine hN205 _ ?_
             refine seq_k fun N207 M207 hN207 hM207 => ?_
             refine cond_k rfl (fun hc => ?_) (fun hc => ?_)
             · try simp only [go_sem, P5.ls, ic0, ic1, ic2, ic3, ic4, ic5, Int.reduceMod, Int.reduceTMod, Int.toNat_one] at hc
               all_goals
                refine skip_k ?_
                refine hN207 _ ?_
                refine seq_k fun N208 M208 hN208 hM208 => ?_
                refine block_k fun B209 bn209 bx209 br209 bi209 => ?_
                refine seq_k fun N210 M210 hN210 hM210 => ?_
                refine region_k fun K211 hK211 => ?_
                simp only [go_sem, P5.ls, ic0, ic1, ic2, ic3, ic4, ic5, Int.reduceMod, Int.reduceTMod, Int.toNat_one]
                all_goals repeat' (first | apply And.intro | intro _)
                all_goals
                 refine hK211 _ ?_
                 refine hN210 _ ?_
                 refine seq_k fun N212 M212 hN212 hM212 => ?_
                 refine region_k fun K213 hK213 => ?_
                 simp only [go_sem, P5.ls, ic0, ic1, ic2, ic3, ic4, ic5, Int.reduceMod, Int.reduceTMod, Int.toNat_one]
                 all_goals repeat' (first | apply And.intro | intro _)
                 all_goals
                  refine hK213 _ ?_
                  refine hN212 _ ?_
                  refine seq_k fun N214 M214 hN214 hM214 => ?_
                  refine seq_k fun N215 M215 hN215 hM215 => ?_
                  refine region_k fun K216 hK216 => ?_
                  simp only [go_sem, P5.ls, ic0, ic1, ic2, ic3, ic4, ic5, Int.reduceMod, Int.reduceTMod, Int.toNat_one]
                  all_goals repeat' (first | apply And.intro | intro _)
                  all_goals
                   refine hK216 _ ?_
                   refine hN215 _ ?_
                   refine cond_k rfl (fun hc => ?_) (fun hc => ?_)
                   · exfalso; revert hc; simp [go_sem, P5.ls, decide_true, decide_false, ic0, ic1, ic2, ic3, ic4, ic5, Int.reduceAdd, Int.reduceMod, Int.reduceTMod, Int.reduceLT, Int.reduceLE, Int.reduceToNat, Int.toNat_zero, Int.toNat_one]
                   · try simp only [go_sem, P5.ls, ic0, ic1, ic2, ic3, ic4, ic5, Int.reduceMod, Int.reduceTMod, Int.toNat_one] at hc
                     all_goals
                      refine skip_k ?_
                      refine hN214 _ ?_
                      refine region_k fun K217 hK217 => ?_
                      simp only [go_sem, P5.ls, ic0, ic1, ic2, ic3, ic4, ic5, Int.reduceMod, Int.reduceTMod, Int.toNat_one]
                      all_goals repeat' (first | apply And.intro | intro _)
                      all_goals
                       refine hK217 _ ?_
                       refine bn209 _ ?_
                       refine hN208 _ ?_
                       refine region_k fun K218 hK218 => ?_
                       simp only [go_sem, P5.ls, ic0, ic1, ic2, ic3, ic4, ic5, Int.reduceMod, Int.reduceTMod, Int.toNat_one]
                       all_goals repeat' (first | apply And.intro | intro _)
                       all_goals
                        refine hK218 _ ?_
                        refine hN204 _ ?_
                        refine rnd_forget [8, 9, 10, 18, 19, 20, 21, 22, 23, 24, 25, 26, 27, 28, 29, 30, 31, 32, 33, 34, 35, 36, 37, 38, 39] ?_
                        simp only [go_sem, St.forget, fgt]
                        refine rnd_k fun N219 M219 hN219 hM219 => ?_
                        refine seq_k fun N220 M220 hN220 hM220 => ?_
                        refine region_k fun K221 hK221 => ?_
                        simp only [go_sem, P5.ls, ic0, ic1, ic2, ic3, ic4, ic5, Int.reduceMod, Int.reduceTMod, Int.toNat_one]
                        all_goals repeat' (first | apply And.intro | intro _)
                        all_goals
                         refine hK221 _ ?_
                         refine hN220 _ ?_
                         refine seq_k fun N222 M222 hN222 hM222 => ?_
                         refine cond_k rfl (fun hc => ?_) (fun hc => ?_)
                         · try simp only [go_sem, P5.ls, ic0, ic1, ic2, ic3, ic4, ic5, Int.reduceMod, Int.reduceTMod, Int.toNat_one] at hc
                           all_goals
                            refine skip_k ?_
                            refine hN222 _ ?_
                            refine seq_k fun N223 M223 hN223 hM223 => ?_
                            refine block_k fun B224 bn224 bx224 br224 bi224 => ?_
                            refine seq_k fun N225 M225 hN225 hM225 => ?_
                            refine region_k fun K226 hK226 => ?_
                            simp only [go_sem, P5.ls, ic0, ic1, ic2, ic3, ic4, ic5, Int.reduceMod, Int.reduceTMod, Int.toNat_one]
                            all_goals repeat' (first | apply And.intro | intro _)
                            all_goals
                             refine hK226 _ ?_
                             refine hN225 _ ?_
                             refine seq_k fun N227 M227 hN227 hM227 => ?_
                             refine region_k fun K228 hK228 => ?_
                             simp only [go_sem, P5.ls, ic0, ic1, ic2, ic3, ic4, ic5, Int.reduceMod, Int.reduceTMod, Int.toNat_one]
                             all_goals repeat' (first | apply And.intro | intro _)
                             all_goals
                              refine hK228 _ ?_
                              refine hN227 _ ?_
                              refine seq_k fun N229 M229 hN229 hM229 => ?_
                              refine seq_k fun N230 M230 hN230 hM230 => ?_
                              refine region_k fun K231 hK231 => ?_
                              simp only [go_sem, P5.ls, ic0, ic1, ic2, ic3, ic4, ic5, Int.reduceMod, Int.reduceTMod, Int.toNat_one]
                              all_goals repeat' (first | apply And.intro | intro _)
                              all_goals
                               refine hK231 _ ?_
                               refine hN230 _ ?_
                               refine cond_k rfl (fun hc => ?_) (fun hc => ?_)
                               · exfalso; revert hc; simp [go_sem, P5.ls, decide_true, decide_false, ic0, ic1, ic2, ic3, ic4, ic5, Int.reduceAdd, Int.reduceMod, Int.reduceTMod, Int.reduceLT, Int.reduceLE, Int.reduceToNat, Int.toNat_zero, Int.toNat_one]
                               · try simp only [go_sem, P5.ls, ic0, ic1, ic2, ic3, ic4, ic5, Int.reduceMod, Int.reduceTMod, Int.toNat_one] at hc
                                 all_goals
                                  refine skip_k ?_
                                  refine hN229 _ ?_
                                  refine region_k fun K232 hK232 => ?_
                                  simp only [go_sem, P5.ls, ic0, ic1, ic2, ic3, ic4, ic5, Int.reduceMod, Int.reduceTMod, Int.toNat_one]
                                  all_goals repeat' (first | apply And.intro | intro _)
                                  all_goals
                                   refine hK232 _ ?_
                                   refine bn224 _ ?_
                                   refine hN223 _ ?_
                                   refine region_k fun K233 hK233 => ?_
                                   simp only [go_sem, P5.ls, ic0, ic1, ic2, ic3, ic4, ic5, Int.reduceMod, Int.reduceTMod, Int.toNat_one]
                                   all_goals repeat' (first | apply And.intro | intro _)
                                   all_goals
                                    refine hK233 _ ?_
                                    refine hN219 _ ?_
                                    refine rnd_forget [8, 9, 10, 18, 19, 20, 21, 22, 23, 24, 25, 26, 27, 28, 29, 30, 31, 32, 33, 34, 35, 36, 37, 38, 39] ?_
                                    simp only [go_sem, St.forget, fgt]
                                    refine rnd_k fun N234 M234 hN234 hM234 => ?_
                                    refine seq_k fun N235 M235 hN235 hM235 => ?_
                                    refine region_k fun K236 hK236 => ?_
                                    simp only [go_sem, P5.ls, ic0, ic1, ic2, ic3, ic4, ic5, Int.reduceMod, Int.reduceTMod, Int.toNat_one]
                                    all_goals repeat' (first | apply And.intro | intro _)
                                    all_goals
                                     refine hK236 _ ?_
                                     refine hN235 _ ?_
                                     refine seq_k fun N237 M237 hN237 hM237 => ?_
                                     refine cond_k rfl (fun hc => ?_) (fun hc => ?_)
                                     · try simp only [go_sem, P5.ls, ic0, ic1, ic2, ic3, ic4, ic5, Int.reduceMod, Int.reduceTMod, Int.toNat_one] at hc
                                       all_goals
                                        refine skip_k ?_
                                        refine hN237 _ ?_
                                        refine seq_k fun N238 M238 hN238 hM238 => ?_
                                        refine block_k fun B239 bn239 bx239 br239 bi239 => ?_
                                        refine seq_k fun N240 M240 hN240 hM240 => ?_
                                        refine region_k fun K241 hK241 => ?_
                                        simp only [go_sem, P5.ls, ic0, ic1, ic2, ic3, ic4, ic5, Int.reduceMod, Int.reduceTMod, Int.toNat_one]
                                        all_goals repeat' (first | apply And.intro | intro _)
                                        all_goals
                                         refine hK241 _ ?_
                                         refine hN240 _ ?_
                                         refine seq_k fun N242 M242 hN242 hM242 => ?_
                                         refine region_k fun K243 hK243 => ?_
                                         simp only [go_sem, P5.ls, ic0, ic1, ic2, ic3, ic4, ic5, Int.reduceMod, Int.reduceTMod, Int.toNat_one]
                                         all_goals repeat' (first | apply And.intro | intro _)
                                         all_goals
                                          refine hK243 _ ?_
                                          refine hN242 _ ?_
                                          refine seq_k fun N244 M244 hN244 hM244 => ?_
                                          refine seq_k fun N245 M245 hN245 hM245 => ?_
                                          refine region_k fun K246 hK246 => ?_
                                          simp only [go_sem, P5.ls, ic0, ic1, ic2, ic3, ic4, ic5, Int.reduceMod, Int.reduceTMod, Int.toNat_one]
                                          all_goals repeat' (first | apply And.intro | intro _)
                                          all_goals
                                           refine hK246 _ ?_
                                           refine hN245 _ ?_
                                           refine cond_k rfl (fun hc => ?_) (fun hc => ?_)
                                           · exfalso; revert hc; simp [go_sem, P5.ls, decide_true, decide_false, ic0, ic1, ic2, ic3, ic4, ic5, Int.reduceAdd, Int.reduceMod, Int.reduceTMod, Int.reduceLT, Int.reduceLE, Int.reduceToNat, Int.toNat_zero, Int.toNat_one]
                                           · try simp only [go_sem, P5.ls, ic0, ic1, ic2, ic3, ic4, ic5, Int.reduceMod, Int.reduceTMod, Int.toNat_one] at hc
                                             all_goals
                                              refine skip_k ?_
                                              refine hN244 _ ?_
                                              refine region_k fun K247 hK247 => ?_
                                              simp only [go_sem, P5.ls, ic0, ic1, ic2, ic3, ic4, ic5, Int.reduceMod, Int.reduceTMod, Int.toNat_one]
                                              all_goals repeat' (first | apply And.intro | intro _)
                                              all_goals
                                               refine hK247 _ ?_
                                               refine bn239 _ ?_
                                               refine hN238 _ ?_
                                               refine region_k fun K248 hK248 => ?_
                                               simp only [go_sem, P5.ls, ic0, ic1, ic2, ic3, ic4, ic5, Int.reduceMod, Int.reduceTMod, Int.toNat_one]
                                               all_goals repeat' (first | apply And.intro | intro _)
                                               all_goals
                                                refine hK248 _ ?_
                                                refine hN234 _ ?_
                                                refine rnd_forget [8, 9, 10, 18, 19, 20, 21, 22, 23, 24, 25, 26, 27, 28, 29, 30, 31, 32, 33, 34, 35, 36, 37, 38, 39] ?_
                                                simp only [go_sem, St.forget, fgt]
                                                refine rnd_k fun N249 M249 hN249 hM249 => ?_
                                                refine seq_k fun N250 M250 hN250 hM250 => ?_
                                                refine region_k fun K251 hK251 => ?_
                                                simp only [go_sem, P5.ls, ic0, ic1, ic2, ic3, ic4, ic5, Int.reduceMod, Int.reduceTMod, Int.toNat_one]
                                                all_goals repeat' (first | apply And.intro | intro _)
                                                all_goals
                                                 refine hK251 _ ?_
                                                 refine hN250 _ ?_
                                                 refine seq_k fun N252 M252 hN252 hM252 => ?_
                                                 refine cond_k rfl (fun hc => ?_) (fun hc => ?_)
                                                 · try simp only [go_sem, P5.ls, ic0, ic1, ic2, ic3, ic4, ic5, Int.reduceMod, Int.reduceTMod, Int.toNat_one] at hc
                                                   all_goals
                                                    refine skip_k ?_
                                                    refine hN252 _ ?_
                                                    refine seq_k fun N253 M253 hN253 hM253 => ?_
                                                    refine block_k fun B254 bn254 bx254 br254 bi254 => ?_
                                                    refine seq_k fun N255 M255 hN255 hM255 => ?_
                                                    refine region_k fun K256 hK256 => ?_
                                                    simp only [go_sem, P5.ls, ic0, ic1, ic2, ic3, ic4, ic5, Int.reduceMod, Int.reduceTMod, Int.toNat_one]
                                                    all_goals repeat' (first | apply And.intro | intro _)
                                                    all_goals
                                                     refine hK256 _ ?_
                                                     refine hN255 _ ?_
                                                     refine seq_k fun N257 M257 hN257 hM257 => ?_
                                                     refine region_k fun K258 hK258 => ?_
                                                     simp only [go_sem, P5.ls, ic0, ic1, ic2, ic3, ic4, ic5, Int.reduceMod, Int.reduceTMod, Int.toNat_one]
                                                     all_goals repeat' (first | apply And.intro | intro _)
                                                     all_goals
                                                      refine hK258 _ ?_
                                                      refine hN257 _ ?_
                                                      refine seq_k fun N259 M259 hN259 hM259 => ?_
                                                      refine seq_k fun N260 M260 hN260 hM260 => ?_
                                                      refine region_k fun K261 hK261 => ?_
                                                      simp only [go_sem, P5.ls, ic0, ic1, ic2, ic3, ic4, ic5, Int.reduceMod, Int.reduceTMod, Int.toNat_one]
                                                      all_goals repeat' (first | apply And.intro | intro _)
                                                      all_goals
                                                       refine hK261 _ ?_
                                                       refine hN260 _ ?_
                                                       refine cond_k rfl (fun hc => ?_) (fun hc => ?_)
                                                       · try simp only [go_sem, P5.ls, ic0, ic1, ic2, ic3, ic4, ic5, Int.reduceMod, Int.reduceTMod, Int.toNat_one] at hc
                                                         all_goals
                                                          refine region_k fun K262 hK262 => ?_
                                                          simp only [go_sem, P5.ls, ic0, ic1, ic2, ic3, ic4, ic5, Int.reduceMod, Int.reduceTMod, Int.toNat_one]
                                                          all_goals repeat' (first | apply And.intro | intro _)
                                                          all_goals
                                                           refine hK262 _ ?_
                                                           refine hN259 _ ?_
                                                           refine region_k fun K263 hK263 => ?_
                                                           simp only [go_sem, P5.ls, ic0, ic1, ic2, ic3, ic4, ic5, Int.reduceMod, Int.reduceTMod, Int.toNat_one]
                                                           all_goals repeat' (first | apply And.intro | intro _)
                                                           all_goals
                                                            refine hK263 _ ?_
                                                            refine bn254 _ ?_
                                                            refine hN253 _ ?_
                                                            refine region_k fun K264 hK264 => ?_
                                                            simp only [go_sem, P5.ls, ic0, ic1, ic2, ic3, ic4, ic5, Int.reduceMod, Int.reduceTMod, Int.toNat_one]
                                                            all_goals repeat' (first | apply And.intro | intro _)
                                                            all_goals
                                                             refine hK264 _ ?_
                                                             refine hN249 _ ?_
                                                             refine rnd_forget [8, 9, 10, 18, 19, 20, 21, 22, 23, 24, 25, 26, 27, 28, 29, 30, 31, 32, 33, 34, 35, 36, 37, 38, 39] ?_
                                                             simp only [go_sem, St.forget, fgt]
                                                             refine rnd_k fun N265 M265 hN265 hM265 => ?_
                                                             refine seq_k fun N266 M266 hN266 hM266 => ?_
                                                             refine region_k fun K267 hK267 => ?_
                                                             simp only [go_sem, P5.ls, ic0, ic1, ic2, ic3, ic4, ic5, Int.reduceMod, Int.reduceTMod, Int.toNat_one]
                                                             all_goals repeat' (first | apply And.intro | intro _)
                                                             all_goals
                                                              refine hK267 _ ?_
                                                              refine hN266 _ ?_
                                                              refine seq_k fun N268 M268 hN268 hM268 => ?_
                                                              refine cond_k rfl (fun hc => ?_) (fun hc => ?_)
                                                              · try simp only [go_sem, P5.ls, ic0, ic1, ic2, ic3, ic4, ic5, Int.reduceMod, Int.reduceTMod, Int.toNat_one] at hc
                                                                all_goals
                                                                 refine skip_k ?_
                                                                 refine hN268 _ ?_
                                                                 refine seq_k fun N269 M269 hN269 hM269 => ?_
                                                                 refine block_k fun B270 bn270 bx270 br270 bi270 => ?_
                                                                 refine seq_k fun N271 M271 hN271 hM271 => ?_
                                                                 refine region_k fun K272 hK272 => ?_
                                                                 simp only [go_sem, P5.ls, ic0, ic1, ic2, ic3, ic4, ic5, Int.reduceMod, Int.reduceTMod, Int.toNat_one]
                                                                 all_goals repeat' (first | apply And.intro | intro _)
                                                                 all_goals
                                                                  refine hK272 _ ?_
                                                                  refine hN271 _ ?_
                                                                  refine seq_k fun N273 M273 hN273 hM273 => ?_
                                                                  refine region_k fun K274 hK274 => ?_
                                                                  simp only [go_sem, P5.ls, ic0, ic1, ic2, ic3, ic4, ic5, Int.reduceMod, Int.reduceTMod, Int.toNat_one]
                                                                  all_goals repeat' (first | apply And.intro | intro _)
                                                                  all_goals
                                                                   refine hK274 _ ?_
                                                                   refine hN273 _ ?_
                                                                   refine seq_k fun N275 M275 hN275 hM275 => ?_
                                                                   refine seq_k fun N276 M276 hN276 hM276 => ?_
                                                                   refine region_k fun K277 hK277 => ?_
                                                                   simp only [go_sem, P5.ls, ic0, ic1, ic2, ic3, ic4, ic5, Int.reduceMod, Int.reduceTMod, Int.toNat_one]
                                                                   all_goals repeat' (first | apply And.intro | intro _)
                                                                   all_goals
                                                                    refine hK277 _ ?_
                                                                    refine hN276 _ ?_
                                                                    refine cond_k rfl (fun hc => ?_) (fun hc => ?_)
                                                                    · try simp only [go_sem, P5.ls, ic0, ic1, ic2, ic3, ic4, ic5, Int.reduceMod, Int.reduceTMod, Int.toNat_one] at hc
                                                                      all_goals
                                                                       refine region_k fun K278 hK278 => ?_
                                                                       simp only [go_sem, P5.ls, ic0, ic1, ic2, ic3, ic4, ic5, Int.reduceMod, Int.reduceTMod, Int.toNat_one]
                                                                       all_goals repeat' (first | apply And.intro | intro _)
                                                                       all_goals
                                                                        refine hK278 _ ?_
                                                                        refine hN275 _ ?_
                                                                        refine region_k fun K279 hK279 => ?_
                                                                        simp only [go_sem, P5.ls, ic0, ic1, ic2, ic3, ic4, ic5, Int.reduceMod, Int.reduceTMod, Int.toNat_one]
                                                                        all_goals repeat' (first | apply And.intro | intro _)
                                                                        all_goals
                                                                         refine hK279 _ ?_
                                                                         refine bn270 _ ?_
                                                                         refine hN269 _ ?_
                                                                         refine region_k fun K280 hK280 => ?_
                                                                         simp only [go_sem, P5.ls, ic0, ic1, ic2, ic3, ic4, ic5, Int.reduceMod, Int.reduceTMod, Int.toNat_one]
                                                                         all_goals repeat' (first | apply And.intro | intro _)
                                                                         all_goals
                                                                          refine hK280 _ ?_
                                                                          refine hN265 _ ?_
                                                                          refine rnd_forget [8, 9, 10, 18, 19, 20, 21, 22, 23, 24, 25, 26, 27, 28, 29, 30, 31, 32, 33, 34, 35, 36, 37, 38, 39] ?_
                                                                          simp only [go_sem, St.forget, fgt]
                                                                          refine rnd_k fun N281 M281 hN281 hM281 => ?_
                                                                          refine seq_k fun N282 M282 hN282 hM282 => ?_
                                                                          refine region_k fun K283 hK283 => ?_
                                                                          simp only [go_sem, P5.ls, ic0, ic1, ic2, ic3, ic4, ic5, Int.reduceMod, Int.reduceTMod, Int.toNat_one]
                                                                          all_goals repeat' (first | apply And.intro | intro _)
                                                                          all_goals
                                                                           refine hK283 _ ?_
                                                                           refine hN282 _ ?_
                                                                           refine seq_k fun N284 M284 hN284 hM284 => ?_
                                                                           refine cond_k rfl (fun hc => ?_) (fun hc => ?_)
                                                                           · exfalso; revert hc; simp
                                                                           · try simp only [go_sem, P5.ls, ic0, ic1, ic2, ic3, ic4, ic5, Int.reduceMod, Int.reduceTMod, Int.toNat_one] at hc
                                                                             all_goals
                                                                              refine exit_k ?_
                                                                              refine hM284 _ _ ?_
                                                                              refine hM281 _ _ ?_
                                                                              refine bx202 _ ?_
                                                                              refine bn197 _ ?_
                                                                              refine hN196 _ ?_
                                                                              refine region_k fun K285 hK285 => ?_
                                                                              simp only [go_sem, P5.ls, ic0, ic1, ic2, ic3, ic4, ic5, Int.reduceMod, Int.reduceTMod, Int.toNat_one]
                                                                              all_goals repeat' (first | apply And.intro | intro _)
                                                                              all_goals
                                                                               refine hK285 _ ?_
                                                                               refine hN9 ⟨3, by omega⟩ _ ?_ ?_ ?_
                                                                               · (show 5 - (2 + 1) < 5 - 2; omega)
                                                                               · (simp only [go_sem, leX, List.cons_append, List.nil_append]; try simp)
                                                                               · (simp only [mulN, go_sem, leX, List.cons_append, List.nil_append]; first | done | (simp [mulN, mul5, P5.ls, leX, look]; done) | rfl)
                                                                    · exfalso; revert hc; simp [go_sem, P5.ls, decide_true, decide_false, ic0, ic1, ic2, ic3, ic4, ic5, Int.reduceAdd, Int.reduceMod, Int.reduceTMod, Int.reduceLT, Int.reduceLE, Int.reduceToNat, Int.toNat_zero, Int.toNat_one]
                                                              · exfalso; revert hc; simp
                                                       · exfalso; revert hc; simp [go_sem, P5.ls, decide_true, decide_false, ic0, ic1, ic2, ic3, ic4, ic5, Int.reduceAdd, Int.reduceMod, Int.reduceTMod, Int.reduceLT, Int.reduceLE, Int.reduceToNat, Int.toNat_zero, Int.toNat_one]
                                                 · exfalso; revert hc; simp
                                     · exfalso; revert hc; simp
                         · exfalso; revert hc; simp
             · exfalso; revert hc; simp
       · exfalso; revert hc; simp [go_sem, P5.ls, decide_true, decide_false, ic0, ic1, ic2, ic3, ic4, ic5, Int.reduceAdd, Int.reduceMod, Int.reduceTMod, Int.reduceLT, Int.reduceLE, Int.reduceToNat, Int.toNat_zero, Int.toNat_one]
    · simp only [mulN]
      refine seq_k fun N286 M286 hN286 hM286 => ?_
      refine region_k fun K287 hK287 => ?_
      simp only [go_sem, P5.ls, ic0, ic1, ic2, ic3, ic4, ic5, Int.reduceMod, Int.reduceTMod, Int.toNat_one]
      all_goals repeat' (first | apply And.intro | intro _)
      all_goals
       refine hK287 _ ?_
       refine hN286 _ ?_
       refine seq_k fun N288 M288 hN288 hM288 => ?_
       refine cond_k rfl (fun hc => ?_) (fun hc => ?_)
       · try simp only [go_sem, P5.ls, ic0, ic1, ic2, ic3, ic4, ic5, Int.reduceMod, Int.reduceTMod, Int.toNat_one] at hc
         all_goals
          refine skip_k ?_
          refine hN288 _ ?_
          refine seq_k fun N289 M289 hN289 hM289 => ?_
          refine block_k fun B290 bn290 bx290 br290 bi290 => ?_
          refine seq_k fun N291 M291 hN291 hM291 => ?_
          refine region_k fun K292 hK292 => ?_
          simp only [go_sem, P5.ls, ic0, ic1, ic2, ic3, ic4, ic5, Int.reduceMod, Int.reduceTMod, Int.toNat_one]
          all_goals repeat' (first | apply And.intro | intro _)
          all_goals
           refine hK292 _ ?_
           refine hN291 _ ?_
           refine seq_k fun N293 M293 hN293 hM293 => ?_
           refine region_k fun K294 hK294 => ?_
           simp only [go_sem, P5.ls, ic0, ic1, ic2, ic3, ic4, ic5, Int.reduceMod, Int.reduceTMod, Int.toNat_one]
           all_goals repeat' (first | apply And.intro | intro _)
           all_goals
            refine hK294 _ ?_
            refine hN293 _ ?_
            refine block_k fun B295 bn295 bx295 br295 bi295 => ?_
            refine rounds_k 6 ?_
            refine rnd_k fun N297 M297 hN297 hM297 => ?_
            refine seq_k fun N298 M298 hN298 hM298 => ?_
            refine region_k fun K299 hK299 => ?_
            simp only [go_sem, P5.ls, ic0, ic1, ic2, ic3, ic4, ic5, Int.reduceMod, Int.reduceTMod, Int.toNat_one]
            all_goals repeat' (first | apply And.intro | intro _)
            all_goals
             refine hK299 _ ?_
             refine hN298 _ ?_
             refine seq_k fun N300 M300 hN300 hM300 => ?_
             refine cond_k rfl (fun hc => ?_) (fun hc => ?_)
             · try simp only [go_sem, P5.ls, ic0, ic1, ic2, ic3, ic4, ic5, Int.reduceMod, Int.reduceTMod, Int.toNat_one] at hc
               all_goals
                refine skip_k ?_
                refine hN300 _ ?_
                refine seq_k fun N301 M301 hN301 hM301 => ?_
                refine block_k fun B302 bn302 bx302 br302 bi302 => ?_
                refine seq_k fun N303 M303 hN303 hM303 => ?_
                refine region_k fun K304 hK304 => ?_
                simp only [go_sem, P5.ls, ic0, ic1, ic2, ic3, ic4, ic5, Int.reduceMod, Int.reduceTMod, Int.toNat_one]
                all_goals repeat' (first | apply And.intro | intro _)
                all_goals
                 refine hK304 _ ?_
                 refine hN303 _ ?_
                 refine seq_k fun N305 M305 hN305 hM305 => ?_
                 refine region_k fun K306 hK306 => ?_
                 simp only [go_sem, P5.ls, ic0, ic1, ic2, ic3, ic4, ic5, Int.reduceMod, Int.reduceTMod, Int.toNat_one]
                 all_goals repeat' (first | apply And.intro | intro _)
                 all_goals
                  refine hK306 _ ?_
                  refine hN305 _ ?_
                  refine seq_k fun N307 M307 hN307 hM307 => ?_
                  refine seq_k fun N308 M308 hN308 hM308 => ?_
                  refine region_k fun K309 hK309 => ?_
                  simp only [go_sem, P5.ls, ic0, ic1, ic2, ic3, ic4, ic5, Int.reduceMod, Int.reduceTMod, Int.toNat_one]
                  all_goals repeat' (first | apply And.intro | intro _)
                  all_goals
                   refine hK309 _ ?_
                   refine hN308 _ ?_
                   refine cond_k rfl (fun hc => ?_) (fun hc => ?_)
                   · exfalso; revert hc; simp [go_sem, P5.ls, decide_true, decide_false, ic0, ic1, ic2, ic3, ic4, ic5, Int.reduceAdd, Int.reduceMod, Int.reduceTMod, Int.reduceLT, Int.reduceLE, Int.reduceToNat, Int.toNat_zero, Int.toNat_one]
                   · try simp only [go_sem, P5.ls, ic0, ic1, ic2, ic3, ic4, ic5, Int.reduceMod, Int.reduceTMod, Int.toNat_one] at hc
                     all_goals
                      refine skip_k ?_
                      refine hN307 _ ?_
                      refine region_k fun K310 hK310 => ?_
                      simp only [go_sem, P5.ls, ic0, ic1, ic2, ic3, ic4, ic5, Int.reduceMod, Int.reduceTMod, Int.toNat_one]
                      all_goals repeat' (first | apply And.intro | intro _)
                      all_goals
                       refine hK310 _ ?_
                       refine bn302 _ ?_
                       refine hN301 _ ?_
                       refine region_k fun K311 hK311 => ?_
                       simp only [go_sem, P5.ls, ic0, ic1, ic2, ic3, ic4, ic5, Int.reduceMod, Int.reduceTMod, Int.toNat_one]
                       all_goals repeat' (first | apply And.intro | intro _)
                       all_goals
                        refine hK311 _ ?_
                        refine hN297 _ ?_
                        refine rnd_forget [8, 9, 10, 18, 19, 20, 21, 22, 23, 24, 25, 26, 27, 28, 29, 30, 31, 32, 33, 34, 35, 36, 37, 38, 39] ?_
                        simp only [go_sem, St.forget, fgt]
                        refine rnd_k fun N312 M312 hN312 hM312 => ?_
                        refine seq_k fun N313 M313 hN313 hM313 => ?_
                        refine region_k fun K314 hK314 => ?_
                        simp only [go_sem, P5.ls, ic0, ic1, ic2, ic3, ic4, ic5, Int.reduceMod, Int.reduceTMod, Int.toNat_one]
                        all_goals repeat' (first | apply And.intro | intro _)
                        all_goals
                         refine hK314 _ ?_
                         refine hN313 _ ?_
                         refine seq_k fun N315 M315 hN315 hM315 => ?_
                         refine cond_k rfl (fun hc => ?_) (fun hc => ?_)
                         · try simp only [go_sem, P5.ls, ic0, ic1, ic2, ic3, ic4, ic5, Int.reduceMod, Int.reduceTMod, Int.toNat_one] at hc
                           all_goals
                            refine skip_k ?_
                            refine hN315 _ ?_
                            refine seq_k fun N316 M316 hN316 hM316 => ?_
                            refine block_k fun B317 bn317 bx317 br317 bi317 => ?_
                            refine seq_k fun N318 M318 hN318 hM318 => ?_
                            refine region_k fun K319 hK319 => ?_
                            simp only [go_sem, P5.ls, ic0, ic1, ic2, ic3, ic4, ic5, Int.reduceMod, Int.reduceTMod, Int.toNat_one]
                            all_goals repeat' (first | apply And.intro | intro _)
                            all_goals
                             refine hK319 _ ?_
                             refine hN318 _ ?_
                             refine seq_k fun N320 M320 hN320 hM320 => ?_
                             refine region_k fun K321 hK321 => ?_
                             simp only [go_sem, P5.ls, ic0, ic1, ic2, ic3, ic4, ic5, Int.reduceMod, Int.reduceTMod, Int.toNat_one]
                             all_goals repeat' (first | apply And.intro | intro _)
                             all_goals
                              refine hK321 _ ?_
                              refine hN320 _ ?_
                              refine seq_k fun N322 M322 hN322 hM322 => ?_
                              refine seq_k fun N323 M323 hN323 hM323 => ?_
                              refine region_k fun K324 hK324 => ?_
                              simp only [go_sem, P5.ls, ic0, ic1, ic2, ic3, ic4, ic5, Int.reduceMod, Int.reduceTMod, Int.toNat_one]
                              all_goals repeat' (first | apply And.intro | intro _)
                              all_goals
                               refine hK324 _ ?_
                               refine hN323 _ ?_
                               refine cond_k rfl (fun hc => ?_) (fun hc => ?_)
                               · exfalso; revert hc; simp [go_sem, P5.ls, decide_true, decide_false, ic0, ic1, ic2, ic3, ic4, ic5, Int.reduceAdd, Int.reduceMod, Int.reduceTMod, Int.reduceLT, Int.reduceLE, Int.reduceToNat, Int.toNat_zero, Int.toNat_one]
                               · try simp only [go_sem, P5.ls, ic0, ic1, ic2, ic3, ic4, ic5, Int.reduceMod, Int.reduceTMod, Int.toNat_one] at hc
                                 all_goals
                                  refine skip_k ?_
                                  refine hN322 _ ?_
                                  refine region_k fun K325 hK325 => ?_
                                  simp only [go_sem, P5.ls, ic0, ic1, ic2, ic3, ic4, ic5, Int.reduceMod, Int.reduceTMod, Int.toNat_one]
                                  all_goals repeat' (first | apply And.intro | intro _)
                                  all_goals
                                   refine hK325 _ ?_
                                   refine bn317 _ ?_
                                   refine hN316 _ ?_
                                   refine region_k fun K326 hK326 => ?_
                                   simp only [go_sem, P5.ls, ic0, ic1, ic2, ic3, ic4, ic5, Int.reduceMod, Int.reduceTMod, Int.toNat_one]
                                   all_goals repeat' (first | apply And.intro | intro _)
                                   all_goals
                                    refine hK326 _ ?_
                                    refine hN312 _ ?_
                                    refine rnd_forget [8, 9, 10, 18, 19, 20, 21, 22, 23, 24, 25, 26, 27, 28, 29, 30, 31, 32, 33, 34, 35, 36, 37, 38, 39] ?_
                                    simp only [go_sem, St.forget, fgt]
                                    refine rnd_k fun N327 M327 hN327 hM327 => ?_
                                    refine seq_k fun N328 M328 hN328 hM328 => ?_
                                    refine region_k fun K329 hK329 => ?_
                                    simp only [go_sem, P5.ls, ic0, ic1, ic2, ic3, ic4, ic5, Int.reduceMod, Int.reduceTMod, Int.toNat_one]
                                    all_goals repeat' (first | apply And.intro | intro _)
                                    all_goals
                                     refine hK329 _ ?_
                                     refine hN328 _ ?_
                                     refine seq_k fun N330 M330 hN330 hM330 => ?_
                                     refine cond_k rfl (fun hc => ?_) (fun hc => ?_)
                                     · try simp only [go_sem, P5.ls, ic0, ic1, ic2, ic3, ic4, ic5, Int.reduceMod, Int.reduceTMod, Int.toNat_one] at hc
                                       all_goals
                                        refine skip_k ?_
                                        refine hN330 _ ?_
                                        refine seq_k fun N331 M331 hN331 hM331 => ?_
                                        refine block_k fun B332 bn332 bx332 br332 bi332 => ?_
                                        refine seq_k fun N333 M333 hN333 hM333 => ?_
                                        refine region_k fun K334 hK334 => ?_
                                        simp only [go_sem, P5.ls, ic0, ic1, ic2, ic3, ic4, ic5, Int.reduceMod, Int.reduceTMod, Int.toNat_one]
                                        all_goals repeat' (first | apply And.intro | intro _)
                                        all_goals
                                         refine hK334 _ ?_
                                         refine hN333 _ ?_
                                         refine seq_k fun N335 M335 hN335 hM335 => ?_
                                         refine region_k fun K336 hK336 => ?_
                                         simp only [go_sem, P5.ls, ic0, ic1, ic2, ic3, ic4, ic5, Int.reduceMod, Int.reduceTMod, Int.toNat_one]
                                         all_goals repeat' (first | apply And.intro | intro _)
                                         all_goals
                                          refine hK336 _ ?_
                                          refine hN335 _ ?_
                                          refine seq_k fun N337 M337 hN337 hM337 => ?_
                                          refine seq_k fun N338 M338 hN338 hM338 => ?_
                                          refine region_k fun K339 hK339 => ?_
                                          simp only [go_sem, P5.ls, ic0, ic1, ic2, ic3, ic4, ic5, Int.reduceMod, Int.reduceTMod, Int.toNat_one]
                                          all_goals repeat' (first | apply And.intro | intro _)
                                          all_goals
                                           refine hK339 _ ?_
                                           refine hN338 _ ?_
                                           refine cond_k rfl (fun hc => ?_) (fun hc => ?_)
                                           · try simp only [go_sem, P5.ls, ic0, ic1, ic2, ic3, ic4, ic5, Int.reduceMod, Int.reduceTMod, Int.toNat_one] at hc
                                             all_goals
                                              refine region_k fun K340 hK340 => ?_
                                              simp only [go_sem, P5.ls, ic0, ic1, ic2, ic3, ic4, ic5, Int.reduceMod, Int.reduceTMod, Int.toNat_one]
                                              all_goals repeat' (first | apply And.intro | intro _)
                                              all_goals
                                               refine hK340 _ ?_
                                               refine hN337 _ ?_
                                               refine region_k fun K341 hK341 => ?_
                                               simp only [go_sem, P5.ls, ic0, ic1, ic2, ic3, ic4, ic5, Int.reduceMod, Int.reduceTMod, Int.toNat_one]
                                               all_goals repeat' (first | apply And.intro | intro _)
                                               all_goals
                                                refine hK341 _ ?_
                                                refine bn332 _ ?_
                                                refine hN331 _ ?_
                                                refine region_k fun K342 hK342 => ?_
                                                simp only [go_sem, P5.ls, ic0, ic1, ic2, ic3, ic4, ic5, Int.reduceMod, Int.reduceTMod, Int.toNat_one]
                                                all_goals repeat' (first | apply And.intro | intro _)
                                                all_goals
                                                 refine hK342 _ ?_
                                                 refine hN327 _ ?_
                                                 refine rnd_forget [8, 9, 10, 18, 19, 20, 21, 22, 23, 24, 25, 26, 27, 28, 29, 30, 31, 32, 33, 34, 35, 36, 37, 38, 39] ?_
                                                 simp only [go_sem, St.forget, fgt]
                                                 refine rnd_k fun N343 M343 hN343 hM343 => ?_
                                                 refine seq_k fun N344 M344 hN344 hM344 => ?_
                                                 refine region_k fun K345 hK345 => ?_
                                                 simp only [go_sem, P5.ls, ic0, ic1, ic2, ic3, ic4, ic5, Int.reduceMod, Int.reduceTMod, Int.toNat_one]
                                                 all_goals repeat' (first | apply And.intro | intro _)
                                                 all_goals
                                                  refine hK345 _ ?_
                                                  refine hN344 _ ?_
                                                  refine seq_k fun N346 M346 hN346 hM346 => ?_
                                                  refine cond_k rfl (fun hc => ?_) (fun hc => ?_)
                                                  · try simp only [go_sem, P5.ls, ic0, ic1, ic2, ic3, ic4, ic5, Int.reduceMod, Int.reduceTMod, Int.toNat_one] at hc
                                                    all_goals
                                                     refine skip_k ?_
                                                     refine hN346 _ ?_
                                                     refine seq_k fun N347 M347 hN347 hM347 => ?_
                                                     refine block_k fun B348 bn348 bx348 br348 bi348 => ?_
                                                     refine seq_k fun N349 M349 hN349 hM349 => ?_
                                                     refine region_k fun K350 hK350 => ?_
                                                     simp only [go_sem, P5.ls, ic0, ic1, ic2, ic3, ic4, ic5, Int.reduceMod, Int.reduceTMod, Int.toNat_one]
                                                     all_goals repeat' (first | apply And.intro | intro _)
                                                     all_goals
                                                      refine hK350 _ ?_
                                                      refine hN349 _ ?_
                                                      refine seq_k fun N351 M351 hN351 hM351 => ?_
                                                      refine region_k fun K352 hK352 => ?_
                                                      simp only [go_sem, P5.ls, ic0, ic1, ic2, ic3, ic4, ic5, Int.reduceMod, Int.reduceTMod, Int.toNat_one]
                                                      all_goals repeat' (first | apply And.intro | intro _)
                                                      all_goals
                                                       refine hK352 _ ?_
                                                       refine hN351 _ ?_
                                                       refine seq_k fun N353 M353 hN353 hM353 => ?_
                                                       refine seq_k fun N354 M354 hN354 hM354 => ?_
                                                       refine region_k fun K355 hK355 => ?_
                                                       simp only [go_sem, P5.ls, ic0, ic1, ic2, ic3, ic4, ic5, Int.reduceMod, Int.reduceTMod, Int.toNat_one]
                                                       all_goals repeat' (first | apply And.intro | intro _)
                                                       all_goals
                                                        refine hK355 _ ?_
                                                        refine hN354 _ ?_
                                                        refine cond_k rfl (fun hc => ?_) (fun hc => ?_)
                                                        · try simp only [go_sem, P5.ls, ic0, ic1, ic2, ic3, ic4, ic5, Int.reduceMod, Int.reduceTMod, Int.toNat_one] at hc
                                                          all_goals
                                                           refine region_k fun K356 hK356 => ?_
                                                           simp only [go_sem, P5.ls, ic0, ic1, ic2, ic3, ic4, ic5, Int.reduceMod, Int.reduceTMod, Int.toNat_one]
                                                           all_goals repeat' (first | apply And.intro | intro _)
                                                           all_goals
                                                            refine hK356 _ ?_
                                                            refine hN353 _ ?_
                                                            refine region_k fun K357 hK357 => ?_
                                                            simp only [go_sem, P5.ls, ic0, ic1, ic2, ic3, ic4, ic5, Int.reduceMod, Int.reduceTMod, Int.toNat_one]
                                                            all_goals repeat' (first | apply And.intro | intro _)
                                                            all_goals
                                                             refine hK357 _ ?_
                                                             refine bn348 _ ?_
                                                             refine hN347 _ ?_
                                                             refine region_k fun K358 hK358 => ?_
                                                             simp only [go_sem, P5.ls, ic0, ic1, ic2, ic3, ic4, ic5, Int.reduceMod, Int.reduceTMod, Int.toNat_one]
                                                             all_goals repeat' (first | apply And.intro | intro _)
                                                             all_goals
                                                              refine hK358 _ ?_
                                                              refine hN343 _ ?_
                                                              refine rnd_forget [8, 9, 10, 18, 19, 20, 21, 22, 23, 24, 25, 26, 27, 28, 29, 30, 31, 32, 33, 34, 35, 36, 37, 38, 39] ?_
                                                              simp only [go_sem, St.forget, fgt]
                                                              refine rnd_k fun N359 M359 hN359 hM359 => ?_
                                                              refine seq_k fun N360 M360 hN360 hM360 => ?_
                                                              refine region_k fun K361 hK361 => ?_
                                                              simp only [go_sem, P5.ls, ic0, ic1, ic2, ic3, ic4, ic5, Int.reduceMod, Int.reduceTMod, Int.toNat_one]
                                                              all_goals repeat' (first | apply And.intro | intro _)
                                                              all_goals
                                                               refine hK361 _ ?_
                                                               refine hN360 _ ?_
                                                               refine seq_k fun N362 M362 hN362 hM362 => ?_
                                                               refine cond_k rfl (fun hc => ?_) (fun hc => ?_)
                                                               · try simp only [go_sem, P5.ls, ic0, ic1, ic2, ic3, ic4, ic5, Int.reduceMod, Int.reduceTMod, Int.toNat_one] at hc
                                                                 all_goals
                                                                  refine skip_k ?_
                                                                  refine hN362 _ ?_
                                                                  refine seq_k fun N363 M363 hN363 hM363 => ?_
                                                                  refine block_k fun B364 bn364 bx364 br364 bi364 => ?_
                                                                  refine seq_k fun N365 M365 hN365 hM365 => ?_
                                                                  refine region_k fun K366 hK366 => ?_
                                                                  simp only [go_sem, P5.ls, ic0, ic1, ic2, ic3, ic4, ic5, Int.reduceMod, Int.reduceTMod, Int.toNat_one]
                                                                  all_goals repeat' (first | apply And.intro | intro _)
                                                                  all_goals
                                                                   refine hK366 _ ?_
                                                                   refine hN365 _ ?_
                                                                   refine seq_k fun N367 M367 hN367 hM367 => ?_
                                                                   refine region_k fun K368 hK368 => ?_
                                                                   simp only [go_sem, P5.ls, ic0, ic1, ic2, ic3, ic4, ic5, Int.reduceMod, Int.reduceTMod, Int.toNat_one]
                                                                   all_goals repeat' (first | apply And.intro | intro _)
                                                                   all_goals
                                                                    refine hK368 _ ?_
                                                                    refine hN367 _ ?_
                                                                    refine seq_k fun N369 M369 hN369 hM369 => ?_
                                                                    refine seq_k fun N370 M370 hN370 hM370 => ?_
                                                                    refine region_k fun K371 hK371 => ?_
                                                                    simp only [go_sem, P5.ls, ic0, ic1, ic2, ic3, ic4, ic5, Int.reduceMod, Int.reduceTMod, Int.toNat_one]
                                                                    all_goals repeat' (first | apply And.intro | intro _)
                                                                    all_goals
                                                                     refine hK371 _ ?_
                                                                     refine hN370 _ ?_
                                                                     refine cond_k rfl (fun hc => ?_) (fun hc => ?_)
                                                                     · try simp only [go_sem, P5.ls, ic0, ic1, ic2, ic3, ic4, ic5, Int.reduceMod, Int.reduceTMod, Int.toNat_one] at hc
                                                                       all_goals
                                                                        refine region_k fun K372 hK372 => ?_
                                                                        simp only [go_sem, P5.ls, ic0, ic1, ic2, ic3, ic4, ic5, Int.reduceMod, Int.reduceTMod, Int.toNat_one]
                                                                        all_goals repeat' (first | apply And.intro | intro _)
                                                                        all_goals
                                                                         refine hK372 _ ?_
                                                                         refine hN369 _ ?_
                                                                         refine region_k fun K373 hK373 => ?_
                                                                         simp only [go_sem, P5.ls, ic0, ic1, ic2, ic3, ic4, ic5, Int.reduceMod, Int.reduceTMod, Int.toNat_one]
                                                                         all_goals repeat' (first | apply And.intro | intro _)
                                                                         all_goals
                                                                          refine hK373 _ ?_
                                                                          refine bn364 _ ?_
                                                                          refine hN363 _ ?_
                                                                          refine region_k fun K374 hK374 => ?_
                                                                          simp only [go_sem, P5.ls, ic0, ic1, ic2, ic3, ic4, ic5, Int.reduceMod, Int.reduceTMod, Int.toNat_one]
                                                                          all_goals repeat' (first | apply And.intro | intro _)
                                                                          all_goals
                                                                           refine hK374 _ ?_
                                                                           refine hN359 _ ?_
                                                                           refine rnd_forget [8, 9, 10, 18, 19, 20, 21, 22, 23, 24, 25, 26, 27, 28, 29, 30, 31, 32, 33, 34, 35, 36, 37, 38, 39] ?_
                                                                           simp only [go_sem, St.forget, fgt]
                                                                           refine rnd_k fun N375 M375 hN375 hM375 => ?_
                                                                           refine seq_k fun N376 M376 hN376 hM376 => ?_
                                                                           refine region_k fun K377 hK377 => ?_
                                                                           simp only [go_sem, P5.ls, ic0, ic1, ic2, ic3, ic4, ic5, Int.reduceMod, Int.reduceTMod, Int.toNat_one]
                                                                           all_goals repeat' (first | apply And.intro | intro _)
                                                                           all_goals
                                                                            refine hK377 _ ?_
                                                                            refine hN376 _ ?_
                                                                            refine seq_k fun N378 M378 hN378 hM378 => ?_
                                                                            refine cond_k rfl (fun hc => ?_) (fun hc => ?_)
                                                                            · exfalso; revert hc; simp
                                                                            · try simp only [go_sem, P5.ls, ic0, ic1, ic2, ic3, ic4, ic5, Int.reduceMod, Int.reduceTMod, Int.toNat_one] at hc
                                                                              all_goals
                                                                               refine exit_k ?_
                                                                               refine hM378 _ _ ?_
                                                                               refine hM375 _ _ ?_
                                                                               refine bx295 _ ?_
                                                                               refine bn290 _ ?_
                                                                               refine hN289 _ ?_
                                                                               refine region_k fun K379 hK379 => ?_
                                                                               simp only [go_sem, P5.ls, ic0, ic1, ic2, ic3, ic4, ic5, Int.reduceMod, Int.reduceTMod, Int.toNat_one]
                                                                               all_goals repeat' (first | apply And.intro | intro _)
                                                                               all_goals
                                                                                refine hK379 _ ?_
                                                                                refine hN9 ⟨4, by omega⟩ _ ?_ ?_ ?_
                                                                                · (show 5 - (3 + 1) < 5 - 3; omega)
                                                                                · (simp only [go_sem, leX, List.cons_append, List.nil_append]; try simp)
                                                                                · (simp only [mulN, go_sem, leX, List.cons_append, List.nil_append]; first | done | (simp [mulN, mul5, P5.ls, leX, look]; done) | rfl)
                                                                     · exfalso; revert hc; simp [go_sem, P5.ls, decide_true, decide_false, ic0, ic1, ic2, ic3, ic4, ic5, Int.reduceAdd, Int.reduceMod, Int.reduceTMod, Int.reduceLT, Int.reduceLE, Int.reduceToNat, Int.toNat_zero, Int.toNat_one]
                                                               · exfalso; revert hc; simp
                                                        · exfalso; revert hc; simp [go_sem, P5.ls, decide_true, decide_false, ic0, ic1, ic2, ic3, ic4, ic5, Int.reduceAdd, Int.reduceMod, Int.reduceTMod, Int.reduceLT, Int.reduceLE, Int.reduceToNat, Int.toNat_zero, Int.toNat_one]
                                                  · exfalso; revert hc; simp
                                           · exfalso; revert hc; simp [go_sem, P5.ls, decide_true, decide_false, ic0, ic1, ic2, ic3, ic4, ic5, Int.reduceAdd, Int.reduceMod, Int.reduceTMod, Int.reduceLT, Int.reduceLE, Int.reduceToNat, Int.toNat_zero, Int.toNat_one]
                                     · exfalso; revert hc; simp
                         · exfalso; revert hc; simp
             · exfalso; revert hc; simp
       · exfalso; revert hc; simp [go_sem, P5.ls, decide_true, decide_false, ic0, ic1, ic2, ic3, ic4, ic5, Int.reduceAdd, Int.reduceMod, Int.reduceTMod, Int.reduceLT, Int.reduceLE, Int.reduceToNat, Int.toNat_zero, Int.toNat_one]
    · simp only [mulN]
      refine seq_k fun N380 M380 hN380 hM380 => ?_
      refine region_k fun K381 hK381 => ?_
      simp only [go_sem, P5.ls, ic0, ic1, ic2, ic3, ic4, ic5, Int.reduceMod, Int.reduceTMod, Int.toNat_one]
      all_goals repeat' (first | apply And.intro | intro _)
      all_goals
       refine hK381 _ ?_
       refine hN380 _ ?_
       refine seq_k fun N382 M382 hN382 hM382 => ?_
       refine cond_k rfl (fun hc => ?_) (fun hc => ?_)
       · try simp only [go_sem, P5.ls, ic0, ic1, ic2, ic3, ic4, ic5, Int.reduceMod, Int.reduceTMod, Int.toNat_one] at hc
         all_goals
          refine skip_k ?_
          refine hN382 _ ?_
          refine seq_k fun N383 M383 hN383 hM383 => ?_
          refine block_k fun B384 bn384 bx384 br384 bi384 => ?_
          refine seq_k fun N385 M385 hN385 hM385 => ?_
          refine region_k fun K386 hK386 => ?_
          simp only [go_sem, P5.ls, ic0, ic1, ic2, ic3, ic4, ic5, Int.reduceMod, Int.reduceTMod, Int.toNat_one]
          all_goals repeat' (first | apply And.intro | intro _)
          all_goals
           refine hK386 _ ?_
           refine hN385 _ ?_
           refine seq_k fun N387 M387 hN387 hM387 => ?_
           refine region_k fun K388 hK388 => ?_
           simp only [go_sem, P5.ls, ic0, ic1, ic2, ic3, ic4, ic5, Int.reduceMod, Int.reduceTMod, Int.toNat_one]
           all_goals repeat' (first | apply And.intro | intro _)
           all_goals
            refine hK388 _ ?_
            refine hN387 _ ?_
            refine block_k fun B389 bn389 bx389 br389 bi389 => ?_
            refine rounds_k 6 ?_
            refine rnd_k fun N391 M391 hN391 hM391 => ?_
            refine seq_k fun N392 M392 hN392 hM392 => ?_
            refine region_k fun K393 hK393 => ?_
            simp only [go_sem, P5.ls, ic0, ic1, ic2, ic3, ic4, ic5, Int.reduceMod, Int.reduceTMod, Int.toNat_one]
            all_goals repeat' (first | apply And.intro | intro _)
            all_goals
             refine hK393 _ ?_
             refine hN392 _ ?_
             refine seq_k fun N394 M394 hN394 hM394 => ?_
             refine cond_k rfl (fun hc => ?_) (fun hc => ?_)
             · try simp only [go_sem, P5.ls, ic0, ic1, ic2, ic3, ic4, ic5, Int.reduceMod, Int.reduceTMod, Int.toNat_one] at hc
               all_goals
                refine skip_k ?_
                refine hN394 _ ?_
                refine seq_k fun N395 M395 hN395 hM395 => ?_
                refine block_k fun B396 bn396 bx396 br396 bi396 => ?_
                refine seq_k fun N397 M397 hN397 hM397 => ?_
                refine region_k fun K398 hK398 => ?_
                simp only [go_sem, P5.ls, ic0, ic1, ic2, ic3, ic4, ic5, Int.reduceMod, Int.reduceTMod, Int.toNat_one]
                all_goals repeat' (first | apply And.intro | intro _)
                all_goals
                 refine hK398 _ ?_
                 refine hN397 _ ?_
                 refine seq_k fun N399 M399 hN399 hM399 => ?_
                 refine region_k fun K400 hK400 => ?_
                 simp only [go_sem, P5.ls, ic0, ic1, ic2, ic3, ic4, ic5, Int.reduceMod, Int.reduceTMod, Int.toNat_one]
                 all_goals repeat' (first | apply And.intro | intro _)
                 all_goals
                  refine hK400 _ ?_
                  refine hN399 _ ?_
                  refine seq_k fun N401 M401 hN401 hM401 => ?_
                  refine seq_k fun N402 M402 hN402 hM402 => ?_
                  refine region_k fun K403 hK403 => ?_
                  simp only [go_sem, P5.ls, ic0, ic1, ic2, ic3, ic4, ic5, Int.reduceMod, Int.reduceTMod, Int.toNat_one]
                  all_goals repeat' (first | apply And.intro | intro _)
                  all_goals
                   refine hK403 _ ?_
                   refine hN402 _ ?_
                   refine cond_k rfl (fun hc => ?_) (fun hc => ?_)
                   · exfalso; revert hc; simp [go_sem, P5.ls, decide_true, decide_false, ic0, ic1, ic2, ic3, ic4, ic5, Int.reduceAdd, Int.reduceMod, Int.reduceTMod, Int.reduceLT, Int.reduceLE, Int.reduceToNat, Int.toNat_zero, Int.toNat_one]
                   · try simp only [go_sem, P5.ls, ic0, ic1, ic2, ic3, ic4, ic5, Int.reduceMod, Int.reduceTMod, Int.toNat_one] at hc
                     all_goals
                      refine skip_k ?_
                      refine hN401 _ ?_
                      refine region_k fun K404 hK404 => ?_
                      simp only [go_sem, P5.ls, ic0, ic1, ic2, ic3, ic4, ic5, Int.reduceMod, Int.reduceTMod, Int.toNat_one]
                      all_goals repeat' (first | apply And.intro | intro _)
                      all_goals
                       refine hK404 _ ?_
                       refine bn396 _ ?_
                       refine hN395 _ ?_
                       refine region_k fun K405 hK405 => ?_
                       simp only [go_sem, P5.ls, ic0, ic1, ic2, ic3, ic4, ic5, Int.reduceMod, Int.reduceTMod, Int.toNat_one]
                       all_goals repeat' (first | apply And.intro | intro _)
                       all_goals
                        refine hK405 _ ?_
                        refine hN391 _ ?_
                        refine rnd_forget [8, 9, 10, 18, 19, 20, 21, 22, 23, 24, 25, 26, 27, 28, 29, 30, 31, 32, 33, 34, 35, 36, 37, 38, 39] ?_
                        simp only [go_sem, St.forget, fgt]
                        refine rnd_k fun N406 M406 hN406 hM406 => ?_
                        refine seq_k fun N407 M407 hN407 hM407 => ?_
                        refine region_k fun K408 hK408 => ?_
                        simp only [go_sem, P5.ls, ic0, ic1, ic2, ic3, ic4, ic5, Int.reduceMod, Int.reduceTMod, Int.toNat_one]
                        all_goals repeat' (first | apply And.intro | intro _)
                        all_goals
                         refine hK408 _ ?_
                         refine hN407 _ ?_
                         refine seq_k fun N409 M409 hN409 hM409 => ?_
                         refine cond_k rfl (fun hc => ?_) (fun hc => ?_)
                         · try simp only [go_sem, P5.ls, ic0, ic1, ic2, ic3, ic4, ic5, Int.reduceMod, Int.reduceTMod, Int.toNat_one] at hc
                           all_goals
                            refine skip_k ?_
                            refine hN409 _ ?_
                            refine seq_k fun N410 M410 hN410 hM410 => ?_
                            refine block_k fun B411 bn411 bx411 br411 bi411 => ?_
                            refine seq_k fun N412 M412 hN412 hM412 => ?_
                            refine region_k fun K413 hK413 => ?_
                            simp only [go_sem, P5.ls, ic0, ic1, ic2, ic3, ic4, ic5, Int.reduceMod, Int.reduceTMod, Int.toNat_one]
                            all_goals repeat' (first | apply And.intro | intro _)
                            all_goals
                             refine hK413 _ ?_
                             refine hN412 _ ?_
                             refine seq_k fun N414 M414 hN414 hM414 => ?_
                             refine region_k fun K415 hK415 => ?_
                             simp only [go_sem, P5.ls, ic0, ic1, ic2, ic3, ic4, ic5, Int.reduceMod, Int.reduceTMod, Int.toNat_one]
                             all_goals repeat' (first | apply And.intro | intro _)
                             all_goals
                              refine hK415 _ ?_
                              refine hN414 _ ?_
                              refine seq_k fun N416 M416 hN416 hM416 => ?_
                              refine seq_k fun N417 M417 hN417 hM417 => ?_
                              refine region_k fun K418 hK418 => ?_
                              simp only [go_sem, P5.ls, ic0, ic1, ic2, ic3, ic4, ic5, Int.reduceMod, Int.reduceTMod, Int.toNat_one]
                              all_goals repeat' (first | apply And.intro | intro _)
                              all_goals
                               refine hK418 _ ?_
                               refine hN417 _ ?_
                               refine cond_k rfl (fun hc => ?_) (fun hc => ?_)
                               · try simp only [go_sem, P5.ls, ic0, ic1, ic2, ic3, ic4, ic5, Int.reduceMod, Int.reduceTMod, Int.toNat_one] at hc
                                 all_goals
                                  refine region_k fun K419 hK419 => ?_
                                  simp only [go_sem, P5.ls, ic0, ic1, ic2, ic3, ic4, ic5, Int.reduceMod, Int.reduceTMod, Int.toNat_one]
                                  all_goals repeat' (first | apply And.intro | intro _)
                                  all_goals
                                   refine hK419 _ ?_
                                   refine hN416 _ ?_
                                   refine region_k fun K420 hK420 => ?_
                                   simp only [go_sem, P5.ls, ic0, ic1, ic2, ic3, ic4, ic5, Int.reduceMod, Int.reduceTMod, Int.toNat_one]
                                   all_goals repeat' (first | apply And.intro | intro _)
                                   all_goals
                                    refine hK420 _ ?_
                                    refine bn411 _ ?_
                                    refine hN410 _ ?_
                                    refine region_k fun K421 hK421 => ?_
                                    simp only [go_sem, P5.ls, ic0, ic1, ic2, ic3, ic4, ic5, Int.reduceMod, Int.reduceTMod, Int.toNat_one]
                                    all_goals repeat' (first | apply And.intro | intro _)
                                    all_goals
                                     refine hK421 _ ?_
                                     refine hN406 _ ?_
                                     refine rnd_forget [8, 9, 10, 18, 19, 20, 21, 22, 23, 24, 25, 26, 27, 28, 29, 30, 31, 32, 33, 34, 35, 36, 37, 38, 39] ?_
                                     simp only [go_sem, St.forget, fgt]
                                     refine rnd_k fun N422 M422 hN422 hM422 => ?_
                                     refine seq_k fun N423 M423 hN423 hM423 => ?_
                                     refine region_k fun K424 hK424 => ?_
                                     simp only [go_sem, P5.ls, ic0, ic1, ic2, ic3, ic4, ic5, Int.reduceMod, Int.reduceTMod, Int.toNat_one]
                                     all_goals repeat' (first | apply And.intro | intro _)
                                     all_goals
                                      refine hK424 _ ?_
                                      refine hN423 _ ?_
                                      refine seq_k fun N425 M425 hN425 hM425 => ?_
                                      refine cond_k rfl (fun hc => ?_) (fun hc => ?_)
                                      · try simp only [go_sem, P5.ls, ic0, ic1, ic2, ic3, ic4, ic5, Int.reduceMod, Int.reduceTMod, Int.toNat_one] at hc
                                        all_goals
                                         refine skip_k ?_
                                         refine hN425 _ ?_
                                         refine seq_k fun N426 M426 hN426 hM426 => ?_
                                         refine block_k fun B427 bn427 bx427 br427 bi427 => ?_
                                         refine seq_k fun N428 M428 hN428 hM428 => ?_
                                         refine region_k fun K429 hK429 => ?_
                                         simp only [go_sem, P5.ls, ic0, ic1, ic2, ic3, ic4, ic5, Int.reduceMod, Int.reduceTMod, Int.toNat_one]
                                         all_goals repeat' (first | apply And.intro | intro _)
                                         all_goals
                                          refine hK429 _ ?_
                                          refine hN428 _ ?_
                                          refine seq_k fun N430 M430 hN430 hM430 => ?_
                                          refine region_k fun K431 hK431 => ?_
                                          simp only [go_sem, P5.ls, ic0, ic1, ic2, ic3, ic4, ic5, Int.reduceMod, Int.reduceTMod, Int.toNat_one]
                                          all_goals repeat' (first | apply And.intro | intro _)
                                          all_goals
                                           refine hK431 _ ?_
                                           refine hN430 _ ?_
                                           refine seq_k fun N432 M432 hN432 hM432 => ?_
                                           refine seq_k fun N433 M433 hN433 hM433 => ?_
                                           refine region_k fun K434 hK434 => ?_
                                           simp only [go_sem, P5.ls, ic0, ic1, ic2, ic3, ic4, ic5, Int.reduceMod, Int.reduceTMod, Int.toNat_one]
                                           all_goals repeat' (first | apply And.intro | intro _)
                                           all_goals
                                            refine hK434 _ ?_
                                            refine hN433 _ ?_
                                            refine cond_k rfl (fun hc => ?_) (fun hc => ?_)
                                            · try simp only [go_sem, P5.ls, ic0, ic1, ic2, ic3, ic4, ic5, Int.reduceMod, Int.reduceTMod, Int.toNat_one] at hc
                                              all_goals
                                               refine region_k fun K435 hK435 => ?_
                                               simp only [go_sem, P5.ls, ic0, ic1, ic2, ic3, ic4, ic5, Int.reduceMod, Int.reduceTMod, Int.toNat_one]
                                               all_goals repeat' (first | apply And.intro | intro _)
                                               all_goals
                                                refine hK435 _ ?_
                                                refine hN432 _ ?_
                                                refine region_k fun K436 hK436 => ?_
                                                simp only [go_sem, P5.ls, ic0, ic1, ic2, ic3, ic4, ic5, Int.reduceMod, Int.reduceTMod, Int.toNat_one]
                                                all_goals repeat' (first | apply And.intro | intro _)
                                                all_goals
                                                 refine hK436 _ ?_
                                                 refine bn427 _ ?_
                                                 refine hN426 _ ?_
                                                 refine region_k fun K437 hK437 => ?_
                                                 simp only [go_sem, P5.ls, ic0, ic1, ic2, ic3, ic4, ic5, Int.reduceMod, Int.reduceTMod, Int.toNat_one]
                                                 all_goals repeat' (first | apply And.intro | intro _)
                                                 all_goals
                                                  refine hK437 _ ?_
                                                  refine hN422 _ ?_
                                                  refine rnd_forget [8, 9, 10, 18, 19, 20, 21, 22, 23, 24, 25, 26, 27, 28, 29, 30, 31, 32, 33, 34, 35, 36, 37, 38, 39] ?_
                                                  simp only [go_sem, St.forget, fgt]
                                                  refine rnd_k fun N438 M438 hN438 hM438 => ?_
                                                  refine seq_k fun N439 M439 hN439 hM439 => ?_
                                                  refine region_k fun K440 hK440 => ?_
                                                  simp only [go_sem, P5.ls, ic0, ic1, ic2, ic3, ic4, ic5, Int.reduceMod, Int.reduceTMod, Int.toNat_one]
                                                  all_goals repeat' (first | apply And.intro | intro _)
                                                  all_goals
                                                   refine hK440 _ ?_
                                                   refine hN439 _ ?_
                                                   refine seq_k fun N441 M441 hN441 hM441 => ?_
                                                   refine cond_k rfl (fun hc => ?_) (fun hc => ?_)
                                                   · try simp only [go_sem, P5.ls, ic0, ic1, ic2, ic3, ic4, ic5, Int.reduceMod, Int.reduceTMod, Int.toNat_one] at hc
                                                     all_goals
                                                      refine skip_k ?_
                                                      refine hN441 _ ?_
                                                      refine seq_k fun N442 M442 hN442 hM442 => ?_
                                                      refine block_k fun B443 bn443 bx443 br443 bi443 => ?_
                                                      refine seq_k fun N444 M444 hN444 hM444 => ?_
                                                      refine region_k fun K445 hK445 => ?_
                                                      simp only [go_sem, P5.ls, ic0, ic1, ic2, ic3, ic4, ic5, Int.reduceMod, Int.reduceTMod, Int.toNat_one]
                                                      all_goals repeat' (first | apply And.intro | intro _)
                                                      all_goals
                                                       refine hK445 _ ?_
                                                       refine hN444 _ ?_
                                                       refine seq_k fun N446 M446 hN446 hM446 => ?_
                                                       refine region_k fun K447 hK447 => ?_
                                                       simp only [go_sem, P5.ls, ic0, ic1, ic2, ic3, ic4, ic5, Int.reduceMod, Int.reduceTMod, Int.toNat_one]
                                                       all_goals repeat' (first | apply And.intro | intro _)
                                                       all_goals
                                                        refine hK447 _ ?_
                                                        refine hN446 _ ?_
                                                        refine seq_k fun N448 M448 hN448 hM448 => ?_
                                                        refine seq_k fun N449 M449 hN449 hM449 => ?_
                                                        refine region_k fun K450 hK450 => ?_
                                                        simp only [go_sem, P5.ls, ic0, ic1, ic2, ic3, ic4, ic5, Int.reduceMod, Int.reduceTMod, Int.toNat_one]
                                                        all_goals repeat' (first | apply And.intro | intro _)
                                                        all_goals
                                                         refine hK450 _ ?_
                                                         refine hN449 _ ?_
                                                         refine cond_k rfl (fun hc => ?_) (fun hc => ?_)
                                                         · try simp only [go_sem, P5.ls, ic0, ic1, ic2, ic3, ic4, ic5, Int.reduceMod, Int.reduceTMod, Int.toNat_one] at hc
                                                           all_goals
                                                            refine region_k fun K451 hK451 => ?_
                                                            simp only [go_sem, P5.ls, ic0, ic1, ic2, ic3, ic4, ic5, Int.reduceMod, Int.reduceTMod, Int.toNat_one]
                                                            all_goals repeat' (first | apply And.intro | intro _)
                                                            all_goals
                                                             refine hK451 _ ?_
                                                             refine hN448 _ ?_
                                                             refine region_k fun K452 hK452 => ?_
                                                             simp only [go_sem, P5.ls, ic0, ic1, ic2, ic3, ic4, ic5, Int.reduceMod, Int.reduceTMod, Int.toNat_one]
                                                             all_goals repeat' (first | apply And.intro | intro _)
                                                             all_goals
                                                              refine hK452 _ ?_
                                                              refine bn443 _ ?_
                                                              refine hN442 _ ?_
                                                              refine region_k fun K453 hK453 => ?_
                                                              simp only [go_sem, P5.ls, ic0, ic1, ic2, ic3, ic4, ic5, Int.reduceMod, Int.reduceTMod, Int.toNat_one]
                                                              all_goals repeat' (first | apply And.intro | intro _)
                                                              all_goals
                                                               refine hK453 _ ?_
                                                               refine hN438 _ ?_
                                                               refine rnd_forget [8, 9, 10, 18, 19, 20, 21, 22, 23, 24, 25, 26, 27, 28, 29, 30, 31, 32, 33, 34, 35, 36, 37, 38, 39] ?_
                                                               simp only [go_sem, St.forget, fgt]
                                                               refine rnd_k fun N454 M454 hN454 hM454 => ?_
                                                               refine seq_k fun N455 M455 hN455 hM455 => ?_
                                                               refine region_k fun K456 hK456 => ?_
                                                               simp only [go_sem, P5.ls, ic0, ic1, ic2, ic3, ic4, ic5, Int.reduceMod, Int.reduceTMod, Int.toNat_one]
                                                               all_goals repeat' (first | apply And.intro | intro _)
                                                               all_goals
                                                                refine hK456 _ ?_
                                                                refine hN455 _ ?_
                                                                refine seq_k fun N457 M457 hN457 hM457 => ?_
                                                                refine cond_k rfl (fun hc => ?_) (fun hc => ?_)
                                                                · try simp only [go_sem, P5.ls, ic0, ic1, ic2, ic3, ic4, ic5, Int.reduceMod, Int.reduceTMod, Int.toNat_one] at hc
                                                                  all_goals
                                                                   refine skip_k ?_
                                                                   refine hN457 _ ?_
                                                                   refine seq_k fun N458 M458 hN458 hM458 => ?_
                                                                   refine block_k fun B459 bn459 bx459 br459 bi459 => ?_
                                                                   refine seq_k fun N460 M460 hN460 hM460 => ?_
                                                                   refine region_k fun K461 hK461 => ?_
                                                                   simp only [go_sem, P5.ls, ic0, ic1, ic2, ic3, ic4, ic5, Int.reduceMod, Int.reduceTMod, Int.toNat_one]
                                                                   all_goals repeat' (first | apply And.intro | intro _)
                                                                   all_goals
                                                                    refine hK461 _ ?_
                                                                    refine hN460 _ ?_
                                                                    refine seq_k fun N462 M462 hN462 hM462 => ?_
                                                                    refine region_k fun K463 hK463 => ?_
                                                                    simp only [go_sem, P5.ls, ic0, ic1, ic2, ic3, ic4, ic5, Int.reduceMod, Int.reduceTMod, Int.toNat_one]
                                                                    all_goals repeat' (first | apply And.intro | intro _)
                                                                    all_goals
                                                                     refine hK463 _ ?_
                                                                     refine hN462 _ ?_
                                                                     refine seq_k fun N464 M464 hN464 hM464 => ?_
                                                                     refine seq_k fun N465 M465 hN465 hM465 => ?_
                                                                     refine region_k fun K466 hK466 => ?_
                                                                     simp only [go_sem, P5.ls, ic0, ic1, ic2, ic3, ic4, ic5, Int.reduceMod, Int.reduceTMod, Int.toNat_one]
                                                                     all_goals repeat' (first | apply And.intro | intro _)
                                                                     all_goals
                                                                      refine hK466 _ ?_
                                                                      refine hN465 _ ?_
                                                                      refine cond_k rfl (fun hc => ?_) (fun hc => ?_)
                                                                      · try simp only [go_sem, P5.ls, ic0, ic1, ic2, ic3, ic4, ic5, Int.reduceMod, Int.reduceTMod, Int.toNat_one] at hc
                                                                        all_goals
                                                                         refine region_k fun K467 hK467 => ?_
                                                                         simp only [go_sem, P5.ls, ic0, ic1, ic2, ic3, ic4, ic5, Int.reduceMod, Int.reduceTMod, Int.toNat_one]
                                                                         all_goals repeat' (first | apply And.intro | intro _)
                                                                         all_goals
                                                                          refine hK467 _ ?_
                                                                          refine hN464 _ ?_
                                                                          refine region_k fun K468 hK468 => ?_
                                                                          simp only [go_sem, P5.ls, ic0, ic1, ic2, ic3, ic4, ic5, Int.reduceMod, Int.reduceTMod, Int.toNat_one]
                                                                          all_goals repeat' (first | apply And.intro | intro _)
                                                                          all_goals
                                                                           refine hK468 _ ?_
                                                                           refine bn459 _ ?_
                                                                           refine hN458 _ ?_
                                                                           refine region_k fun K469 hK469 => ?_
                                                                           simp only [go_sem, P5.ls, ic0, ic1, ic2, ic3, ic4, ic5, Int.reduceMod, Int.reduceTMod, Int.toNat_one]
                                                                           all_goals repeat' (first | apply And.intro | intro _)
                                                                           all_goals
                                                                            refine hK469 _ ?_
                                                                            refine hN454 _ ?_
                                                                            refine rnd_forget [8, 9, 10, 18, 19, 20, 21, 22, 23, 24, 25, 26, 27, 28, 29, 30, 31, 32, 33, 34, 35, 36, 37, 38, 39] ?_
                                                                            simp only [go_sem, St.forget, fgt]
                                                                            refine rnd_k fun N470 M470 hN470 hM470 => ?_
                                                                            refine seq_k fun N471 M471 hN471 hM471 => ?_
                                                                            refine region_k fun K472 hK472 => ?_
                                                                            simp only [go_sem, P5.ls, ic0, ic1, ic2, ic3, ic4, ic5, Int.reduceMod, Int.reduceTMod, Int.toNat_one]
                                                                            all_goals repeat' (first | apply And.intro | intro _)
                                                                            all_goals
                                                                             refine hK472 _ ?_
                                                                             refine hN471 _ ?_
                                                                             refine seq_k fun N473 M473 hN473 hM473 => ?_
                                                                             refine cond_k rfl (fun hc => ?_) (fun hc => ?_)
                                                                             · exfalso; revert hc; simp
                                                                             · try simp only [go_sem, P5.ls, ic0, ic1, ic2, ic3, ic4, ic5, Int.reduceMod, Int.reduceTMod, Int.toNat_one] at hc
                                                                               all_goals
                                                                                refine exit_k ?_
                                                                                refine hM473 _ _ ?_
                                                                                refine hM470 _ _ ?_
                                                                                refine bx389 _ ?_
                                                                                refine bn384 _ ?_
                                                                                refine hN383 _ ?_
                                                                                refine region_k fun K474 hK474 => ?_
                                                                                simp only [go_sem, P5.ls, ic0, ic1, ic2, ic3, ic4, ic5, Int.reduceMod, Int.reduceTMod, Int.toNat_one]
                                                                                all_goals repeat' (first | apply And.intro | intro _)
                                                                                all_goals
                                                                                 refine hK474 _ ?_
                                                                                 refine hN9 ⟨5, by omega⟩ _ ?_ ?_ ?_
                                                                                 · (show 5 - (4 + 1) < 5 - 4; omega)
                                                                                 · (simp only [go_sem, leX, List.cons_append, List.nil_append]; try simp)
                                                                                 · (simp only [mulN, go_sem, leX, List.cons_append, List.nil_append]; first | done | (simp [mulN, mul5, P5.ls, leX, look]; done) | rfl)
                                                                      · exfalso; revert hc; simp [go_sem, P5.ls, decide_true, decide_false, ic0, ic1, ic2, ic3, ic4, ic5, Int.reduceAdd, Int.reduceMod, Int.reduceTMod, Int.reduceLT, Int.reduceLE, Int.reduceToNat, Int.toNat_zero, Int.toNat_one]
                                                                · exfalso; revert hc; simp
                                                         · exfalso; revert hc; simp [go_sem, P5.ls, decide_true, decide_false, ic0, ic1, ic2, ic3, ic4, ic5, Int.reduceAdd, Int.reduceMod, Int.reduceTMod, Int.reduceLT, Int.reduceLE, Int.reduceToNat, Int.toNat_zero, Int.toNat_one]
                                                   · exfalso; revert hc; simp
                                            · exfalso; revert hc; simp [go_sem, P5.ls, decide_true, decide_false, ic0, ic1, ic2, ic3, ic4, ic5, Int.reduceAdd, Int.reduceMod, Int.reduceTMod, Int.reduceLT, Int.reduceLE, Int.reduceToNat, Int.toNat_zero, Int.toNat_one]
                                      · exfalso; revert hc; simp
                               · exfalso; revert hc; simp [go_sem, P5.ls, decide_true, decide_false, ic0, ic1, ic2, ic3, ic4, ic5, Int.reduceAdd, Int.reduceMod, Int.reduceTMod, Int.reduceLT, Int.reduceLE, Int.reduceToNat, Int.toNat_zero, Int.toNat_one]
                         · exfalso; revert hc; simp
             · exfalso; revert hc; simp
       · exfalso; revert hc; simp [go_sem, P5.ls, decide_true, decide_false, ic0, ic1, ic2, ic3, ic4, ic5, Int.reduceAdd, Int.reduceMod, Int.reduceTMod, Int.reduceLT, Int.reduceLE, Int.reduceToNat, Int.toNat_zero, Int.toNat_one]
    · simp only [mulN]
      refine seq_k fun N475 M475 hN475 hM475 => ?_
      refine region_k fun K476 hK476 => ?_
      simp only [go_sem, P5.ls, ic0, ic1, ic2, ic3, ic4, ic5, Int.reduceMod, Int.reduceTMod, Int.toNat_one]
      all_goals repeat' (first | apply And.intro | intro _)
      all_goals
       refine hK476 _ ?_
       refine hN475 _ ?_
       refine seq_k fun N477 M477 hN477 hM477 => ?_
       refine cond_k rfl (fun hc => ?_) (fun hc => ?_)
       · exfalso; revert hc; simp [go_sem, P5.ls, decide_true, decide_false, ic0, ic1, ic2, ic3, ic4, ic5, Int.reduceAdd, Int.reduceMod, Int.reduceTMod, Int.reduceLT, Int.reduceLE, Int.reduceToNat, Int.toNat_zero, Int.toNat_one]
       · try simp only [go_sem, P5.ls, ic0, ic1, ic2, ic3, ic4, ic5, Int.reduceMod, Int.reduceTMod, Int.toNat_one] at hc
         all_goals
          refine exit_k ?_
          refine hM477 _ _ ?_
          refine hM9 _ _ ?_
          refine bx8 _ ?_
          refine hN5 _ ?_
          refine seq_k fun N478 M478 hN478 hM478 => ?_
          refine region_k fun K479 hK479 => ?_
          simp only [go_sem, P5.ls, ic0, ic1, ic2, ic3, ic4, ic5, Int.reduceMod, Int.reduceTMod, Int.toNat_one]
          all_goals repeat' (first | apply And.intro | intro _)
          all_goals refine call_view (fun k => k) (fun _ _ => rfl) (by first | rfl | (simp only [go_sem, P5.ls, ic0, ic1, ic2, ic3, ic4, ic5, Int.reduceMod, Int.reduceTMod, Int.toNat_one]; rfl) | simp only [go_sem, P5.ls, ic0, ic1, ic2, ic3, ic4, ic5, Int.reduceMod, Int.reduceTMod, Int.toNat_one]) ((carried_of (mul5 p r)).plain fun _ _ h => h) ?_
          all_goals (rintro v m ⟨hR, hm⟩; subst hR; subst hm)
          all_goals refine And.intro (by first | rfl | simp only [go_sem, P5.ls, ic0, ic1, ic2, ic3, ic4, ic5, Int.reduceMod, Int.reduceTMod, Int.toNat_one]) (And.intro (by first | rfl | simp only [go_sem, P5.ls, ic0, ic1, ic2, ic3, ic4, ic5, Int.reduceMod, Int.reduceTMod, Int.toNat_one]) ?_)
          all_goals simp only [go_sem, P5.ls, ic0, ic1, ic2, ic3, ic4, ic5, Int.reduceMod, Int.reduceTMod, Int.toNat_one]
          all_goals repeat' (first | apply And.intro | intro _)
          all_goals
           refine hK479 _ ?_
           refine hN478 _ ?_
           refine ret_k ?_
           simp only [go_sem, P5.ls, ic0, ic1, ic2, ic3, ic4, ic5, Int.reduceMod, Int.reduceTMod, Int.toNat_one]
           all_goals (first | rfl | (simp only [P5.ls]; done) | trace_state)
end Go.Sy
