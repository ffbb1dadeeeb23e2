/- Walks: five parts of 26 bits. -/
import Derived.Test.YthcpkdhojokhdaaveE2
set_option linter.unusedVariables false
set_option linter.unusedSimpArgs false
namespace Go.Sy
open Go.Proofs
attribute [local irreducible] atCall HT runOps runD onC onE onO onG goV goA goS onSt onGuard
def P5.ls (p : P5) : List L := [.pl (.u64 p.a), .pl (.u64 p.b), .pl (.u64 p.c), .pl (.u64 p.d), .pl (.u64 p.e)]
def passN : Nat → P5 → P5
 | 0, p => p
 | k + 1, p => (passN k p).pass
def W3 (x y z : UInt64) : List L := [.pl (.u64 x), .pl (.u64 y), .pl (.u64 z)]
set_option maxHeartbeats 400000 in
theorem parts_of (x y z : UInt64) :
 Ct Try.prog 41 [.w (.agg (W3 x y z))] (fun v m => v = .w (.agg (parts3 x y z).ls)) := by
 refine Ct.k Try.func41 rfl Try.ntmps41 (congrArg Array.toList Try.results41) (by simp) fun w0 ro => ?_
 refine seq_k fun N1 M1 hN1 hM1 => ?_
 refine region_k fun K2 hK2 => ?_
 simp only [go_sem, W3]
 all_goals repeat' (first | apply And.intro | intro _)
 all_goals
  refine hK2 _ ?_
  refine hN1 _ ?_
  refine seq_k fun N3 M3 hN3 hM3 => ?_
  refine region_k fun K4 hK4 => ?_
  simp only [go_sem, W3]
  all_goals repeat' (first | apply And.intro | intro _)
  all_goals
   refine hK4 _ ?_
   refine hN3 _ ?_
   refine ret_k ?_
   simp only [go_sem, W3]
   all_goals rfl
set_option maxHeartbeats 400000 in
theorem whole_ (a b c d e : UInt64) :
 Ct Try.prog 43 [.w (.agg [.pl (.u64 a), .pl (.u64 b), .pl (.u64 c), .pl (.u64 d), .pl (.u64 e)])] (fun v m => v = .w (.agg (W3 (P5.w0 ⟨a, b, c, d, e⟩) (P5.w1 ⟨a, b, c, d, e⟩) (P5.w2 ⟨a, b, c, d, e⟩)))) := by
 refine Ct.k Try.func43 rfl Try.ntmps43 (congrArg Array.toList Try.results43) (by simp) fun w0 ro => ?_
 refine seq_k fun N1 M1 hN1 hM1 => ?_
 refine region_k fun K2 hK2 => ?_
 simp only [go_sem]
 all_goals repeat' (first | apply And.intro | intro _)
 all_goals
  refine hK2 _ ?_
  refine hN1 _ ?_
  refine seq_k fun N3 M3 hN3 hM3 => ?_
  refine region_k fun K4 hK4 => ?_
  simp only [go_sem]
  all_goals repeat' (first | apply And.intro | intro _)
  all_goals
   refine hK4 _ ?_
   refine hN3 _ ?_
   refine ret_k ?_
   simp only [go_sem]
   all_goals rfl
set_option maxHeartbeats 1600000 in
theorem carried_ (a b c d e : UInt64) :
 Ct Try.prog 42 [.w (.agg [.pl (.u64 a), .pl (.u64 b), .pl (.u64 c), .pl (.u64 d), .pl (.u64 e)])] (fun v m => v = .w (.agg (P5.carried ⟨a, b, c, d, e⟩).ls)) := by
 refine Ct.k Try.func42 rfl Try.ntmps42 (congrArg Array.toList Try.results42) (by simp) fun w0 ro => ?_
 refine seq_k fun N1 M1 hN1 hM1 => ?_
 refine region_k fun K2 hK2 => ?_
 simp only [go_sem]
 all_goals repeat' (first | apply And.intro | intro _)
 all_goals
  refine hK2 _ ?_
  refine hN1 _ ?_
  refine seq_k fun N3 M3 hN3 hM3 => ?_
  refine seq_k fun N4 M4 hN4 hM4 => ?_
  refine region_k fun K5 hK5 => ?_
  simp only [go_sem]
  all_goals repeat' (first | apply And.intro | intro _)
  all_goals
   refine hK5 _ ?_
   refine hN4 _ ?_
   refine block_k fun B6 bn6 bx6 br6 bi6 => ?_
   refine ht_dropE [0] ?_
   simp only [dropE_mk, fgt_nil, fgt_cons, List.contains_cons, List.contains_nil, Nat.reduceBEq, beq_self_eq_true, Bool.or_false, Bool.or_true, Bool.true_or, Bool.false_or, Bool.false_eq_true, reduceIte]
   refine loop_k (fun y => [(7, .w (.one (.pl (.i ((y.1 : Nat) : Int)))))]) (fun y => [(1, ⟨false, (passN y.1 ⟨a, b, c, d, e⟩).ls⟩)]) (fun y => 3 - y.1) (⟨0, by omega⟩ : {y : Nat // y ≤ 3}) ?_ ?_ ?_
   · (simp only [go_sem, P5.ls, passN, leX, List.cons_append, List.nil_append]; try simp)
   · (simp only [go_sem, P5.ls, passN, leX, List.cons_append, List.nil_append]; try simp)
   intro yy N7 M7 hN7 hM7
   simp only [List.cons_append, List.nil_append]
   obtain ⟨j, hj⟩ := yy
   rcases Nat.lt_or_ge j 3 with hlt | hge
   rotate_left
   obtain ⟨q, hq⟩ : ∃ q, passN j ⟨a, b, c, d, e⟩ = q := ⟨_, rfl⟩
   have hd := Classical.em (0 < sh26 q.f5)
   rcases hd with hcar | hcar
   rotate_left 2
   · have hc : ((j : Nat) : Int) < 3 := by omega
     have hs1 : Go.RowKit.wrap64 (((j : Nat) : Int) + 1) = ((j + 1 : Nat) : Int) := wnat (by omega) (by omega)
     obtain ⟨q, hq⟩ : ∃ q, passN j ⟨a, b, c, d, e⟩ = q := ⟨_, rfl⟩
     obtain ⟨qa, qb, qc, qd, qe⟩ := q
     simp only [hq, P5.ls]
     refine seq_k fun N8 M8 hN8 hM8 => ?_
     refine region_k fun K9 hK9 => ?_
     simp only [go_sem, hc, hs1]
     all_goals repeat' (first | apply And.intro | intro _)
     all_goals
      refine hK9 _ ?_
      refine hN8 _ ?_
      refine seq_k fun N10 M10 hN10 hM10 => ?_
      refine cond_k rfl (fun hc => ?_) (fun hc => ?_)
      · try simp only [go_sem, hc, hs1] at hc
        all_goals
         refine skip_k ?_
         refine hN10 _ ?_
         refine seq_k fun N11 M11 hN11 hM11 => ?_
         refine block_k fun B12 bn12 bx12 br12 bi12 => ?_
         refine seq_k fun N13 M13 hN13 hM13 => ?_
         refine region_k fun K14 hK14 => ?_
         simp only [go_sem, hc, hs1]
         all_goals repeat' (first | apply And.intro | intro _)
         all_goals
          refine hK14 _ ?_
          refine hN13 _ ?_
          refine seq_k fun N15 M15 hN15 hM15 => ?_
          refine seq_k fun N16 M16 hN16 hM16 => ?_
          refine region_k fun K17 hK17 => ?_
          simp only [go_sem, hc, hs1]
          all_goals repeat' (first | apply And.intro | intro _)
          all_goals
           refine hK17 _ ?_
           refine hN16 _ ?_
           refine block_k fun B18 bn18 bx18 br18 bi18 => ?_
           refine rounds_k 6 ?_
           refine rnd_k fun N20 M20 hN20 hM20 => ?_
           refine seq_k fun N21 M21 hN21 hM21 => ?_
           refine region_k fun K22 hK22 => ?_
           simp only [go_sem, hc, hs1]
           all_goals repeat' (first | apply And.intro | intro _)
           all_goals
            refine hK22 _ ?_
            refine hN21 _ ?_
            refine seq_k fun N23 M23 hN23 hM23 => ?_
            refine cond_k rfl (fun hc => ?_) (fun hc => ?_)
            · try simp only [go_sem, hc, hs1] at hc
              all_goals
               refine skip_k ?_
               refine hN23 _ ?_
               refine seq_k fun N24 M24 hN24 hM24 => ?_
               refine block_k fun B25 bn25 bx25 br25 bi25 => ?_
               refine seq_k fun N26 M26 hN26 hM26 => ?_
               refine region_k fun K27 hK27 => ?_
               simp only [go_sem, hc, hs1]
               all_goals repeat' (first | apply And.intro | intro _)
               all_goals
                refine hK27 _ ?_
                refine hN26 _ ?_
                refine seq_k fun N28 M28 hN28 hM28 => ?_
                refine region_k fun K29 hK29 => ?_
                simp only [go_sem, hc, hs1]
                all_goals repeat' (first | apply And.intro | intro _)
                all_goals
                 refine hK29 _ ?_
                 refine hN28 _ ?_
                 refine region_k fun K30 hK30 => ?_
                 simp only [go_sem, hc, hs1]
                 all_goals repeat' (first | apply And.intro | intro _)
                 all_goals
                  refine hK30 _ ?_
                  refine bn25 _ ?_
                  refine hN24 _ ?_
                  refine region_k fun K31 hK31 => ?_
                  simp only [go_sem, hc, hs1]
                  all_goals repeat' (first | apply And.intro | intro _)
                  all_goals
                   refine hK31 _ ?_
                   refine hN20 _ ?_
                   refine rnd_forget [4, 10, 11, 12, 13, 14, 15, 16, 17, 18, 19, 20, 21, 22, 23] ?_
                   simp only [go_sem, St.forget, fgt]
                   refine rnd_k fun N32 M32 hN32 hM32 => ?_
                   refine seq_k fun N33 M33 hN33 hM33 => ?_
                   refine region_k fun K34 hK34 => ?_
                   simp only [go_sem, hc, hs1]
                   all_goals repeat' (first | apply And.intro | intro _)
                   all_goals
                    refine hK34 _ ?_
                    refine hN33 _ ?_
                    refine seq_k fun N35 M35 hN35 hM35 => ?_
                    refine cond_k rfl (fun hc => ?_) (fun hc => ?_)
                    · try simp only [go_sem, hc, hs1] at hc
                      all_goals
                       refine skip_k ?_
                       refine hN35 _ ?_
                       refine seq_k fun N36 M36 hN36 hM36 => ?_
                       refine block_k fun B37 bn37 bx37 br37 bi37 => ?_
                       refine seq_k fun N38 M38 hN38 hM38 => ?_
                       refine region_k fun K39 hK39 => ?_
                       simp only [go_sem, hc, hs1]
                       all_goals repeat' (first | apply And.intro | intro _)
                       all_goals
                        refine hK39 _ ?_
                        refine hN38 _ ?_
                        refine seq_k fun N40 M40 hN40 hM40 => ?_
                        refine region_k fun K41 hK41 => ?_
                        simp only [go_sem, hc, hs1]
                        all_goals repeat' (first | apply And.intro | intro _)
                        all_goals
                         refine hK41 _ ?_
                         refine hN40 _ ?_
                         refine region_k fun K42 hK42 => ?_
                         simp only [go_sem, hc, hs1]
                         all_goals repeat' (first | apply And.intro | intro _)
                         all_goals
                          refine hK42 _ ?_
                          refine bn37 _ ?_
                          refine hN36 _ ?_
                          refine region_k fun K43 hK43 => ?_
                          simp only [go_sem, hc, hs1]
                          all_goals repeat' (first | apply And.intro | intro _)
                          all_goals
                           refine hK43 _ ?_
                           refine hN32 _ ?_
                           refine rnd_forget [4, 10, 11, 12, 13, 14, 15, 16, 17, 18, 19, 20, 21, 22, 23] ?_
                           simp only [go_sem, St.forget, fgt]
                           refine rnd_k fun N44 M44 hN44 hM44 => ?_
                           refine seq_k fun N45 M45 hN45 hM45 => ?_
                           refine region_k fun K46 hK46 => ?_
                           simp only [go_sem, hc, hs1]
                           all_goals repeat' (first | apply And.intro | intro _)
                           all_goals
                            refine hK46 _ ?_
                            refine hN45 _ ?_
                            refine seq_k fun N47 M47 hN47 hM47 => ?_
                            refine cond_k rfl (fun hc => ?_) (fun hc => ?_)
                            · try simp only [go_sem, hc, hs1] at hc
                              all_goals
                               refine skip_k ?_
                               refine hN47 _ ?_
                               refine seq_k fun N48 M48 hN48 hM48 => ?_
                               refine block_k fun B49 bn49 bx49 br49 bi49 => ?_
                               refine seq_k fun N50 M50 hN50 hM50 => ?_
                               refine region_k fun K51 hK51 => ?_
                               simp only [go_sem, hc, hs1]
                               all_goals repeat' (first | apply And.intro | intro _)
                               all_goals
                                refine hK51 _ ?_
                                refine hN50 _ ?_
                                refine seq_k fun N52 M52 hN52 hM52 => ?_
                                refine region_k fun K53 hK53 => ?_
                                simp only [go_sem, hc, hs1]
                                all_goals repeat' (first | apply And.intro | intro _)
                                all_goals
                                 refine hK53 _ ?_
                                 refine hN52 _ ?_
                                 refine region_k fun K54 hK54 => ?_
                                 simp only [go_sem, hc, hs1]
                                 all_goals repeat' (first | apply And.intro | intro _)
                                 all_goals
                                  refine hK54 _ ?_
                                  refine bn49 _ ?_
                                  refine hN48 _ ?_
                                  refine region_k fun K55 hK55 => ?_
                                  simp only [go_sem, hc, hs1]
                                  all_goals repeat' (first | apply And.intro | intro _)
                                  all_goals
                                   refine hK55 _ ?_
                                   refine hN44 _ ?_
                                   refine rnd_forget [4, 10, 11, 12, 13, 14, 15, 16, 17, 18, 19, 20, 21, 22, 23] ?_
                                   simp only [go_sem, St.forget, fgt]
                                   refine rnd_k fun N56 M56 hN56 hM56 => ?_
                                   refine seq_k fun N57 M57 hN57 hM57 => ?_
                                   refine region_k fun K58 hK58 => ?_
                                   simp only [go_sem, hc, hs1]
                                   all_goals repeat' (first | apply And.intro | intro _)
                                   all_goals
                                    refine hK58 _ ?_
                                    refine hN57 _ ?_
                                    refine seq_k fun N59 M59 hN59 hM59 => ?_
                                    refine cond_k rfl (fun hc => ?_) (fun hc => ?_)
                                    · try simp only [go_sem, hc, hs1] at hc
                                      all_goals
                                       refine skip_k ?_
                                       refine hN59 _ ?_
                                       refine seq_k fun N60 M60 hN60 hM60 => ?_
                                       refine block_k fun B61 bn61 bx61 br61 bi61 => ?_
                                       refine seq_k fun N62 M62 hN62 hM62 => ?_
                                       refine region_k fun K63 hK63 => ?_
                                       simp only [go_sem, hc, hs1]
                                       all_goals repeat' (first | apply And.intro | intro _)
                                       all_goals
                                        refine hK63 _ ?_
                                        refine hN62 _ ?_
                                        refine seq_k fun N64 M64 hN64 hM64 => ?_
                                        refine region_k fun K65 hK65 => ?_
                                        simp only [go_sem, hc, hs1]
                                        all_goals repeat' (first | apply And.intro | intro _)
                                        all_goals
                                         refine hK65 _ ?_
                                         refine hN64 _ ?_
                                         refine region_k fun K66 hK66 => ?_
                                         simp only [go_sem, hc, hs1]
                                         all_goals repeat' (first | apply And.intro | intro _)
                                         all_goals
                                          refine hK66 _ ?_
                                          refine bn61 _ ?_
                                          refine hN60 _ ?_
                                          refine region_k fun K67 hK67 => ?_
                                          simp only [go_sem, hc, hs1]
                                          all_goals repeat' (first | apply And.intro | intro _)
                                          all_goals
                                           refine hK67 _ ?_
                                           refine hN56 _ ?_
                                           refine rnd_forget [4, 10, 11, 12, 13, 14, 15, 16, 17, 18, 19, 20, 21, 22, 23] ?_
                                           simp only [go_sem, St.forget, fgt]
                                           refine rnd_k fun N68 M68 hN68 hM68 => ?_
                                           refine seq_k fun N69 M69 hN69 hM69 => ?_
                                           refine region_k fun K70 hK70 => ?_
                                           simp only [go_sem, hc, hs1]
                                           all_goals repeat' (first | apply And.intro | intro _)
                                           all_goals
                                            refine hK70 _ ?_
                                            refine hN69 _ ?_
                                            refine seq_k fun N71 M71 hN71 hM71 => ?_
                                            refine cond_k rfl (fun hc => ?_) (fun hc => ?_)
                                            · try simp only [go_sem, hc, hs1] at hc
                                              all_goals
                                               refine skip_k ?_
                                               refine hN71 _ ?_
                                               refine seq_k fun N72 M72 hN72 hM72 => ?_
                                               refine block_k fun B73 bn73 bx73 br73 bi73 => ?_
                                               refine seq_k fun N74 M74 hN74 hM74 => ?_
                                               refine region_k fun K75 hK75 => ?_
                                               simp only [go_sem, hc, hs1]
                                               all_goals repeat' (first | apply And.intro | intro _)
                                               all_goals
                                                refine hK75 _ ?_
                                                refine hN74 _ ?_
                                                refine seq_k fun N76 M76 hN76 hM76 => ?_
                                                refine region_k fun K77 hK77 => ?_
                                                simp only [go_sem, hc, hs1]
                                                all_goals repeat' (first | apply And.intro | intro _)
                                                all_goals
                                                 refine hK77 _ ?_
                                                 refine hN76 _ ?_
                                                 refine region_k fun K78 hK78 => ?_
                                                 simp only [go_sem, hc, hs1]
                                                 all_goals repeat' (first | apply And.intro | intro _)
                                                 all_goals
                                                  refine hK78 _ ?_
                                                  refine bn73 _ ?_
                                                  refine hN72 _ ?_
                                                  refine region_k fun K79 hK79 => ?_
                                                  simp only [go_sem, hc, hs1]
                                                  all_goals repeat' (first | apply And.intro | intro _)
                                                  all_goals
                                                   refine hK79 _ ?_
                                                   refine hN68 _ ?_
                                                   refine rnd_forget [4, 10, 11, 12, 13, 14, 15, 16, 17, 18, 19, 20, 21, 22, 23] ?_
                                                   simp only [go_sem, St.forget, fgt]
                                                   refine rnd_k fun N80 M80 hN80 hM80 => ?_
                                                   refine seq_k fun N81 M81 hN81 hM81 => ?_
                                                   refine region_k fun K82 hK82 => ?_
                                                   simp only [go_sem, hc, hs1]
                                                   all_goals repeat' (first | apply And.intro | intro _)
                                                   all_goals
                                                    refine hK82 _ ?_
                                                    refine hN81 _ ?_
                                                    refine seq_k fun N83 M83 hN83 hM83 => ?_
                                                    refine cond_k rfl (fun hc => ?_) (fun hc => ?_)
                                                    · exfalso; revert hc; simp
                                                    · try simp only [go_sem, hc, hs1] at hc
                                                      all_goals
                                                       refine exit_k ?_
                                                       refine hM83 _ _ ?_
                                                       refine hM80 _ _ ?_
                                                       refine bx18 _ ?_
                                                       refine hN15 _ ?_
                                                       refine region_k fun K84 hK84 => ?_
                                                       simp only [go_sem, hc, hs1]
                                                       all_goals repeat' (first | apply And.intro | intro _)
                                                       all_goals
                                                        refine hK84 _ ?_
                                                        refine bn12 _ ?_
                                                        refine hN11 _ ?_
                                                        refine region_k fun K85 hK85 => ?_
                                                        simp only [go_sem, hc, hs1]
                                                        all_goals repeat' (first | apply And.intro | intro _)
                                                        all_goals
                                                         refine hK85 _ ?_
                                                         refine hN7 ⟨j + 1, by omega⟩ _ ?_ ?_ ?_
                                                         · (show 3 - (j + 1) < 3 - j; clear hs1; omega)
                                                         · (simp only [go_sem, leX, List.cons_append, List.nil_append]; try simp)
                                                         · (simp only [passN, hq, go_sem, leX, List.cons_append, List.nil_append]; try simp [passN, hq, P5.ls, P5.pass, P5.c1, P5.c2, P5.c3, P5.c4, P5.c5, mk26, sh26, leX, look])
                                            · exfalso; revert hc; simp
                                    · exfalso; revert hc; simp
                            · exfalso; revert hc; simp
                    · exfalso; revert hc; simp
            · exfalso; revert hc; simp
      · exfalso; revert hc; simp [go_sem, decide_true, decide_false, hc, hs1]
   · have hc : ¬ ((j : Nat) : Int) < 3 := by omega
     have hj3 : j = 3 := by omega
     subst hj3
     obtain ⟨qa, qb, qc, qd, qe⟩ := q
     have hcc : P5.carried ⟨a, b, c, d, e⟩ = P5.car ⟨qa, qb, qc, qd, qe⟩ := by rw [← hq]; rfl
     rw [P5.car, if_pos hcar] at hcc
     simp only [P5.f1, P5.f2, P5.f3, P5.f4, P5.f5, sh26, mk26] at hcar hcc
     simp only [hq, P5.ls]
     refine seq_k fun N86 M86 hN86 hM86 => ?_
     refine region_k fun K87 hK87 => ?_
     simp only [go_sem, hc, hcar]
     all_goals repeat' (first | apply And.intro | intro _)
     all_goals
      refine hK87 _ ?_
      refine hN86 _ ?_
      refine seq_k fun N88 M88 hN88 hM88 => ?_
      refine cond_k rfl (fun hc => ?_) (fun hc => ?_)
      · exfalso; revert hc; simp [go_sem, decide_true, decide_false, hc, hcar]
      · try simp only [go_sem, hc, hcar] at hc
        all_goals
         refine exit_k ?_
         refine hM88 _ _ ?_
         refine hM7 _ _ ?_
         refine bx6 _ ?_
         refine hN3 _ ?_
         refine seq_k fun N89 M89 hN89 hM89 => ?_
         refine region_k fun K90 hK90 => ?_
         simp only [go_sem, hc, hcar]
         all_goals repeat' (first | apply And.intro | intro _)
         all_goals
          refine hK90 _ ?_
          refine hN89 _ ?_
          refine seq_k fun N91 M91 hN91 hM91 => ?_
          refine region_k fun K92 hK92 => ?_
          simp only [go_sem, hc, hcar]
          all_goals repeat' (first | apply And.intro | intro _)
          all_goals
           refine hK92 _ ?_
           refine hN91 _ ?_
           refine seq_k fun N93 M93 hN93 hM93 => ?_
           refine seq_k fun N94 M94 hN94 hM94 => ?_
           refine region_k fun K95 hK95 => ?_
           simp only [go_sem, hc, hcar]
           all_goals repeat' (first | apply And.intro | intro _)
           all_goals
            refine hK95 _ ?_
            refine hN94 _ ?_
            refine block_k fun B96 bn96 bx96 br96 bi96 => ?_
            refine rounds_k 5 ?_
            refine rnd_k fun N98 M98 hN98 hM98 => ?_
            refine seq_k fun N99 M99 hN99 hM99 => ?_
            refine region_k fun K100 hK100 => ?_
            simp only [go_sem, hc, hcar]
            all_goals repeat' (first | apply And.intro | intro _)
            all_goals
             refine hK100 _ ?_
             refine hN99 _ ?_
             refine seq_k fun N101 M101 hN101 hM101 => ?_
             refine cond_k rfl (fun hc => ?_) (fun hc => ?_)
             · try simp only [go_sem, hc, hcar] at hc
               all_goals
                refine skip_k ?_
                refine hN101 _ ?_
                refine seq_k fun N102 M102 hN102 hM102 => ?_
                refine block_k fun B103 bn103 bx103 br103 bi103 => ?_
                refine seq_k fun N104 M104 hN104 hM104 => ?_
                refine region_k fun K105 hK105 => ?_
                simp only [go_sem, hc, hcar]
                all_goals repeat' (first | apply And.intro | intro _)
                all_goals
                 refine hK105 _ ?_
                 refine hN104 _ ?_
                 refine seq_k fun N106 M106 hN106 hM106 => ?_
                 refine draw_k [39, 40, 41, 42, 43, 44, 45, 46, 47, 48] [0, 1, 3, 7, 0, 16, 48, 112, 255, 511, 1023] [] mixed (by kernel_rfl) (by simp only [go_sem]) fun K107 hK107 => ?_
                 simp only [go_sem, hc, hcar]
                 all_goals repeat' (first | apply And.intro | intro _)
                 all_goals
                  refine hK107 _ _ ?_ ?_
                  · first | trivial | (simp only [go_sem]; done) | (simp only [go_sem]; simp; done) | (simp only [go_sem]; simp; simp only [go_sem])
                  refine hN106 _ ?_
                  refine region_k fun K108 hK108 => ?_
                  simp only [go_sem, hc, hcar]
                  all_goals repeat' (first | apply And.intro | intro _)
                  all_goals
                   refine hK108 _ ?_
                   refine bn103 _ ?_
                   refine hN102 _ ?_
                   refine region_k fun K109 hK109 => ?_
                   simp only [go_sem, hc, hcar]
                   all_goals repeat' (first | apply And.intro | intro _)
                   all_goals
                    refine hK109 _ ?_
                    refine hN98 _ ?_
                    refine rnd_forget [6, 37, 38, 39, 40, 41, 42, 43, 44, 45, 46, 47, 48, 49, 50, 51, 52, 53, 54] ?_
                    simp only [go_sem, St.forget, fgt]
                    refine rnd_k fun N110 M110 hN110 hM110 => ?_
                    refine seq_k fun N111 M111 hN111 hM111 => ?_
                    refine region_k fun K112 hK112 => ?_
                    simp only [go_sem, hc, hcar]
                    all_goals repeat' (first | apply And.intro | intro _)
                    all_goals
                     refine hK112 _ ?_
                     refine hN111 _ ?_
                     refine seq_k fun N113 M113 hN113 hM113 => ?_
                     refine cond_k rfl (fun hc => ?_) (fun hc => ?_)
                     · try simp only [go_sem, hc, hcar] at hc
                       all_goals
                        refine skip_k ?_
                        refine hN113 _ ?_
                        refine seq_k fun N114 M114 hN114 hM114 => ?_
                        refine block_k fun B115 bn115 bx115 br115 bi115 => ?_
                        refine seq_k fun N116 M116 hN116 hM116 => ?_
                        refine region_k fun K117 hK117 => ?_
                        simp only [go_sem, hc, hcar]
                        all_goals repeat' (first | apply And.intro | intro _)
                        all_goals
                         refine hK117 _ ?_
                         refine hN116 _ ?_
                         refine seq_k fun N118 M118 hN118 hM118 => ?_
                         refine draw_k [39, 40, 41, 42, 43, 44, 45, 46, 47, 48] [0, 1, 3, 7, 0, 16, 48, 112, 255, 511, 1023] [] mixed (by kernel_rfl) (by simp only [go_sem]) fun K119 hK119 => ?_
                         simp only [go_sem, hc, hcar]
                         all_goals repeat' (first | apply And.intro | intro _)
                         all_goals
                          refine hK119 _ _ ?_ ?_
                          · first | trivial | (simp only [go_sem]; done) | (simp only [go_sem]; simp; done) | (simp only [go_sem]; simp; simp only [go_sem])
                          refine hN118 _ ?_
                          refine region_k fun K120 hK120 => ?_
                          simp only [go_sem, hc, hcar]
                          all_goals repeat' (first | apply And.intro | intro _)
                          all_goals
                           refine hK120 _ ?_
                           refine bn115 _ ?_
                           refine hN114 _ ?_
                           refine region_k fun K121 hK121 => ?_
                           simp only [go_sem, hc, hcar]
                           all_goals repeat' (first | apply And.intro | intro _)
                           all_goals
                            refine hK121 _ ?_
                            refine hN110 _ ?_
                            refine rnd_forget [6, 37, 38, 39, 40, 41, 42, 43, 44, 45, 46, 47, 48, 49, 50, 51, 52, 53, 54] ?_
                            simp only [go_sem, St.forget, fgt]
                            refine rnd_k fun N122 M122 hN122 hM122 => ?_
                            refine seq_k fun N123 M123 hN123 hM123 => ?_
                            refine region_k fun K124 hK124 => ?_
                            simp only [go_sem, hc, hcar]
                            all_goals repeat' (first | apply And.intro | intro _)
                            all_goals
                             refine hK124 _ ?_
                             refine hN123 _ ?_
                             refine seq_k fun N125 M125 hN125 hM125 => ?_
                             refine cond_k rfl (fun hc => ?_) (fun hc => ?_)
                             · try simp only [go_sem, hc, hcar] at hc
                               all_goals
                                refine skip_k ?_
                                refine hN125 _ ?_
                                refine seq_k fun N126 M126 hN126 hM126 => ?_
                                refine block_k fun B127 bn127 bx127 br127 bi127 => ?_
                                refine seq_k fun N128 M128 hN128 hM128 => ?_
                                refine region_k fun K129 hK129 => ?_
                                simp only [go_sem, hc, hcar]
                                all_goals repeat' (first | apply And.intro | intro _)
                                all_goals
                                 refine hK129 _ ?_
                                 refine hN128 _ ?_
                                 refine seq_k fun N130 M130 hN130 hM130 => ?_
                                 refine draw_k [39, 40, 41, 42, 43, 44, 45, 46, 47, 48] [0, 1, 3, 7, 0, 16, 48, 112, 255, 511, 1023] [] mixed (by kernel_rfl) (by simp only [go_sem]) fun K131 hK131 => ?_
                                 simp only [go_sem, hc, hcar]
                                 all_goals repeat' (first | apply And.intro | intro _)
                                 all_goals
                                  refine hK131 _ _ ?_ ?_
                                  · first | trivial | (simp only [go_sem]; done) | (simp only [go_sem]; simp; done) | (simp only [go_sem]; simp; simp only [go_sem])
                                  refine hN130 _ ?_
                                  refine region_k fun K132 hK132 => ?_
                                  simp only [go_sem, hc, hcar]
                                  all_goals repeat' (first | apply And.intro | intro _)
                                  all_goals
                                   refine hK132 _ ?_
                                   refine bn127 _ ?_
                                   refine hN126 _ ?_
                                   refine region_k fun K133 hK133 => ?_
                                   simp only [go_sem, hc, hcar]
                                   all_goals repeat' (first | apply And.intro | intro _)
                                   all_goals
                                    refine hK133 _ ?_
                                    refine hN122 _ ?_
                                    refine rnd_forget [6, 37, 38, 39, 40, 41, 42, 43, 44, 45, 46, 47, 48, 49, 50, 51, 52, 53, 54] ?_
                                    simp only [go_sem, St.forget, fgt]
                                    refine rnd_k fun N134 M134 hN134 hM134 => ?_
                                    refine seq_k fun N135 M135 hN135 hM135 => ?_
                                    refine region_k fun K136 hK136 => ?_
                                    simp only [go_sem, hc, hcar]
                                    all_goals repeat' (first | apply And.intro | intro _)
                                    all_goals
                                     refine hK136 _ ?_
                                     refine hN135 _ ?_
                                     refine seq_k fun N137 M137 hN137 hM137 => ?_
                                     refine cond_k rfl (fun hc => ?_) (fun hc => ?_)
                                     · try simp only [go_sem, hc, hcar] at hc
                                       all_goals
                                        refine skip_k ?_
                                        refine hN137 _ ?_
                                        refine seq_k fun N138 M138 hN138 hM138 => ?_
                                        refine block_k fun B139 bn139 bx139 br139 bi139 => ?_
                                        refine seq_k fun N140 M140 hN140 hM140 => ?_
                                        refine region_k fun K141 hK141 => ?_
                                        simp only [go_sem, hc, hcar]
                                        all_goals repeat' (first | apply And.intro | intro _)
                                        all_goals
                                         refine hK141 _ ?_
                                         refine hN140 _ ?_
                                         refine seq_k fun N142 M142 hN142 hM142 => ?_
                                         refine draw_k [39, 40, 41, 42, 43, 44, 45, 46, 47, 48] [0, 1, 3, 7, 0, 16, 48, 112, 255, 511, 1023] [] mixed (by kernel_rfl) (by simp only [go_sem]) fun K143 hK143 => ?_
                                         simp only [go_sem, hc, hcar]
                                         all_goals repeat' (first | apply And.intro | intro _)
                                         all_goals
                                          refine hK143 _ _ ?_ ?_
                                          · first | trivial | (simp only [go_sem]; done) | (simp only [go_sem]; simp; done) | (simp only [go_sem]; simp; simp only [go_sem])
                                          refine hN142 _ ?_
                                          refine region_k fun K144 hK144 => ?_
                                          simp only [go_sem, hc, hcar]
                                          all_goals repeat' (first | apply And.intro | intro _)
                                          all_goals
                                           refine hK144 _ ?_
                                           refine bn139 _ ?_
                                           refine hN138 _ ?_
                                           refine region_k fun K145 hK145 => ?_
                                           simp only [go_sem, hc, hcar]
                                           all_goals repeat' (first | apply And.intro | intro _)
                                           all_goals
                                            refine hK145 _ ?_
                                            refine hN134 _ ?_
                                            refine rnd_forget [6, 37, 38, 39, 40, 41, 42, 43, 44, 45, 46, 47, 48, 49, 50, 51, 52, 53, 54] ?_
                                            simp only [go_sem, St.forget, fgt]
                                            refine rnd_k fun N146 M146 hN146 hM146 => ?_
                                            refine seq_k fun N147 M147 hN147 hM147 => ?_
                                            refine region_k fun K148 hK148 => ?_
                                            simp only [go_sem, hc, hcar]
                                            all_goals repeat' (first | apply And.intro | intro _)
                                            all_goals
                                             refine hK148 _ ?_
                                             refine hN147 _ ?_
                                             refine seq_k fun N149 M149 hN149 hM149 => ?_
                                             refine cond_k rfl (fun hc => ?_) (fun hc => ?_)
                                             · exfalso; revert hc; simp
                                             · try simp only [go_sem, hc, hcar] at hc
                                               all_goals
                                                refine exit_k ?_
                                                refine hM149 _ _ ?_
                                                refine hM146 _ _ ?_
                                                refine bx96 _ ?_
                                                refine hN93 _ ?_
                                                refine seq_k fun N150 M150 hN150 hM150 => ?_
                                                refine seq_k fun N151 M151 hN151 hM151 => ?_
                                                refine region_k fun K152 hK152 => ?_
                                                simp only [go_sem, hc, hcar]
                                                all_goals repeat' (first | apply And.intro | intro _)
                                                all_goals
                                                 refine hK152 _ ?_
                                                 refine hN151 _ ?_
                                                 refine cond_k rfl (fun hc => ?_) (fun hc => ?_)
                                                 · try simp only [go_sem, hc, hcar] at hc
                                                   all_goals
                                                    refine seq_k fun N153 M153 hN153 hM153 => ?_
                                                    refine region_k fun K154 hK154 => ?_
                                                    simp only [go_sem, hc, hcar]
                                                    all_goals repeat' (first | apply And.intro | intro _)
                                                    all_goals
                                                     refine hK154 _ ?_
                                                     refine hN153 _ ?_
                                                     refine seq_k fun N155 M155 hN155 hM155 => ?_
                                                     refine region_k fun K156 hK156 => ?_
                                                     simp only [go_sem, hc, hcar]
                                                     all_goals repeat' (first | apply And.intro | intro _)
                                                     all_goals
                                                      refine hK156 _ ?_
                                                      refine hN155 _ ?_
                                                      refine ret_k ?_
                                                      refine hM150 _ _ ?_
                                                      simp only [go_sem, hc, hcar]
                                                      all_goals (rw [hcc]; rfl)
                                                 · exfalso; revert hc; simp [go_sem, decide_true, decide_false, hc, hcar]
                                     · exfalso; revert hc; simp
                             · exfalso; revert hc; simp
                     · exfalso; revert hc; simp
             · exfalso; revert hc; simp
   · have hc : ¬ ((j : Nat) : Int) < 3 := by omega
     have hj3 : j = 3 := by omega
     subst hj3
     obtain ⟨qa, qb, qc, qd, qe⟩ := q
     have hcc : P5.carried ⟨a, b, c, d, e⟩ = P5.car ⟨qa, qb, qc, qd, qe⟩ := by rw [← hq]; rfl
     rw [P5.car, if_neg hcar] at hcc
     simp only [P5.f1, P5.f2, P5.f3, P5.f4, P5.f5, sh26, mk26] at hcar hcc
     simp only [hq, P5.ls]
     refine seq_k fun N157 M157 hN157 hM157 => ?_
     refine region_k fun K158 hK158 => ?_
     simp only [go_sem, hc, hcar]
     all_goals repeat' (first | apply And.intro | intro _)
     all_goals
      refine hK158 _ ?_
      refine hN157 _ ?_
      refine seq_k fun N159 M159 hN159 hM159 => ?_
      refine cond_k rfl (fun hc => ?_) (fun hc => ?_)
      · exfalso; revert hc; simp [go_sem, decide_true, decide_false, hc, hcar]
      · try simp only [go_sem, hc, hcar] at hc
        all_goals
         refine exit_k ?_
         refine hM159 _ _ ?_
         refine hM7 _ _ ?_
         refine bx6 _ ?_
         refine hN3 _ ?_
         refine seq_k fun N160 M160 hN160 hM160 => ?_
         refine region_k fun K161 hK161 => ?_
         simp only [go_sem, hc, hcar]
         all_goals repeat' (first | apply And.intro | intro _)
         all_goals
          refine hK161 _ ?_
          refine hN160 _ ?_
          refine seq_k fun N162 M162 hN162 hM162 => ?_
          refine region_k fun K163 hK163 => ?_
          simp only [go_sem, hc, hcar]
          all_goals repeat' (first | apply And.intro | intro _)
          all_goals
           refine hK163 _ ?_
           refine hN162 _ ?_
           refine seq_k fun N164 M164 hN164 hM164 => ?_
           refine seq_k fun N165 M165 hN165 hM165 => ?_
           refine region_k fun K166 hK166 => ?_
           simp only [go_sem, hc, hcar]
           all_goals repeat' (first | apply And.intro | intro _)
           all_goals
            refine hK166 _ ?_
            refine hN165 _ ?_
            refine block_k fun B167 bn167 bx167 br167 bi167 => ?_
            refine rounds_k 5 ?_
            refine rnd_k fun N169 M169 hN169 hM169 => ?_
            refine seq_k fun N170 M170 hN170 hM170 => ?_
            refine region_k fun K171 hK171 => ?_
            simp only [go_sem, hc, hcar]
            all_goals repeat' (first | apply And.intro | intro _)
            all_goals
             refine hK171 _ ?_
             refine hN170 _ ?_
             refine seq_k fun N172 M172 hN172 hM172 => ?_
             refine cond_k rfl (fun hc => ?_) (fun hc => ?_)
             · try simp only [go_sem, hc, hcar] at hc
               all_goals
                refine skip_k ?_
                refine hN172 _ ?_
                refine seq_k fun N173 M173 hN173 hM173 => ?_
                refine block_k fun B174 bn174 bx174 br174 bi174 => ?_
                refine seq_k fun N175 M175 hN175 hM175 => ?_
                refine region_k fun K176 hK176 => ?_
                simp only [go_sem, hc, hcar]
                all_goals repeat' (first | apply And.intro | intro _)
                all_goals
                 refine hK176 _ ?_
                 refine hN175 _ ?_
                 refine seq_k fun N177 M177 hN177 hM177 => ?_
                 refine draw_k [39, 40, 41, 42, 43, 44, 45, 46, 47, 48] [0, 1, 3, 7, 0, 16, 48, 112, 255, 511, 1023] [] mixed (by kernel_rfl) (by simp only [go_sem]) fun K178 hK178 => ?_
                 simp only [go_sem, hc, hcar]
                 all_goals repeat' (first | apply And.intro | intro _)
                 all_goals
                  refine hK178 _ _ ?_ ?_
                  · first | trivial | (simp only [go_sem]; done) | (simp only [go_sem]; simp; done) | (simp only [go_sem]; simp; simp only [go_sem])
                  refine hN177 _ ?_
                  refine region_k fun K179 hK179 => ?_
                  simp only [go_sem, hc, hcar]
                  all_goals repeat' (first | apply And.intro | intro _)
                  all_goals
                   refine hK179 _ ?_
                   refine bn174 _ ?_
                   refine hN173 _ ?_
                   refine region_k fun K180 hK180 => ?_
                   simp only [go_sem, hc, hcar]
                   all_goals repeat' (first | apply And.intro | intro _)
                   all_goals
                    refine hK180 _ ?_
                    refine hN169 _ ?_
                    refine rnd_forget [6, 37, 38, 39, 40, 41, 42, 43, 44, 45, 46, 47, 48, 49, 50, 51, 52, 53, 54] ?_
                    simp only [go_sem, St.forget, fgt]
                    refine rnd_k fun N181 M181 hN181 hM181 => ?_
                    refine seq_k fun N182 M182 hN182 hM182 => ?_
                    refine region_k fun K183 hK183 => ?_
                    simp only [go_sem, hc, hcar]
                    all_goals repeat' (first | apply And.intro | intro _)
                    all_goals
                     refine hK183 _ ?_
                     refine hN182 _ ?_
                     refine seq_k fun N184 M184 hN184 hM184 => ?_
                     refine cond_k rfl (fun hc => ?_) (fun hc => ?_)
                     · try simp only [go_sem, hc, hcar] at hc
                       all_goals
                        refine skip_k ?_
                        refine hN184 _ ?_
                        refine seq_k fun N185 M185 hN185 hM185 => ?_
                        refine block_k fun B186 bn186 bx186 br186 bi186 => ?_
                        refine seq_k fun N187 M187 hN187 hM187 => ?_
                        refine region_k fun K188 hK188 => ?_
                        simp only [go_sem, hc, hcar]
                        all_goals repeat' (first | apply And.intro | intro _)
                        all_goals
                         refine hK188 _ ?_
                         refine hN187 _ ?_
                         refine seq_k fun N189 M189 hN189 hM189 => ?_
                         refine draw_k [39, 40, 41, 42, 43, 44, 45, 46, 47, 48] [0, 1, 3, 7, 0, 16, 48, 112, 255, 511, 1023] [] mixed (by kernel_rfl) (by simp only [go_sem]) fun K190 hK190 => ?_
                         simp only [go_sem, hc, hcar]
                         all_goals repeat' (first | apply And.intro | intro _)
                         all_goals
                          refine hK190 _ _ ?_ ?_
                          · first | trivial | (simp only [go_sem]; done) | (simp only [go_sem]; simp; done) | (simp only [go_sem]; simp; simp only [go_sem])
                          refine hN189 _ ?_
                          refine region_k fun K191 hK191 => ?_
                          simp only [go_sem, hc, hcar]
                          all_goals repeat' (first | apply And.intro | intro _)
                          all_goals
                           refine hK191 _ ?_
                           refine bn186 _ ?_
                           refine hN185 _ ?_
                           refine region_k fun K192 hK192 => ?_
                           simp only [go_sem, hc, hcar]
                           all_goals repeat' (first | apply And.intro | intro _)
                           all_goals
                            refine hK192 _ ?_
                            refine hN181 _ ?_
                            refine rnd_forget [6, 37, 38, 39, 40, 41, 42, 43, 44, 45, 46, 47, 48, 49, 50, 51, 52, 53, 54] ?_
                            simp only [go_sem, St.forget, fgt]
                            refine rnd_k fun N193 M193 hN193 hM193 => ?_
                            refine seq_k fun N194 M194 hN194 hM194 => ?_
                            refine region_k fun K195 hK195 => ?_
                            simp only [go_sem, hc, hcar]
                            all_goals repeat' (first | apply And.intro | intro _)
                            all_goals
                             refine hK195 _ ?_
                             refine hN194 _ ?_
                             refine seq_k fun N196 M196 hN196 hM196 => ?_
                             refine cond_k rfl (fun hc => ?_) (fun hc => ?_)
                             · try simp only [go_sem, hc, hcar] at hc
                               all_goals
                                refine skip_k ?_
                                refine hN196 _ ?_
                                refine seq_k fun N197 M197 hN197 hM197 => ?_
                                refine block_k fun B198 bn198 bx198 br198 bi198 => ?_
                                refine seq_k fun N199 M199 hN199 hM199 => ?_
                                refine region_k fun K200 hK200 => ?_
                                simp only [go_sem, hc, hcar]
                                all_goals repeat' (first | apply And.intro | intro _)
                                all_goals
                                 refine hK200 _ ?_
                                 refine hN199 _ ?_
                                 refine seq_k fun N201 M201 hN201 hM201 => ?_
                                 refine draw_k [39, 40, 41, 42, 43, 44, 45, 46, 47, 48] [0, 1, 3, 7, 0, 16, 48, 112, 255, 511, 1023] [] mixed (by kernel_rfl) (by simp only [go_sem]) fun K202 hK202 => ?_
                                 simp only [go_sem, hc, hcar]
                                 all_goals repeat' (first | apply And.intro | intro _)
                                 all_goals
                                  refine hK202 _ _ ?_ ?_
                                  · first | trivial | (simp only [go_sem]; done) | (simp only [go_sem]; simp; done) | (simp only [go_sem]; simp; simp only [go_sem])
                                  refine hN201 _ ?_
                                  refine region_k fun K203 hK203 => ?_
                                  simp only [go_sem, hc, hcar]
                                  all_goals repeat' (first | apply And.intro | intro _)
                                  all_goals
                                   refine hK203 _ ?_
                                   refine bn198 _ ?_
                                   refine hN197 _ ?_
                                   refine region_k fun K204 hK204 => ?_
                                   simp only [go_sem, hc, hcar]
                                   all_goals repeat' (first | apply And.intro | intro _)
                                   all_goals
                                    refine hK204 _ ?_
                                    refine hN193 _ ?_
                                    refine rnd_forget [6, 37, 38, 39, 40, 41, 42, 43, 44, 45, 46, 47, 48, 49, 50, 51, 52, 53, 54] ?_
                                    simp only [go_sem, St.forget, fgt]
                                    refine rnd_k fun N205 M205 hN205 hM205 => ?_
                                    refine seq_k fun N206 M206 hN206 hM206 => ?_
                                    refine region_k fun K207 hK207 => ?_
                                    simp only [go_sem, hc, hcar]
                                    all_goals repeat' (first | apply And.intro | intro _)
                                    all_goals
                                     refine hK207 _ ?_
                                     refine hN206 _ ?_
                                     refine seq_k fun N208 M208 hN208 hM208 => ?_
                                     refine cond_k rfl (fun hc => ?_) (fun hc => ?_)
                                     · try simp only [go_sem, hc, hcar] at hc
                                       all_goals
                                        refine skip_k ?_
                                        refine hN208 _ ?_
                                        refine seq_k fun N209 M209 hN209 hM209 => ?_
                                        refine block_k fun B210 bn210 bx210 br210 bi210 => ?_
                                        refine seq_k fun N211 M211 hN211 hM211 => ?_
                                        refine region_k fun K212 hK212 => ?_
                                        simp only [go_sem, hc, hcar]
                                        all_goals repeat' (first | apply And.intro | intro _)
                                        all_goals
                                         refine hK212 _ ?_
                                         refine hN211 _ ?_
                                         refine seq_k fun N213 M213 hN213 hM213 => ?_
                                         refine draw_k [39, 40, 41, 42, 43, 44, 45, 46, 47, 48] [0, 1, 3, 7, 0, 16, 48, 112, 255, 511, 1023] [] mixed (by kernel_rfl) (by simp only [go_sem]) fun K214 hK214 => ?_
                                         simp only [go_sem, hc, hcar]
                                         all_goals repeat' (first | apply And.intro | intro _)
                                         all_goals
                                          refine hK214 _ _ ?_ ?_
                                          · first | trivial | (simp only [go_sem]; done) | (simp only [go_sem]; simp; done) | (simp only [go_sem]; simp; simp only [go_sem])
                                          refine hN213 _ ?_
                                          refine region_k fun K215 hK215 => ?_
                                          simp only [go_sem, hc, hcar]
                                          all_goals repeat' (first | apply And.intro | intro _)
                                          all_goals
                                           refine hK215 _ ?_
                                           refine bn210 _ ?_
                                           refine hN209 _ ?_
                                           refine region_k fun K216 hK216 => ?_
                                           simp only [go_sem, hc, hcar]
                                           all_goals repeat' (first | apply And.intro | intro _)
                                           all_goals
                                            refine hK216 _ ?_
                                            refine hN205 _ ?_
                                            refine rnd_forget [6, 37, 38, 39, 40, 41, 42, 43, 44, 45, 46, 47, 48, 49, 50, 51, 52, 53, 54] ?_
                                            simp only [go_sem, St.forget, fgt]
                                            refine rnd_k fun N217 M217 hN217 hM217 => ?_
                                            refine seq_k fun N218 M218 hN218 hM218 => ?_
                                            refine region_k fun K219 hK219 => ?_
                                            simp only [go_sem, hc, hcar]
                                            all_goals repeat' (first | apply And.intro | intro _)
                                            all_goals
                                             refine hK219 _ ?_
                                             refine hN218 _ ?_
                                             refine seq_k fun N220 M220 hN220 hM220 => ?_
                                             refine cond_k rfl (fun hc => ?_) (fun hc => ?_)
                                             · exfalso; revert hc; simp
                                             · try simp only [go_sem, hc, hcar] at hc
                                               all_goals
                                                refine exit_k ?_
                                                refine hM220 _ _ ?_
                                                refine hM217 _ _ ?_
                                                refine bx167 _ ?_
                                                refine hN164 _ ?_
                                                refine seq_k fun N221 M221 hN221 hM221 => ?_
                                                refine seq_k fun N222 M222 hN222 hM222 => ?_
                                                refine region_k fun K223 hK223 => ?_
                                                simp only [go_sem, hc, hcar]
                                                all_goals repeat' (first | apply And.intro | intro _)
                                                all_goals
                                                 refine hK223 _ ?_
                                                 refine hN222 _ ?_
                                                 refine cond_k rfl (fun hc => ?_) (fun hc => ?_)
                                                 · exfalso; revert hc; simp [go_sem, decide_true, decide_false, hc, hcar]
                                                 · try simp only [go_sem, hc, hcar] at hc
                                                   all_goals
                                                    refine skip_k ?_
                                                    refine hN221 _ ?_
                                                    refine seq_k fun N224 M224 hN224 hM224 => ?_
                                                    refine region_k fun K225 hK225 => ?_
                                                    simp only [go_sem, hc, hcar]
                                                    all_goals repeat' (first | apply And.intro | intro _)
                                                    all_goals
                                                     refine hK225 _ ?_
                                                     refine hN224 _ ?_
                                                     refine ret_k ?_
                                                     simp only [go_sem, hc, hcar]
                                                     all_goals (rw [hcc]; rfl)
                                     · exfalso; revert hc; simp
                             · exfalso; revert hc; simp
                     · exfalso; revert hc; simp
             · exfalso; revert hc; simp
end Go.Sy
