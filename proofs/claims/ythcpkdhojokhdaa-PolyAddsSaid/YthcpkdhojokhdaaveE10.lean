/- Walks: three words by two, below the prime. -/
import Derived.Test.YthcpkdhojokhdaaveE9
set_option linter.unusedVariables false
set_option linter.unusedSimpArgs false
namespace Go.Sy
open Go.Proofs
attribute [local irreducible] atCall HT runOps runD onC onE onO onG goV goA goS onSt onGuard
theorem st_L (x y w k : UInt64) : adS (adS (x * y) w 0) k 0 = stL x y w k := rfl
theorem st_K (x y w k : UInt64) : mulH x y + adC (x * y) w 0 + adC (adS (x * y) w 0) k 0 = stK x y w k := rfl
def lowN (a : T3) (r0 r1 : UInt64) : Nat → T3
 | 0 => lowT a r0 r1
 | k + 1 => (lowN a r0 r1 k).plus (highT a r0 r1)
theorem lowN5 (a : T3) (r0 r1 : UInt64) : lowN a r0 r1 5 = low5 a r0 r1 := rfl
def cutN (t : T3) : Nat → T3
 | 0 => t
 | _ + 1 => cut3 t
set_option maxHeartbeats 3200000 in
set_option maxRecDepth 100000 in
theorem times_ (a : T3) (r0 r1 : UInt64) (ha : a.val < 2722258935367507707706996859454145691648) (hr : r1.toNat < 1152921504606846976) :
 Ct Try.prog 61 [.w (.agg (W3 a.a a.b a.c)), .w (.agg [.pl (.u64 r0), .pl (.u64 r1)])] (fun v m => v = .w (.agg (W3 (timesT a r0 r1).a (timesT a r0 r1).b (timesT a r0 r1).c))) := by
 have f0 : stK a.a r0 0 0 = k00 a r0 r1 := rfl
 have f1 : stL a.a r0 0 0 = q0 a r0 r1 := rfl
 have f2 : stK a.a r1 0 (k00 a r0 r1) = k01 a r0 r1 := rfl
 have f3 : stL a.a r1 0 (k00 a r0 r1) = w01 a r0 r1 := rfl
 have f4 : stL a.b r0 (w01 a r0 r1) 0 = q1 a r0 r1 := rfl
 have f5 : stK a.b r0 (w01 a r0 r1) 0 = k10 a r0 r1 := rfl
 have f6 : stL a.b r1 (k01 a r0 r1) (k10 a r0 r1) = w12 a r0 r1 := rfl
 have f7 : stK a.b r1 (k01 a r0 r1) (k10 a r0 r1) = k11 a r0 r1 := rfl
 have f8 : stL a.c r0 (w12 a r0 r1) 0 = q2 a r0 r1 := rfl
 have f9 : stK a.c r0 (w12 a r0 r1) 0 = k20 a r0 r1 := rfl
 have f10 : stL a.c r1 (k11 a r0 r1) (k20 a r0 r1) = q3 a r0 r1 := rfl
 have f11 : stK a.c r1 (k11 a r0 r1) (k20 a r0 r1) = q4 a r0 r1 := rfl
 refine Ct.k Try.func61 rfl Try.ntmps61 (congrArg Array.toList Try.results61) (by simp) fun w0 ro => ?_
 refine seq_k fun N1 M1 hN1 hM1 => ?_
 refine region_k fun K2 hK2 => ?_
 simp only [go_sem, st_L, st_K, f0, f1, f2, f3, f4, f5, f6, f7, f8, f9, f10, f11, W3, Int.toNat_one]
 all_goals repeat' (first | apply And.intro | intro _)
 all_goals
  refine hK2 _ ?_
  refine hN1 _ ?_
  refine seq_k fun N3 M3 hN3 hM3 => ?_
  refine region_k fun K4 hK4 => ?_
  simp only [go_sem, st_L, st_K, f0, f1, f2, f3, f4, f5, f6, f7, f8, f9, f10, f11, W3, Int.toNat_one]
  all_goals repeat' (first | apply And.intro | intro _)
  all_goals
   refine hK4 _ ?_
   refine hN3 _ ?_
   refine seq_k fun N5 M5 hN5 hM5 => ?_
   refine seq_k fun N6 M6 hN6 hM6 => ?_
   refine region_k fun K7 hK7 => ?_
   simp only [go_sem, st_L, st_K, f0, f1, f2, f3, f4, f5, f6, f7, f8, f9, f10, f11, W3, Int.toNat_one]
   all_goals repeat' (first | apply And.intro | intro _)
   all_goals
    refine hK7 _ ?_
    refine hN6 _ ?_
    refine block_k fun B8 bn8 bx8 br8 bi8 => ?_
    refine rounds_k 4 ?_
    refine rnd_k fun N10 M10 hN10 hM10 => ?_
    refine seq_k fun N11 M11 hN11 hM11 => ?_
    refine region_k fun K12 hK12 => ?_
    simp only [go_sem, st_L, st_K, f0, f1, f2, f3, f4, f5, f6, f7, f8, f9, f10, f11, W3, Int.toNat_one]
    all_goals repeat' (first | apply And.intro | intro _)
    all_goals
     refine hK12 _ ?_
     refine hN11 _ ?_
     refine seq_k fun N13 M13 hN13 hM13 => ?_
     refine cond_k rfl (fun hc => ?_) (fun hc => ?_)
     · try simp only [go_sem, st_L, st_K, f0, f1, f2, f3, f4, f5, f6, f7, f8, f9, f10, f11, W3, Int.toNat_one] at hc
       all_goals
        refine skip_k ?_
        refine hN13 _ ?_
        refine seq_k fun N14 M14 hN14 hM14 => ?_
        refine block_k fun B15 bn15 bx15 br15 bi15 => ?_
        refine seq_k fun N16 M16 hN16 hM16 => ?_
        refine region_k fun K17 hK17 => ?_
        simp only [go_sem, st_L, st_K, f0, f1, f2, f3, f4, f5, f6, f7, f8, f9, f10, f11, W3, Int.toNat_one]
        all_goals repeat' (first | apply And.intro | intro _)
        all_goals
         refine hK17 _ ?_
         refine hN16 _ ?_
         refine seq_k fun N18 M18 hN18 hM18 => ?_
         refine region_k fun K19 hK19 => ?_
         simp only [go_sem, st_L, st_K, f0, f1, f2, f3, f4, f5, f6, f7, f8, f9, f10, f11, W3, Int.toNat_one]
         all_goals repeat' (first | apply And.intro | intro _)
         all_goals
          refine hK19 _ ?_
          refine hN18 _ ?_
          refine seq_k fun N20 M20 hN20 hM20 => ?_
          refine seq_k fun N21 M21 hN21 hM21 => ?_
          refine region_k fun K22 hK22 => ?_
          simp only [go_sem, st_L, st_K, f0, f1, f2, f3, f4, f5, f6, f7, f8, f9, f10, f11, W3, Int.toNat_one]
          all_goals repeat' (first | apply And.intro | intro _)
          all_goals
           refine hK22 _ ?_
           refine hN21 _ ?_
           refine block_k fun B23 bn23 bx23 br23 bi23 => ?_
           refine rounds_k 3 ?_
           refine rnd_k fun N25 M25 hN25 hM25 => ?_
           refine seq_k fun N26 M26 hN26 hM26 => ?_
           refine region_k fun K27 hK27 => ?_
           simp only [go_sem, st_L, st_K, f0, f1, f2, f3, f4, f5, f6, f7, f8, f9, f10, f11, W3, Int.toNat_one]
           all_goals repeat' (first | apply And.intro | intro _)
           all_goals
            refine hK27 _ ?_
            refine hN26 _ ?_
            refine seq_k fun N28 M28 hN28 hM28 => ?_
            refine cond_k rfl (fun hc => ?_) (fun hc => ?_)
            · try simp only [go_sem, st_L, st_K, f0, f1, f2, f3, f4, f5, f6, f7, f8, f9, f10, f11, W3, Int.toNat_one] at hc
              all_goals
               refine skip_k ?_
               refine hN28 _ ?_
               refine seq_k fun N29 M29 hN29 hM29 => ?_
               refine block_k fun B30 bn30 bx30 br30 bi30 => ?_
               refine seq_k fun N31 M31 hN31 hM31 => ?_
               refine region_k fun K32 hK32 => ?_
               simp only [go_sem, st_L, st_K, f0, f1, f2, f3, f4, f5, f6, f7, f8, f9, f10, f11, W3, Int.toNat_one]
               all_goals repeat' (first | apply And.intro | intro _)
               all_goals
                refine hK32 _ ?_
                refine hN31 _ ?_
                refine seq_k fun N33 M33 hN33 hM33 => ?_
                refine region_k fun K34 hK34 => ?_
                simp only [go_sem, st_L, st_K, f0, f1, f2, f3, f4, f5, f6, f7, f8, f9, f10, f11, W3, Int.toNat_one]
                all_goals repeat' (first | apply And.intro | intro _)
                all_goals refine call_view (fun k => k) (fun _ _ => rfl) (by first | rfl | (simp only [go_sem, st_L, st_K, f0, f1, f2, f3, f4, f5, f6, f7, f8, f9, f10, f11, W3, Int.toNat_one]; rfl) | simp only [go_sem, st_L, st_K, f0, f1, f2, f3, f4, f5, f6, f7, f8, f9, f10, f11, W3, Int.toNat_one]) ((mul64 _ _).plain fun _ _ h => h) ?_
                all_goals (rintro v m ⟨hR, hm⟩; subst hR; subst hm)
                all_goals refine And.intro (by first | rfl | simp only [go_sem, st_L, st_K, f0, f1, f2, f3, f4, f5, f6, f7, f8, f9, f10, f11, W3, Int.toNat_one]) (And.intro (by first | rfl | simp only [go_sem, st_L, st_K, f0, f1, f2, f3, f4, f5, f6, f7, f8, f9, f10, f11, W3, Int.toNat_one]) ?_)
                all_goals simp only [go_sem, st_L, st_K, f0, f1, f2, f3, f4, f5, f6, f7, f8, f9, f10, f11, W3, Int.toNat_one]
                all_goals repeat' (first | apply And.intro | intro _)
                all_goals
                 refine hK34 _ ?_
                 refine hN33 _ ?_
                 refine seq_k fun N35 M35 hN35 hM35 => ?_
                 refine region_k fun K36 hK36 => ?_
                 simp only [go_sem, st_L, st_K, f0, f1, f2, f3, f4, f5, f6, f7, f8, f9, f10, f11, W3, Int.toNat_one]
                 all_goals repeat' (first | apply And.intro | intro _)
                 all_goals refine call_now (by first | rfl | (simp only [go_sem, st_L, st_K, f0, f1, f2, f3, f4, f5, f6, f7, f8, f9, f10, f11, W3, Int.toNat_one]; rfl) | simp only [go_sem, st_L, st_K, f0, f1, f2, f3, f4, f5, f6, f7, f8, f9, f10, f11, W3, Int.toNat_one]) (now_add64 _ _ _ (by first | decide | exact (ad_val _ _ (by decide)).2 | exact (ad_val _ _ ((ad_val _ _ (by decide)).2)).2)) ?_
                 all_goals simp only [go_sem, st_L, st_K, f0, f1, f2, f3, f4, f5, f6, f7, f8, f9, f10, f11, W3, Int.toNat_one]
                 all_goals repeat' (first | apply And.intro | intro _)
                 all_goals
                  refine hK36 _ ?_
                  refine hN35 _ ?_
                  refine seq_k fun N37 M37 hN37 hM37 => ?_
                  refine region_k fun K38 hK38 => ?_
                  simp only [go_sem, st_L, st_K, f0, f1, f2, f3, f4, f5, f6, f7, f8, f9, f10, f11, W3, Int.toNat_one]
                  all_goals repeat' (first | apply And.intro | intro _)
                  all_goals
                   refine hK38 _ ?_
                   refine hN37 _ ?_
                   refine seq_k fun N39 M39 hN39 hM39 => ?_
                   refine region_k fun K40 hK40 => ?_
                   simp only [go_sem, st_L, st_K, f0, f1, f2, f3, f4, f5, f6, f7, f8, f9, f10, f11, W3, Int.toNat_one]
                   all_goals repeat' (first | apply And.intro | intro _)
                   all_goals refine call_now (by first | rfl | (simp only [go_sem, st_L, st_K, f0, f1, f2, f3, f4, f5, f6, f7, f8, f9, f10, f11, W3, Int.toNat_one]; rfl) | simp only [go_sem, st_L, st_K, f0, f1, f2, f3, f4, f5, f6, f7, f8, f9, f10, f11, W3, Int.toNat_one]) (now_add64 _ _ _ (by first | decide | exact (ad_val _ _ (by decide)).2 | exact (ad_val _ _ ((ad_val _ _ (by decide)).2)).2)) ?_
                   all_goals simp only [go_sem, st_L, st_K, f0, f1, f2, f3, f4, f5, f6, f7, f8, f9, f10, f11, W3, Int.toNat_one]
                   all_goals repeat' (first | apply And.intro | intro _)
                   all_goals
                    refine hK40 _ ?_
                    refine hN39 _ ?_
                    refine region_k fun K41 hK41 => ?_
                    simp only [go_sem, st_L, st_K, f0, f1, f2, f3, f4, f5, f6, f7, f8, f9, f10, f11, W3, Int.toNat_one]
                    all_goals repeat' (first | apply And.intro | intro _)
                    all_goals
                     refine hK41 _ ?_
                     refine bn30 _ ?_
                     refine hN29 _ ?_
                     refine region_k fun K42 hK42 => ?_
                     simp only [go_sem, st_L, st_K, f0, f1, f2, f3, f4, f5, f6, f7, f8, f9, f10, f11, W3, Int.toNat_one]
                     all_goals repeat' (first | apply And.intro | intro _)
                     all_goals
                      refine hK42 _ ?_
                      refine hN25 _ ?_
                      refine rnd_forget [9, 10, 11, 12, 13, 25, 26, 27, 28, 29, 30, 31, 32, 33, 34, 35, 36, 37, 38, 39, 40, 41, 42, 43, 44, 45, 46, 47, 48, 49, 50, 51, 52, 53, 54, 55, 56, 57, 58, 59, 60, 61] ?_
                      simp only [go_sem, St.forget, fgt]
                      refine rnd_k fun N43 M43 hN43 hM43 => ?_
                      refine seq_k fun N44 M44 hN44 hM44 => ?_
                      refine region_k fun K45 hK45 => ?_
                      simp only [go_sem, st_L, st_K, f0, f1, f2, f3, f4, f5, f6, f7, f8, f9, f10, f11, W3, Int.toNat_one]
                      all_goals repeat' (first | apply And.intro | intro _)
                      all_goals
                       refine hK45 _ ?_
                       refine hN44 _ ?_
                       refine seq_k fun N46 M46 hN46 hM46 => ?_
                       refine cond_k rfl (fun hc => ?_) (fun hc => ?_)
                       · try simp only [go_sem, st_L, st_K, f0, f1, f2, f3, f4, f5, f6, f7, f8, f9, f10, f11, W3, Int.toNat_one] at hc
                         all_goals
                          refine skip_k ?_
                          refine hN46 _ ?_
                          refine seq_k fun N47 M47 hN47 hM47 => ?_
                          refine block_k fun B48 bn48 bx48 br48 bi48 => ?_
                          refine seq_k fun N49 M49 hN49 hM49 => ?_
                          refine region_k fun K50 hK50 => ?_
                          simp only [go_sem, st_L, st_K, f0, f1, f2, f3, f4, f5, f6, f7, f8, f9, f10, f11, W3, Int.toNat_one]
                          all_goals repeat' (first | apply And.intro | intro _)
                          all_goals
                           refine hK50 _ ?_
                           refine hN49 _ ?_
                           refine seq_k fun N51 M51 hN51 hM51 => ?_
                           refine region_k fun K52 hK52 => ?_
                           simp only [go_sem, st_L, st_K, f0, f1, f2, f3, f4, f5, f6, f7, f8, f9, f10, f11, W3, Int.toNat_one]
                           all_goals repeat' (first | apply And.intro | intro _)
                           all_goals refine call_view (fun k => k) (fun _ _ => rfl) (by first | rfl | (simp only [go_sem, st_L, st_K, f0, f1, f2, f3, f4, f5, f6, f7, f8, f9, f10, f11, W3, Int.toNat_one]; rfl) | simp only [go_sem, st_L, st_K, f0, f1, f2, f3, f4, f5, f6, f7, f8, f9, f10, f11, W3, Int.toNat_one]) ((mul64 _ _).plain fun _ _ h => h) ?_
                           all_goals (rintro v m ⟨hR, hm⟩; subst hR; subst hm)
                           all_goals refine And.intro (by first | rfl | simp only [go_sem, st_L, st_K, f0, f1, f2, f3, f4, f5, f6, f7, f8, f9, f10, f11, W3, Int.toNat_one]) (And.intro (by first | rfl | simp only [go_sem, st_L, st_K, f0, f1, f2, f3, f4, f5, f6, f7, f8, f9, f10, f11, W3, Int.toNat_one]) ?_)
                           all_goals simp only [go_sem, st_L, st_K, f0, f1, f2, f3, f4, f5, f6, f7, f8, f9, f10, f11, W3, Int.toNat_one]
                           all_goals repeat' (first | apply And.intro | intro _)
                           all_goals
                            refine hK52 _ ?_
                            refine hN51 _ ?_
                            refine seq_k fun N53 M53 hN53 hM53 => ?_
                            refine region_k fun K54 hK54 => ?_
                            simp only [go_sem, st_L, st_K, f0, f1, f2, f3, f4, f5, f6, f7, f8, f9, f10, f11, W3, Int.toNat_one]
                            all_goals repeat' (first | apply And.intro | intro _)
                            all_goals refine call_now (by first | rfl | (simp only [go_sem, st_L, st_K, f0, f1, f2, f3, f4, f5, f6, f7, f8, f9, f10, f11, W3, Int.toNat_one]; rfl) | simp only [go_sem, st_L, st_K, f0, f1, f2, f3, f4, f5, f6, f7, f8, f9, f10, f11, W3, Int.toNat_one]) (now_add64 _ _ _ (by first | decide | exact (ad_val _ _ (by decide)).2 | exact (ad_val _ _ ((ad_val _ _ (by decide)).2)).2)) ?_
                            all_goals simp only [go_sem, st_L, st_K, f0, f1, f2, f3, f4, f5, f6, f7, f8, f9, f10, f11, W3, Int.toNat_one]
                            all_goals repeat' (first | apply And.intro | intro _)
                            all_goals
                             refine hK54 _ ?_
                             refine hN53 _ ?_
                             refine seq_k fun N55 M55 hN55 hM55 => ?_
                             refine region_k fun K56 hK56 => ?_
                             simp only [go_sem, st_L, st_K, f0, f1, f2, f3, f4, f5, f6, f7, f8, f9, f10, f11, W3, Int.toNat_one]
                             all_goals repeat' (first | apply And.intro | intro _)
                             all_goals
                              refine hK56 _ ?_
                              refine hN55 _ ?_
                              refine seq_k fun N57 M57 hN57 hM57 => ?_
                              refine region_k fun K58 hK58 => ?_
                              simp only [go_sem, st_L, st_K, f0, f1, f2, f3, f4, f5, f6, f7, f8, f9, f10, f11, W3, Int.toNat_one]
                              all_goals repeat' (first | apply And.intro | intro _)
                              all_goals refine call_now (by first | rfl | (simp only [go_sem, st_L, st_K, f0, f1, f2, f3, f4, f5, f6, f7, f8, f9, f10, f11, W3, Int.toNat_one]; rfl) | simp only [go_sem, st_L, st_K, f0, f1, f2, f3, f4, f5, f6, f7, f8, f9, f10, f11, W3, Int.toNat_one]) (now_add64 _ _ _ (by first | decide | exact (ad_val _ _ (by decide)).2 | exact (ad_val _ _ ((ad_val _ _ (by decide)).2)).2)) ?_
                              all_goals simp only [go_sem, st_L, st_K, f0, f1, f2, f3, f4, f5, f6, f7, f8, f9, f10, f11, W3, Int.toNat_one]
                              all_goals repeat' (first | apply And.intro | intro _)
                              all_goals
                               refine hK58 _ ?_
                               refine hN57 _ ?_
                               refine region_k fun K59 hK59 => ?_
                               simp only [go_sem, st_L, st_K, f0, f1, f2, f3, f4, f5, f6, f7, f8, f9, f10, f11, W3, Int.toNat_one]
                               all_goals repeat' (first | apply And.intro | intro _)
                               all_goals
                                refine hK59 _ ?_
                                refine bn48 _ ?_
                                refine hN47 _ ?_
                                refine region_k fun K60 hK60 => ?_
                                simp only [go_sem, st_L, st_K, f0, f1, f2, f3, f4, f5, f6, f7, f8, f9, f10, f11, W3, Int.toNat_one]
                                all_goals repeat' (first | apply And.intro | intro _)
                                all_goals
                                 refine hK60 _ ?_
                                 refine hN43 _ ?_
                                 refine rnd_forget [9, 10, 11, 12, 13, 25, 26, 27, 28, 29, 30, 31, 32, 33, 34, 35, 36, 37, 38, 39, 40, 41, 42, 43, 44, 45, 46, 47, 48, 49, 50, 51, 52, 53, 54, 55, 56, 57, 58, 59, 60, 61] ?_
                                 simp only [go_sem, St.forget, fgt]
                                 refine rnd_k fun N61 M61 hN61 hM61 => ?_
                                 refine seq_k fun N62 M62 hN62 hM62 => ?_
                                 refine region_k fun K63 hK63 => ?_
                                 simp only [go_sem, st_L, st_K, f0, f1, f2, f3, f4, f5, f6, f7, f8, f9, f10, f11, W3, Int.toNat_one]
                                 all_goals repeat' (first | apply And.intro | intro _)
                                 all_goals
                                  refine hK63 _ ?_
                                  refine hN62 _ ?_
                                  refine seq_k fun N64 M64 hN64 hM64 => ?_
                                  refine cond_k rfl (fun hc => ?_) (fun hc => ?_)
                                  · exfalso; revert hc; simp
                                  · try simp only [go_sem, st_L, st_K, f0, f1, f2, f3, f4, f5, f6, f7, f8, f9, f10, f11, W3, Int.toNat_one] at hc
                                    all_goals
                                     refine exit_k ?_
                                     refine hM64 _ _ ?_
                                     refine hM61 _ _ ?_
                                     refine bx23 _ ?_
                                     refine hN20 _ ?_
                                     refine region_k fun K65 hK65 => ?_
                                     simp only [go_sem, st_L, st_K, f0, f1, f2, f3, f4, f5, f6, f7, f8, f9, f10, f11, W3, Int.toNat_one]
                                     all_goals repeat' (first | apply And.intro | intro _)
                                     all_goals
                                      refine hK65 _ ?_
                                      refine bn15 _ ?_
                                      refine hN14 _ ?_
                                      refine region_k fun K66 hK66 => ?_
                                      simp only [go_sem, st_L, st_K, f0, f1, f2, f3, f4, f5, f6, f7, f8, f9, f10, f11, W3, Int.toNat_one]
                                      all_goals repeat' (first | apply And.intro | intro _)
                                      all_goals
                                       refine hK66 _ ?_
                                       refine hN10 _ ?_
                                       refine rnd_forget [6, 7, 8, 9, 10, 11, 12, 13, 20, 21, 22, 23, 24, 25, 26, 27, 28, 29, 30, 31, 32, 33, 34, 35, 36, 37, 38, 39, 40, 41, 42, 43, 44, 45, 46, 47, 48, 49, 50, 51, 52, 53, 54, 55, 56, 57, 58, 59, 60, 61, 62, 63, 64, 65, 66] ?_
                                       simp only [go_sem, St.forget, fgt]
                                       refine rnd_k fun N67 M67 hN67 hM67 => ?_
                                       refine seq_k fun N68 M68 hN68 hM68 => ?_
                                       refine region_k fun K69 hK69 => ?_
                                       simp only [go_sem, st_L, st_K, f0, f1, f2, f3, f4, f5, f6, f7, f8, f9, f10, f11, W3, Int.toNat_one]
                                       all_goals repeat' (first | apply And.intro | intro _)
                                       all_goals
                                        refine hK69 _ ?_
                                        refine hN68 _ ?_
                                        refine seq_k fun N70 M70 hN70 hM70 => ?_
                                        refine cond_k rfl (fun hc => ?_) (fun hc => ?_)
                                        · try simp only [go_sem, st_L, st_K, f0, f1, f2, f3, f4, f5, f6, f7, f8, f9, f10, f11, W3, Int.toNat_one] at hc
                                          all_goals
                                           refine skip_k ?_
                                           refine hN70 _ ?_
                                           refine seq_k fun N71 M71 hN71 hM71 => ?_
                                           refine block_k fun B72 bn72 bx72 br72 bi72 => ?_
                                           refine seq_k fun N73 M73 hN73 hM73 => ?_
                                           refine region_k fun K74 hK74 => ?_
                                           simp only [go_sem, st_L, st_K, f0, f1, f2, f3, f4, f5, f6, f7, f8, f9, f10, f11, W3, Int.toNat_one]
                                           all_goals repeat' (first | apply And.intro | intro _)
                                           all_goals
                                            refine hK74 _ ?_
                                            refine hN73 _ ?_
                                            refine seq_k fun N75 M75 hN75 hM75 => ?_
                                            refine region_k fun K76 hK76 => ?_
                                            simp only [go_sem, st_L, st_K, f0, f1, f2, f3, f4, f5, f6, f7, f8, f9, f10, f11, W3, Int.toNat_one]
                                            all_goals repeat' (first | apply And.intro | intro _)
                                            all_goals
                                             refine hK76 _ ?_
                                             refine hN75 _ ?_
                                             refine seq_k fun N77 M77 hN77 hM77 => ?_
                                             refine seq_k fun N78 M78 hN78 hM78 => ?_
                                             refine region_k fun K79 hK79 => ?_
                                             simp only [go_sem, st_L, st_K, f0, f1, f2, f3, f4, f5, f6, f7, f8, f9, f10, f11, W3, Int.toNat_one]
                                             all_goals repeat' (first | apply And.intro | intro _)
                                             all_goals
                                              refine hK79 _ ?_
                                              refine hN78 _ ?_
                                              refine block_k fun B80 bn80 bx80 br80 bi80 => ?_
                                              refine rounds_k 3 ?_
                                              refine rnd_k fun N82 M82 hN82 hM82 => ?_
                                              refine seq_k fun N83 M83 hN83 hM83 => ?_
                                              refine region_k fun K84 hK84 => ?_
                                              simp only [go_sem, st_L, st_K, f0, f1, f2, f3, f4, f5, f6, f7, f8, f9, f10, f11, W3, Int.toNat_one]
                                              all_goals repeat' (first | apply And.intro | intro _)
                                              all_goals
                                               refine hK84 _ ?_
                                               refine hN83 _ ?_
                                               refine seq_k fun N85 M85 hN85 hM85 => ?_
                                               refine cond_k rfl (fun hc => ?_) (fun hc => ?_)
                                               · try simp only [go_sem, st_L, st_K, f0, f1, f2, f3, f4, f5, f6, f7, f8, f9, f10, f11, W3, Int.toNat_one] at hc
                                                 all_goals
                                                  refine skip_k ?_
                                                  refine hN85 _ ?_
                                                  refine seq_k fun N86 M86 hN86 hM86 => ?_
                                                  refine block_k fun B87 bn87 bx87 br87 bi87 => ?_
                                                  refine seq_k fun N88 M88 hN88 hM88 => ?_
                                                  refine region_k fun K89 hK89 => ?_
                                                  simp only [go_sem, st_L, st_K, f0, f1, f2, f3, f4, f5, f6, f7, f8, f9, f10, f11, W3, Int.toNat_one]
                                                  all_goals repeat' (first | apply And.intro | intro _)
                                                  all_goals
                                                   refine hK89 _ ?_
                                                   refine hN88 _ ?_
                                                   refine seq_k fun N90 M90 hN90 hM90 => ?_
                                                   refine region_k fun K91 hK91 => ?_
                                                   simp only [go_sem, st_L, st_K, f0, f1, f2, f3, f4, f5, f6, f7, f8, f9, f10, f11, W3, Int.toNat_one]
                                                   all_goals repeat' (first | apply And.intro | intro _)
                                                   all_goals refine call_view (fun k => k) (fun _ _ => rfl) (by first | rfl | (simp only [go_sem, st_L, st_K, f0, f1, f2, f3, f4, f5, f6, f7, f8, f9, f10, f11, W3, Int.toNat_one]; rfl) | simp only [go_sem, st_L, st_K, f0, f1, f2, f3, f4, f5, f6, f7, f8, f9, f10, f11, W3, Int.toNat_one]) ((mul64 _ _).plain fun _ _ h => h) ?_
                                                   all_goals (rintro v m ⟨hR, hm⟩; subst hR; subst hm)
                                                   all_goals refine And.intro (by first | rfl | simp only [go_sem, st_L, st_K, f0, f1, f2, f3, f4, f5, f6, f7, f8, f9, f10, f11, W3, Int.toNat_one]) (And.intro (by first | rfl | simp only [go_sem, st_L, st_K, f0, f1, f2, f3, f4, f5, f6, f7, f8, f9, f10, f11, W3, Int.toNat_one]) ?_)
                                                   all_goals simp only [go_sem, st_L, st_K, f0, f1, f2, f3, f4, f5, f6, f7, f8, f9, f10, f11, W3, Int.toNat_one]
                                                   all_goals repeat' (first | apply And.intro | intro _)
                                                   all_goals
                                                    refine hK91 _ ?_
                                                    refine hN90 _ ?_
                                                    refine seq_k fun N92 M92 hN92 hM92 => ?_
                                                    refine region_k fun K93 hK93 => ?_
                                                    simp only [go_sem, st_L, st_K, f0, f1, f2, f3, f4, f5, f6, f7, f8, f9, f10, f11, W3, Int.toNat_one]
                                                    all_goals repeat' (first | apply And.intro | intro _)
                                                    all_goals refine call_now (by first | rfl | (simp only [go_sem, st_L, st_K, f0, f1, f2, f3, f4, f5, f6, f7, f8, f9, f10, f11, W3, Int.toNat_one]; rfl) | simp only [go_sem, st_L, st_K, f0, f1, f2, f3, f4, f5, f6, f7, f8, f9, f10, f11, W3, Int.toNat_one]) (now_add64 _ _ _ (by first | decide | exact (ad_val _ _ (by decide)).2 | exact (ad_val _ _ ((ad_val _ _ (by decide)).2)).2)) ?_
                                                    all_goals simp only [go_sem, st_L, st_K, f0, f1, f2, f3, f4, f5, f6, f7, f8, f9, f10, f11, W3, Int.toNat_one]
                                                    all_goals repeat' (first | apply And.intro | intro _)
                                                    all_goals
                                                     refine hK93 _ ?_
                                                     refine hN92 _ ?_
                                                     refine seq_k fun N94 M94 hN94 hM94 => ?_
                                                     refine region_k fun K95 hK95 => ?_
                                                     simp only [go_sem, st_L, st_K, f0, f1, f2, f3, f4, f5, f6, f7, f8, f9, f10, f11, W3, Int.toNat_one]
                                                     all_goals repeat' (first | apply And.intro | intro _)
                                                     all_goals
                                                      refine hK95 _ ?_
                                                      refine hN94 _ ?_
                                                      refine seq_k fun N96 M96 hN96 hM96 => ?_
                                                      refine region_k fun K97 hK97 => ?_
                                                      simp only [go_sem, st_L, st_K, f0, f1, f2, f3, f4, f5, f6, f7, f8, f9, f10, f11, W3, Int.toNat_one]
                                                      all_goals repeat' (first | apply And.intro | intro _)
                                                      all_goals refine call_now (by first | rfl | (simp only [go_sem, st_L, st_K, f0, f1, f2, f3, f4, f5, f6, f7, f8, f9, f10, f11, W3, Int.toNat_one]; rfl) | simp only [go_sem, st_L, st_K, f0, f1, f2, f3, f4, f5, f6, f7, f8, f9, f10, f11, W3, Int.toNat_one]) (now_add64 _ _ _ (by first | decide | exact (ad_val _ _ (by decide)).2 | exact (ad_val _ _ ((ad_val _ _ (by decide)).2)).2)) ?_
                                                      all_goals simp only [go_sem, st_L, st_K, f0, f1, f2, f3, f4, f5, f6, f7, f8, f9, f10, f11, W3, Int.toNat_one]
                                                      all_goals repeat' (first | apply And.intro | intro _)
                                                      all_goals
                                                       refine hK97 _ ?_
                                                       refine hN96 _ ?_
                                                       refine region_k fun K98 hK98 => ?_
                                                       simp only [go_sem, st_L, st_K, f0, f1, f2, f3, f4, f5, f6, f7, f8, f9, f10, f11, W3, Int.toNat_one]
                                                       all_goals repeat' (first | apply And.intro | intro _)
                                                       all_goals
                                                        refine hK98 _ ?_
                                                        refine bn87 _ ?_
                                                        refine hN86 _ ?_
                                                        refine region_k fun K99 hK99 => ?_
                                                        simp only [go_sem, st_L, st_K, f0, f1, f2, f3, f4, f5, f6, f7, f8, f9, f10, f11, W3, Int.toNat_one]
                                                        all_goals repeat' (first | apply And.intro | intro _)
                                                        all_goals
                                                         refine hK99 _ ?_
                                                         refine hN82 _ ?_
                                                         refine rnd_forget [9, 10, 11, 12, 13, 25, 26, 27, 28, 29, 30, 31, 32, 33, 34, 35, 36, 37, 38, 39, 40, 41, 42, 43, 44, 45, 46, 47, 48, 49, 50, 51, 52, 53, 54, 55, 56, 57, 58, 59, 60, 61] ?_
                                                         simp only [go_sem, St.forget, fgt]
                                                         refine rnd_k fun N100 M100 hN100 hM100 => ?_
                                                         refine seq_k fun N101 M101 hN101 hM101 => ?_
                                                         refine region_k fun K102 hK102 => ?_
                                                         simp only [go_sem, st_L, st_K, f0, f1, f2, f3, f4, f5, f6, f7, f8, f9, f10, f11, W3, Int.toNat_one]
                                                         all_goals repeat' (first | apply And.intro | intro _)
                                                         all_goals
                                                          refine hK102 _ ?_
                                                          refine hN101 _ ?_
                                                          refine seq_k fun N103 M103 hN103 hM103 => ?_
                                                          refine cond_k rfl (fun hc => ?_) (fun hc => ?_)
                                                          · try simp only [go_sem, st_L, st_K, f0, f1, f2, f3, f4, f5, f6, f7, f8, f9, f10, f11, W3, Int.toNat_one] at hc
                                                            all_goals
                                                             refine skip_k ?_
                                                             refine hN103 _ ?_
                                                             refine seq_k fun N104 M104 hN104 hM104 => ?_
                                                             refine block_k fun B105 bn105 bx105 br105 bi105 => ?_
                                                             refine seq_k fun N106 M106 hN106 hM106 => ?_
                                                             refine region_k fun K107 hK107 => ?_
                                                             simp only [go_sem, st_L, st_K, f0, f1, f2, f3, f4, f5, f6, f7, f8, f9, f10, f11, W3, Int.toNat_one]
                                                             all_goals repeat' (first | apply And.intro | intro _)
                                                             all_goals
                                                              refine hK107 _ ?_
                                                              refine hN106 _ ?_
                                                              refine seq_k fun N108 M108 hN108 hM108 => ?_
                                                              refine region_k fun K109 hK109 => ?_
                                                              simp only [go_sem, st_L, st_K, f0, f1, f2, f3, f4, f5, f6, f7, f8, f9, f10, f11, W3, Int.toNat_one]
                                                              all_goals repeat' (first | apply And.intro | intro _)
                                                              all_goals refine call_view (fun k => k) (fun _ _ => rfl) (by first | rfl | (simp only [go_sem, st_L, st_K, f0, f1, f2, f3, f4, f5, f6, f7, f8, f9, f10, f11, W3, Int.toNat_one]; rfl) | simp only [go_sem, st_L, st_K, f0, f1, f2, f3, f4, f5, f6, f7, f8, f9, f10, f11, W3, Int.toNat_one]) ((mul64 _ _).plain fun _ _ h => h) ?_
                                                              all_goals (rintro v m ⟨hR, hm⟩; subst hR; subst hm)
                                                              all_goals refine And.intro (by first | rfl | simp only [go_sem, st_L, st_K, f0, f1, f2, f3, f4, f5, f6, f7, f8, f9, f10, f11, W3, Int.toNat_one]) (And.intro (by first | rfl | simp only [go_sem, st_L, st_K, f0, f1, f2, f3, f4, f5, f6, f7, f8, f9, f10, f11, W3, Int.toNat_one]) ?_)
                                                              all_goals simp only [go_sem, st_L, st_K, f0, f1, f2, f3, f4, f5, f6, f7, f8, f9, f10, f11, W3, Int.toNat_one]
                                                              all_goals repeat' (first | apply And.intro | intro _)
                                                              all_goals
                                                               refine hK109 _ ?_
                                                               refine hN108 _ ?_
                                                               refine seq_k fun N110 M110 hN110 hM110 => ?_
                                                               refine region_k fun K111 hK111 => ?_
                                                               simp only [go_sem, st_L, st_K, f0, f1, f2, f3, f4, f5, f6, f7, f8, f9, f10, f11, W3, Int.toNat_one]
                                                               all_goals repeat' (first | apply And.intro | intro _)
                                                               all_goals refine call_now (by first | rfl | (simp only [go_sem, st_L, st_K, f0, f1, f2, f3, f4, f5, f6, f7, f8, f9, f10, f11, W3, Int.toNat_one]; rfl) | simp only [go_sem, st_L, st_K, f0, f1, f2, f3, f4, f5, f6, f7, f8, f9, f10, f11, W3, Int.toNat_one]) (now_add64 _ _ _ (by first | decide | exact (ad_val _ _ (by decide)).2 | exact (ad_val _ _ ((ad_val _ _ (by decide)).2)).2)) ?_
                                                               all_goals simp only [go_sem, st_L, st_K, f0, f1, f2, f3, f4, f5, f6, f7, f8, f9, f10, f11, W3, Int.toNat_one]
                                                               all_goals repeat' (first | apply And.intro | intro _)
                                                               all_goals
                                                                refine hK111 _ ?_
                                                                refine hN110 _ ?_
                                                                refine seq_k fun N112 M112 hN112 hM112 => ?_
                                                                refine region_k fun K113 hK113 => ?_
                                                                simp only [go_sem, st_L, st_K, f0, f1, f2, f3, f4, f5, f6, f7, f8, f9, f10, f11, W3, Int.toNat_one]
                                                                all_goals repeat' (first | apply And.intro | intro _)
                                                                all_goals
                                                                 refine hK113 _ ?_
                                                                 refine hN112 _ ?_
                                                                 refine seq_k fun N114 M114 hN114 hM114 => ?_
                                                                 refine region_k fun K115 hK115 => ?_
                                                                 simp only [go_sem, st_L, st_K, f0, f1, f2, f3, f4, f5, f6, f7, f8, f9, f10, f11, W3, Int.toNat_one]
                                                                 all_goals repeat' (first | apply And.intro | intro _)
                                                                 all_goals refine call_now (by first | rfl | (simp only [go_sem, st_L, st_K, f0, f1, f2, f3, f4, f5, f6, f7, f8, f9, f10, f11, W3, Int.toNat_one]; rfl) | simp only [go_sem, st_L, st_K, f0, f1, f2, f3, f4, f5, f6, f7, f8, f9, f10, f11, W3, Int.toNat_one]) (now_add64 _ _ _ (by first | decide | exact (ad_val _ _ (by decide)).2 | exact (ad_val _ _ ((ad_val _ _ (by decide)).2)).2)) ?_
                                                                 all_goals simp only [go_sem, st_L, st_K, f0, f1, f2, f3, f4, f5, f6, f7, f8, f9, f10, f11, W3, Int.toNat_one]
                                                                 all_goals repeat' (first | apply And.intro | intro _)
                                                                 all_goals
                                                                  refine hK115 _ ?_
                                                                  refine hN114 _ ?_
                                                                  refine region_k fun K116 hK116 => ?_
                                                                  simp only [go_sem, st_L, st_K, f0, f1, f2, f3, f4, f5, f6, f7, f8, f9, f10, f11, W3, Int.toNat_one]
                                                                  all_goals repeat' (first | apply And.intro | intro _)
                                                                  all_goals
                                                                   refine hK116 _ ?_
                                                                   refine bn105 _ ?_
                                                                   refine hN104 _ ?_
                                                                   refine region_k fun K117 hK117 => ?_
                                                                   simp only [go_sem, st_L, st_K, f0, f1, f2, f3, f4, f5, f6, f7, f8, f9, f10, f11, W3, Int.toNat_one]
                                                                   all_goals repeat' (first | apply And.intro | intro _)
                                                                   all_goals
                                                                    refine hK117 _ ?_
                                                                    refine hN100 _ ?_
                                                                    refine rnd_forget [9, 10, 11, 12, 13, 25, 26, 27, 28, 29, 30, 31, 32, 33, 34, 35, 36, 37, 38, 39, 40, 41, 42, 43, 44, 45, 46, 47, 48, 49, 50, 51, 52, 53, 54, 55, 56, 57, 58, 59, 60, 61] ?_
                                                                    simp only [go_sem, St.forget, fgt]
                                                                    refine rnd_k fun N118 M118 hN118 hM118 => ?_
                                                                    refine seq_k fun N119 M119 hN119 hM119 => ?_
                                                                    refine region_k fun K120 hK120 => ?_
                                                                    simp only [go_sem, st_L, st_K, f0, f1, f2, f3, f4, f5, f6, f7, f8, f9, f10, f11, W3, Int.toNat_one]
                                                                    all_goals repeat' (first | apply And.intro | intro _)
                                                                    all_goals
                                                                     refine hK120 _ ?_
                                                                     refine hN119 _ ?_
                                                                     refine seq_k fun N121 M121 hN121 hM121 => ?_
                                                                     refine cond_k rfl (fun hc => ?_) (fun hc => ?_)
                                                                     · exfalso; revert hc; simp
                                                                     · try simp only [go_sem, st_L, st_K, f0, f1, f2, f3, f4, f5, f6, f7, f8, f9, f10, f11, W3, Int.toNat_one] at hc
                                                                       all_goals
                                                                        refine exit_k ?_
                                                                        refine hM121 _ _ ?_
                                                                        refine hM118 _ _ ?_
                                                                        refine bx80 _ ?_
                                                                        refine hN77 _ ?_
                                                                        refine region_k fun K122 hK122 => ?_
                                                                        simp only [go_sem, st_L, st_K, f0, f1, f2, f3, f4, f5, f6, f7, f8, f9, f10, f11, W3, Int.toNat_one]
                                                                        all_goals repeat' (first | apply And.intro | intro _)
                                                                        all_goals
                                                                         refine hK122 _ ?_
                                                                         refine bn72 _ ?_
                                                                         refine hN71 _ ?_
                                                                         refine region_k fun K123 hK123 => ?_
                                                                         simp only [go_sem, st_L, st_K, f0, f1, f2, f3, f4, f5, f6, f7, f8, f9, f10, f11, W3, Int.toNat_one]
                                                                         all_goals repeat' (first | apply And.intro | intro _)
                                                                         all_goals
                                                                          refine hK123 _ ?_
                                                                          refine hN67 _ ?_
                                                                          refine rnd_forget [6, 7, 8, 9, 10, 11, 12, 13, 20, 21, 22, 23, 24, 25, 26, 27, 28, 29, 30, 31, 32, 33, 34, 35, 36, 37, 38, 39, 40, 41, 42, 43, 44, 45, 46, 47, 48, 49, 50, 51, 52, 53, 54, 55, 56, 57, 58, 59, 60, 61, 62, 63, 64, 65, 66] ?_
                                                                          simp only [go_sem, St.forget, fgt]
                                                                          refine rnd_k fun N124 M124 hN124 hM124 => ?_
                                                                          refine seq_k fun N125 M125 hN125 hM125 => ?_
                                                                          refine region_k fun K126 hK126 => ?_
                                                                          simp only [go_sem, st_L, st_K, f0, f1, f2, f3, f4, f5, f6, f7, f8, f9, f10, f11, W3, Int.toNat_one]
                                                                          all_goals repeat' (first | apply And.intro | intro _)
                                                                          all_goals
                                                                           refine hK126 _ ?_
                                                                           refine hN125 _ ?_
                                                                           refine seq_k fun N127 M127 hN127 hM127 => ?_
                                                                           refine cond_k rfl (fun hc => ?_) (fun hc => ?_)
                                                                           · try simp only [go_sem, st_L, st_K, f0, f1, f2, f3, f4, f5, f6, f7, f8, f9, f10, f11, W3, Int.toNat_one] at hc
                                                                             all_goals
                                                                              refine skip_k ?_
                                                                              refine hN127 _ ?_
                                                                              refine seq_k fun N128 M128 hN128 hM128 => ?_
                                                                              refine block_k fun B129 bn129 bx129 br129 bi129 => ?_
                                                                              refine seq_k fun N130 M130 hN130 hM130 => ?_
                                                                              refine region_k fun K131 hK131 => ?_
                                                                              simp only [go_sem, st_L, st_K, f0, f1, f2, f3, f4, f5, f6, f7, f8, f9, f10, f11, W3, Int.toNat_one]
                                                                              all_goals repeat' (first | apply And.intro | intro _)
                                                                              all_goals
                                                                               refine hK131 _ ?_
                                                                               refine hN130 _ ?_
                                                                               refine seq_k fun N132 M132 hN132 hM132 => ?_
                                                                               refine region_k fun K133 hK133 => ?_
                                                                               simp only [go_sem, st_L, st_K, f0, f1, f2, f3, f4, f5, f6, f7, f8, f9, f10, f11, W3, Int.toNat_one]
                                                                               all_goals repeat' (first | apply And.intro | intro _)
                                                                               all_goals
                                                                                refine hK133 _ ?_
                                                                                refine hN132 _ ?_
                                                                                refine seq_k fun N134 M134 hN134 hM134 => ?_
                                                                                refine seq_k fun N135 M135 hN135 hM135 => ?_
                                                                                refine region_k fun K136 hK136 => ?_
                                                                                simp only [go_sem, st_L, st_K, f0, f1, f2, f3, f4, f5, f6, f7, f8, f9, f10, f11, W3, Int.toNat_one]
                                                                                all_goals repeat' (first | apply And.intro | intro _)
                                                                                all_goals
                                                                                 refine hK136 _ ?_
                                                                                 refine hN135 _ ?_
                                                                                 refine block_k fun B137 bn137 bx137 br137 bi137 => ?_
                                                                                 refine rounds_k 3 ?_
                                                                                 refine rnd_k fun N139 M139 hN139 hM139 => ?_
                                                                                 refine seq_k fun N140 M140 hN140 hM140 => ?_
                                                                                 refine region_k fun K141 hK141 => ?_
                                                                                 simp only [go_sem, st_L, st_K, f0, f1, f2, f3, f4, f5, f6, f7, f8, f9, f10, f11, W3, Int.toNat_one]
                                                                                 all_goals repeat' (first | apply And.intro | intro _)
                                                                                 all_goals
                                                                                  refine hK141 _ ?_
                                                                                  refine hN140 _ ?_
                                                                                  refine seq_k fun N142 M142 hN142 hM142 => ?_
                                                                                  refine cond_k rfl (fun hc => ?_) (fun hc => ?_)
                                                                                  · try simp only [go_sem, st_L, st_K, f0, f1, f2, f3, f4, f5, f6, f7, f8, f9, f10, f11, W3, Int.toNat_one] at hc
                                                                                    all_goals
                                                                                     refine skip_k ?_
                                                                                     refine hN142 _ ?_
                                                                                     refine seq_k fun N143 M143 hN143 hM143 => ?_
                                                                                     refine block_k fun B144 bn144 bx144 br144 bi144 => ?_
                                                                                     refine seq_k fun N145 M145 hN145 hM145 => ?_
                                                                                     refine region_k fun K146 hK146 => ?_
                                                                                     simp only [go_sem, st_L, st_K, f0, f1, f2, f3, f4, f5, f6, f7, f8, f9, f10, f11, W3, Int.toNat_one]
                                                                                     all_goals repeat' (first | apply And.intro | intro _)
                                                                                     all_goals
                                                                                      refine hK146 _ ?_
                                                                                      refine hN145 _ ?_
                                                                                      refine seq_k fun N147 M147 hN147 hM147 => ?_
                                                                                      refine region_k fun K148 hK148 => ?_
                                                                                      simp only [go_sem, st_L, st_K, f0, f1, f2, f3, f4, f5, f6, f7, f8, f9, f10, f11, W3, Int.toNat_one]
                                                                                      all_goals repeat' (first | apply And.intro | intro _)
                                                                                      all_goals refine call_view (fun k => k) (fun _ _ => rfl) (by first | rfl | (simp only [go_sem, st_L, st_K, f0, f1, f2, f3, f4, f5, f6, f7, f8, f9, f10, f11, W3, Int.toNat_one]; rfl) | simp only [go_sem, st_L, st_K, f0, f1, f2, f3, f4, f5, f6, f7, f8, f9, f10, f11, W3, Int.toNat_one]) ((mul64 _ _).plain fun _ _ h => h) ?_
                                                                                      all_goals (rintro v m ⟨hR, hm⟩; subst hR; subst hm)
                                                                                      all_goals refine And.intro (by first | rfl | simp only [go_sem, st_L, st_K, f0, f1, f2, f3, f4, f5, f6, f7, f8, f9, f10, f11, W3, Int.toNat_one]) (And.intro (by first | rfl | simp only [go_sem, st_L, st_K, f0, f1, f2, f3, f4, f5, f6, f7, f8, f9, f10, f11, W3, Int.toNat_one]) ?_)
                                                                                      all_goals simp only [go_sem, st_L, st_K, f0, f1, f2, f3, f4, f5, f6, f7, f8, f9, f10, f11, W3, Int.toNat_one]
                                                                                      all_goals repeat' (first | apply And.intro | intro _)
                                                                                      all_goals
                                                                                       refine hK148 _ ?_
                                                                                       refine hN147 _ ?_
                                                                                       refine seq_k fun N149 M149 hN149 hM149 => ?_
                                                                                       refine region_k fun K150 hK150 => ?_
                                                                                       simp only [go_sem, st_L, st_K, f0, f1, f2, f3, f4, f5, f6, f7, f8, f9, f10, f11, W3, Int.toNat_one]
                                                                                       all_goals repeat' (first | apply And.intro | intro _)
                                                                                       all_goals refine call_now (by first | rfl | (simp only [go_sem, st_L, st_K, f0, f1, f2, f3, f4, f5, f6, f7, f8, f9, f10, f11, W3, Int.toNat_one]; rfl) | simp only [go_sem, st_L, st_K, f0, f1, f2, f3, f4, f5, f6, f7, f8, f9, f10, f11, W3, Int.toNat_one]) (now_add64 _ _ _ (by first | decide | exact (ad_val _ _ (by decide)).2 | exact (ad_val _ _ ((ad_val _ _ (by decide)).2)).2)) ?_
                                                                                       all_goals simp only [go_sem, st_L, st_K, f0, f1, f2, f3, f4, f5, f6, f7, f8, f9, f10, f11, W3, Int.toNat_one]
                                                                                       all_goals repeat' (first | apply And.intro | intro _)
                                                                                       all_goals
                                                                                        refine hK150 _ ?_
                                                                                        refine hN149 _ ?_
                                                                                        refine seq_k fun N151 M151 hN151 hM151 => ?_
                                                                                        refine region_k fun K152 hK152 => ?_
                                                                                        simp only [go_sem, st_L, st_K, f0, f1, f2, f3, f4, f5, f6, f7, f8, f9, f10, f11, W3, Int.toNat_one]
                                                                                        all_goals repeat' (first | apply And.intro | intro _)
                                                                                        all_goals
                                                                                         refine hK152 _ ?_
                                                                                         refine hN151 _ ?_
                                                                                         refine seq_k fun N153 M153 hN153 hM153 => ?_
                                                                                         refine region_k fun K154 hK154 => ?_
                                                                                         simp only [go_sem, st_L, st_K, f0, f1, f2, f3, f4, f5, f6, f7, f8, f9, f10, f11, W3, Int.toNat_one]
                                                                                         all_goals repeat' (first | apply And.intro | intro _)
                                                                                         all_goals refine call_now (by first | rfl | (simp only [go_sem, st_L, st_K, f0, f1, f2, f3, f4, f5, f6, f7, f8, f9, f10, f11, W3, Int.toNat_one]; rfl) | simp only [go_sem, st_L, st_K, f0, f1, f2, f3, f4, f5, f6, f7, f8, f9, f10, f11, W3, Int.toNat_one]) (now_add64 _ _ _ (by first | decide | exact (ad_val _ _ (by decide)).2 | exact (ad_val _ _ ((ad_val _ _ (by decide)).2)).2)) ?_
                                                                                         all_goals simp only [go_sem, st_L, st_K, f0, f1, f2, f3, f4, f5, f6, f7, f8, f9, f10, f11, W3, Int.toNat_one]
                                                                                         all_goals repeat' (first | apply And.intro | intro _)
                                                                                         all_goals
                                                                                          refine hK154 _ ?_
                                                                                          refine hN153 _ ?_
                                                                                          refine region_k fun K155 hK155 => ?_
                                                                                          simp only [go_sem, st_L, st_K, f0, f1, f2, f3, f4, f5, f6, f7, f8, f9, f10, f11, W3, Int.toNat_one]
                                                                                          all_goals repeat' (first | apply And.intro | intro _)
                                                                                          all_goals
                                                                                           refine hK155 _ ?_
                                                                                           refine bn144 _ ?_
                                                                                           refine hN143 _ ?_
                                                                                           refine region_k fun K156 hK156 => ?_
                                                                                           simp only [go_sem, st_L, st_K, f0, f1, f2, f3, f4, f5, f6, f7, f8, f9, f10, f11, W3, Int.toNat_one]
                                                                                           all_goals repeat' (first | apply And.intro | intro _)
                                                                                           all_goals
                                                                                            refine hK156 _ ?_
                                                                                            refine hN139 _ ?_
                                                                                            refine rnd_forget [9, 10, 11, 12, 13, 25, 26, 27, 28, 29, 30, 31, 32, 33, 34, 35, 36, 37, 38, 39, 40, 41, 42, 43, 44, 45, 46, 47, 48, 49, 50, 51, 52, 53, 54, 55, 56, 57, 58, 59, 60, 61] ?_
                                                                                            simp only [go_sem, St.forget, fgt]
                                                                                            refine rnd_k fun N157 M157 hN157 hM157 => ?_
                                                                                            refine seq_k fun N158 M158 hN158 hM158 => ?_
                                                                                            refine region_k fun K159 hK159 => ?_
                                                                                            simp only [go_sem, st_L, st_K, f0, f1, f2, f3, f4, f5, f6, f7, f8, f9, f10, f11, W3, Int.toNat_one]
                                                                                            all_goals repeat' (first | apply And.intro | intro _)
                                                                                            all_goals
                                                                                             refine hK159 _ ?_
                                                                                             refine hN158 _ ?_
                                                                                             refine seq_k fun N160 M160 hN160 hM160 => ?_
                                                                                             refine cond_k rfl (fun hc => ?_) (fun hc => ?_)
                                                                                             · try simp only [go_sem, st_L, st_K, f0, f1, f2, f3, f4, f5, f6, f7, f8, f9, f10, f11, W3, Int.toNat_one] at hc
                                                                                               all_goals
                                                                                                refine skip_k ?_
                                                                                                refine hN160 _ ?_
                                                                                                refine seq_k fun N161 M161 hN161 hM161 => ?_
                                                                                                refine block_k fun B162 bn162 bx162 br162 bi162 => ?_
                                                                                                refine seq_k fun N163 M163 hN163 hM163 => ?_
                                                                                                refine region_k fun K164 hK164 => ?_
                                                                                                simp only [go_sem, st_L, st_K, f0, f1, f2, f3, f4, f5, f6, f7, f8, f9, f10, f11, W3, Int.toNat_one]
                                                                                                all_goals repeat' (first | apply And.intro | intro _)
                                                                                                all_goals
                                                                                                 refine hK164 _ ?_
                                                                                                 refine hN163 _ ?_
                                                                                                 refine seq_k fun N165 M165 hN165 hM165 => ?_
                                                                                                 refine region_k fun K166 hK166 => ?_
                                                                                                 simp only [go_sem, st_L, st_K, f0, f1, f2, f3, f4, f5, f6, f7, f8, f9, f10, f11, W3, Int.toNat_one]
                                                                                                 all_goals repeat' (first | apply And.intro | intro _)
                                                                                                 all_goals refine call_view (fun k => k) (fun _ _ => rfl) (by first | rfl | (simp only [go_sem, st_L, st_K, f0, f1, f2, f3, f4, f5, f6, f7, f8, f9, f10, f11, W3, Int.toNat_one]; rfl) | simp only [go_sem, st_L, st_K, f0, f1, f2, f3, f4, f5, f6, f7, f8, f9, f10, f11, W3, Int.toNat_one]) ((mul64 _ _).plain fun _ _ h => h) ?_
                                                                                                 all_goals (rintro v m ⟨hR, hm⟩; subst hR; subst hm)
                                                                                                 all_goals refine And.intro (by first | rfl | simp only [go_sem, st_L, st_K, f0, f1, f2, f3, f4, f5, f6, f7, f8, f9, f10, f11, W3, Int.toNat_one]) (And.intro (by first | rfl | simp only [go_sem, st_L, st_K, f0, f1, f2, f3, f4, f5, f6, f7, f8, f9, f10, f11, W3, Int.toNat_one]) ?_)
                                                                                                 all_goals simp only [go_sem, st_L, st_K, f0, f1, f2, f3, f4, f5, f6, f7, f8, f9, f10, f11, W3, Int.toNat_one]
                                                                                                 all_goals repeat' (first | apply And.intro | intro _)
                                                                                                 all_goals
                                                                                                  refine hK166 _ ?_
                                                                                                  refine hN165 _ ?_
                                                                                                  refine seq_k fun N167 M167 hN167 hM167 => ?_
                                                                                                  refine region_k fun K168 hK168 => ?_
                                                                                                  simp only [go_sem, st_L, st_K, f0, f1, f2, f3, f4, f5, f6, f7, f8, f9, f10, f11, W3, Int.toNat_one]
                                                                                                  all_goals repeat' (first | apply And.intro | intro _)
                                                                                                  all_goals refine call_now (by first | rfl | (simp only [go_sem, st_L, st_K, f0, f1, f2, f3, f4, f5, f6, f7, f8, f9, f10, f11, W3, Int.toNat_one]; rfl) | simp only [go_sem, st_L, st_K, f0, f1, f2, f3, f4, f5, f6, f7, f8, f9, f10, f11, W3, Int.toNat_one]) (now_add64 _ _ _ (by first | decide | exact (ad_val _ _ (by decide)).2 | exact (ad_val _ _ ((ad_val _ _ (by decide)).2)).2)) ?_
                                                                                                  all_goals simp only [go_sem, st_L, st_K, f0, f1, f2, f3, f4, f5, f6, f7, f8, f9, f10, f11, W3, Int.toNat_one]
                                                                                                  all_goals repeat' (first | apply And.intro | intro _)
                                                                                                  all_goals
                                                                                                   refine hK168 _ ?_
                                                                                                   refine hN167 _ ?_
                                                                                                   refine seq_k fun N169 M169 hN169 hM169 => ?_
                                                                                                   refine region_k fun K170 hK170 => ?_
                                                                                                   simp only [go_sem, st_L, st_K, f0, f1, f2, f3, f4, f5, f6, f7, f8, f9, f10, f11, W3, Int.toNat_one]
                                                                                                   all_goals repeat' (first | apply And.intro | intro _)
                                                                                                   all_goals
                                                                                                    refine hK170 _ ?_
                                                                                                    refine hN169 _ ?_
                                                                                                    refine seq_k fun N171 M171 hN171 hM171 => ?_
                                                                                                    refine region_k fun K172 hK172 => ?_
                                                                                                    simp only [go_sem, st_L, st_K, f0, f1, f2, f3, f4, f5, f6, f7, f8, f9, f10, f11, W3, Int.toNat_one]
                                                                                                    all_goals repeat' (first | apply And.intro | intro _)
                                                                                                    all_goals refine call_now (by first | rfl | (simp only [go_sem, st_L, st_K, f0, f1, f2, f3, f4, f5, f6, f7, f8, f9, f10, f11, W3, Int.toNat_one]; rfl) | simp only [go_sem, st_L, st_K, f0, f1, f2, f3, f4, f5, f6, f7, f8, f9, f10, f11, W3, Int.toNat_one]) (now_add64 _ _ _ (by first | decide | exact (ad_val _ _ (by decide)).2 | exact (ad_val _ _ ((ad_val _ _ (by decide)).2)).2)) ?_
                                                                                                    all_goals simp only [go_sem, st_L, st_K, f0, f1, f2, f3, f4, f5, f6, f7, f8, f9, f10, f11, W3, Int.toNat_one]
                                                                                                    all_goals repeat' (first | apply And.intro | intro _)
                                                                                                    all_goals
                                                                                                     refine hK172 _ ?_
                                                                                                     refine hN171 _ ?_
                                                                                                     refine region_k fun K173 hK173 => ?_
                                                                                                     simp only [go_sem, st_L, st_K, f0, f1, f2, f3, f4, f5, f6, f7, f8, f9, f10, f11, W3, Int.toNat_one]
                                                                                                     all_goals repeat' (first | apply And.intro | intro _)
                                                                                                     all_goals
                                                                                                      refine hK173 _ ?_
                                                                                                      refine bn162 _ ?_
                                                                                                      refine hN161 _ ?_
                                                                                                      refine region_k fun K174 hK174 => ?_
                                                                                                      simp only [go_sem, st_L, st_K, f0, f1, f2, f3, f4, f5, f6, f7, f8, f9, f10, f11, W3, Int.toNat_one]
                                                                                                      all_goals repeat' (first | apply And.intro | intro _)
                                                                                                      all_goals
                                                                                                       refine hK174 _ ?_
                                                                                                       refine hN157 _ ?_
                                                                                                       refine rnd_forget [9, 10, 11, 12, 13, 25, 26, 27, 28, 29, 30, 31, 32, 33, 34, 35, 36, 37, 38, 39, 40, 41, 42, 43, 44, 45, 46, 47, 48, 49, 50, 51, 52, 53, 54, 55, 56, 57, 58, 59, 60, 61] ?_
                                                                                                       simp only [go_sem, St.forget, fgt]
                                                                                                       refine rnd_k fun N175 M175 hN175 hM175 => ?_
                                                                                                       refine seq_k fun N176 M176 hN176 hM176 => ?_
                                                                                                       refine region_k fun K177 hK177 => ?_
                                                                                                       simp only [go_sem, st_L, st_K, f0, f1, f2, f3, f4, f5, f6, f7, f8, f9, f10, f11, W3, Int.toNat_one]
                                                                                                       all_goals repeat' (first | apply And.intro | intro _)
                                                                                                       all_goals
                                                                                                        refine hK177 _ ?_
                                                                                                        refine hN176 _ ?_
                                                                                                        refine seq_k fun N178 M178 hN178 hM178 => ?_
                                                                                                        refine cond_k rfl (fun hc => ?_) (fun hc => ?_)
                                                                                                        · exfalso; revert hc; simp
                                                                                                        · try simp only [go_sem, st_L, st_K, f0, f1, f2, f3, f4, f5, f6, f7, f8, f9, f10, f11, W3, Int.toNat_one] at hc
                                                                                                          all_goals
                                                                                                           refine exit_k ?_
                                                                                                           refine hM178 _ _ ?_
                                                                                                           refine hM175 _ _ ?_
                                                                                                           refine bx137 _ ?_
                                                                                                           refine hN134 _ ?_
                                                                                                           refine region_k fun K179 hK179 => ?_
                                                                                                           simp only [go_sem, st_L, st_K, f0, f1, f2, f3, f4, f5, f6, f7, f8, f9, f10, f11, W3, Int.toNat_one]
                                                                                                           all_goals repeat' (first | apply And.intro | intro _)
                                                                                                           all_goals
                                                                                                            refine hK179 _ ?_
                                                                                                            refine bn129 _ ?_
                                                                                                            refine hN128 _ ?_
                                                                                                            refine region_k fun K180 hK180 => ?_
                                                                                                            simp only [go_sem, st_L, st_K, f0, f1, f2, f3, f4, f5, f6, f7, f8, f9, f10, f11, W3, Int.toNat_one]
                                                                                                            all_goals repeat' (first | apply And.intro | intro _)
                                                                                                            all_goals
                                                                                                             refine hK180 _ ?_
                                                                                                             refine hN124 _ ?_
                                                                                                             refine rnd_forget [6, 7, 8, 9, 10, 11, 12, 13, 20, 21, 22, 23, 24, 25, 26, 27, 28, 29, 30, 31, 32, 33, 34, 35, 36, 37, 38, 39, 40, 41, 42, 43, 44, 45, 46, 47, 48, 49, 50, 51, 52, 53, 54, 55, 56, 57, 58, 59, 60, 61, 62, 63, 64, 65, 66] ?_
                                                                                                             simp only [go_sem, St.forget, fgt]
                                                                                                             refine rnd_k fun N181 M181 hN181 hM181 => ?_
                                                                                                             refine seq_k fun N182 M182 hN182 hM182 => ?_
                                                                                                             refine region_k fun K183 hK183 => ?_
                                                                                                             simp only [go_sem, st_L, st_K, f0, f1, f2, f3, f4, f5, f6, f7, f8, f9, f10, f11, W3, Int.toNat_one]
                                                                                                             all_goals repeat' (first | apply And.intro | intro _)
                                                                                                             all_goals
                                                                                                              refine hK183 _ ?_
                                                                                                              refine hN182 _ ?_
                                                                                                              refine seq_k fun N184 M184 hN184 hM184 => ?_
                                                                                                              refine cond_k rfl (fun hc => ?_) (fun hc => ?_)
                                                                                                              · exfalso; revert hc; simp
                                                                                                              · try simp only [go_sem, st_L, st_K, f0, f1, f2, f3, f4, f5, f6, f7, f8, f9, f10, f11, W3, Int.toNat_one] at hc
                                                                                                                all_goals
                                                                                                                 refine exit_k ?_
                                                                                                                 refine hM184 _ _ ?_
                                                                                                                 refine hM181 _ _ ?_
                                                                                                                 refine bx8 _ ?_
                                                                                                                 refine hN5 _ ?_
                                                                                                                 refine seq_k fun N185 M185 hN185 hM185 => ?_
                                                                                                                 refine region_k fun K186 hK186 => ?_
                                                                                                                 simp only [go_sem, st_L, st_K, f0, f1, f2, f3, f4, f5, f6, f7, f8, f9, f10, f11, W3, Int.toNat_one]
                                                                                                                 all_goals repeat' (first | apply And.intro | intro _)
                                                                                                                 all_goals
                                                                                                                  refine hK186 _ ?_
                                                                                                                  refine hN185 _ ?_
                                                                                                                  refine seq_k fun N187 M187 hN187 hM187 => ?_
                                                                                                                  refine region_k fun K188 hK188 => ?_
                                                                                                                  simp only [go_sem, st_L, st_K, f0, f1, f2, f3, f4, f5, f6, f7, f8, f9, f10, f11, W3, Int.toNat_one]
                                                                                                                  all_goals repeat' (first | apply And.intro | intro _)
                                                                                                                  all_goals
                                                                                                                   refine hK188 _ ?_
                                                                                                                   refine hN187 _ ?_
                                                                                                                   refine seq_k fun N189 M189 hN189 hM189 => ?_
                                                                                                                   refine seq_k fun N190 M190 hN190 hM190 => ?_
                                                                                                                   refine region_k fun K191 hK191 => ?_
                                                                                                                   simp only [go_sem, st_L, st_K, f0, f1, f2, f3, f4, f5, f6, f7, f8, f9, f10, f11, W3, Int.toNat_one]
                                                                                                                   all_goals repeat' (first | apply And.intro | intro _)
                                                                                                                   all_goals
                                                                                                                    refine hK191 _ ?_
                                                                                                                    refine hN190 _ ?_
                                                                                                                    refine block_k fun B192 bn192 bx192 br192 bi192 => ?_
                                                                                                                    refine ht_dropE [0, 1, 2, 3, 5, 6, 7, 8, 9, 10, 11, 12, 13, 18, 19, 20, 21, 22, 23, 24, 25, 26, 27, 28, 29, 30, 31, 32, 33, 34, 35, 36, 37, 38, 39, 40, 41, 42, 43, 44, 45, 46, 47, 48, 49, 50, 51, 52, 53, 54, 55, 56, 57, 58, 59, 60, 61, 62, 63, 64, 65, 66, 67, 68, 69, 70, 71, 72, 73, 74, 75, 76, 77, 78, 79, 80, 81, 82, 83, 84, 85, 86, 87, 88, 89, 90, 91, 92] ?_
                                                                                                                    simp only [dropE_mk, fgt_nil, fgt_cons, List.contains_cons, List.contains_nil, Nat.reduceBEq, beq_self_eq_true, Bool.or_false, Bool.or_true, Bool.true_or, Bool.false_or, Bool.false_eq_true, reduceIte]
                                                                                                                    refine loop_k (fun y => [(93, .w (.one (.pl (.i ((y.1 : Nat) : Int)))))]) (fun y => [(14, ⟨false, (lowN a r0 r1 y.1).ls⟩)]) (fun y => 5 - y.1) (⟨0, by omega⟩ : {y : Nat // y ≤ 5}) ?_ ?_ ?_
                                                                                                                    · (simp only [go_sem, leX, List.cons_append, List.nil_append]; try simp)
                                                                                                                    · (simp only [lowN, lowT, T3.ls, W3, go_sem, leX, List.cons_append, List.nil_append]; try simp [lowN, lowT, T3.ls, W3, leX, look])
                                                                                                                    intro yy N193 M193 hN193 hM193
                                                                                                                    simp only [List.cons_append, List.nil_append]
                                                                                                                    obtain ⟨y, hy⟩ := yy
                                                                                                                    rcases Nat.lt_or_ge y 5 with hlt | hge
                                                                                                                    · obtain ⟨q, hq⟩ : ∃ q, lowN a r0 r1 y = q := ⟨_, rfl⟩
                                                                                                                      obtain ⟨qa, qb, qc⟩ := q
                                                                                                                      have hcq : ((y : Nat) : Int) < 5 := by omega
                                                                                                                      have hs1 : Go.RowKit.wrap64 (((y : Nat) : Int) + 1) = ((y + 1 : Nat) : Int) := wnat (by omega) (by omega)
                                                                                                                      simp only [hq, T3.ls, W3]
                                                                                                                      refine seq_k fun N194 M194 hN194 hM194 => ?_
                                                                                                                      refine region_k fun K195 hK195 => ?_
                                                                                                                      simp only [go_sem, st_L, st_K, f0, f1, f2, f3, f4, f5, f6, f7, f8, f9, f10, f11, W3, Int.toNat_one, hcq, hs1]
                                                                                                                      all_goals repeat' (first | apply And.intro | intro _)
                                                                                                                      all_goals
                                                                                                                       refine hK195 _ ?_
                                                                                                                       refine hN194 _ ?_
                                                                                                                       refine seq_k fun N196 M196 hN196 hM196 => ?_
                                                                                                                       refine cond_k rfl (fun hc => ?_) (fun hc => ?_)
                                                                                                                       · try simp only [go_sem, st_L, st_K, f0, f1, f2, f3, f4, f5, f6, f7, f8, f9, f10, f11, W3, Int.toNat_one, hcq, hs1] at hc
                                                                                                                         all_goals
                                                                                                                          refine skip_k ?_
                                                                                                                          refine hN196 _ ?_
                                                                                                                          refine seq_k fun N197 M197 hN197 hM197 => ?_
                                                                                                                          refine block_k fun B198 bn198 bx198 br198 bi198 => ?_
                                                                                                                          refine region_k fun K199 hK199 => ?_
                                                                                                                          simp only [go_sem, st_L, st_K, f0, f1, f2, f3, f4, f5, f6, f7, f8, f9, f10, f11, W3, Int.toNat_one, hcq, hs1]
                                                                                                                          all_goals repeat' (first | apply And.intro | intro _)
                                                                                                                          all_goals refine call_view (fun k => k) (fun _ _ => rfl) (by first | rfl | (simp only [go_sem, st_L, st_K, f0, f1, f2, f3, f4, f5, f6, f7, f8, f9, f10, f11, W3, Int.toNat_one, hcq, hs1]; rfl) | simp only [go_sem, st_L, st_K, f0, f1, f2, f3, f4, f5, f6, f7, f8, f9, f10, f11, W3, Int.toNat_one, hcq, hs1]) ((plus_ ⟨_, _, _⟩ ⟨_, _, _⟩).plain fun _ _ h => h) ?_
                                                                                                                          all_goals (rintro v m ⟨hR, hm⟩; subst hR; subst hm)
                                                                                                                          all_goals refine And.intro (by first | rfl | simp only [go_sem, st_L, st_K, f0, f1, f2, f3, f4, f5, f6, f7, f8, f9, f10, f11, W3, Int.toNat_one, hcq, hs1]) (And.intro (by first | rfl | simp only [go_sem, st_L, st_K, f0, f1, f2, f3, f4, f5, f6, f7, f8, f9, f10, f11, W3, Int.toNat_one, hcq, hs1]) ?_)
                                                                                                                          all_goals simp only [go_sem, st_L, st_K, f0, f1, f2, f3, f4, f5, f6, f7, f8, f9, f10, f11, W3, Int.toNat_one, hcq, hs1]
                                                                                                                          all_goals repeat' (first | apply And.intro | intro _)
                                                                                                                          all_goals
                                                                                                                           refine hK199 _ ?_
                                                                                                                           refine bn198 _ ?_
                                                                                                                           refine hN197 _ ?_
                                                                                                                           refine region_k fun K200 hK200 => ?_
                                                                                                                           simp only [go_sem, st_L, st_K, f0, f1, f2, f3, f4, f5, f6, f7, f8, f9, f10, f11, W3, Int.toNat_one, hcq, hs1]
                                                                                                                           all_goals repeat' (first | apply And.intro | intro _)
                                                                                                                           all_goals
                                                                                                                            refine hK200 _ ?_
                                                                                                                            refine hN193 ⟨y + 1, by omega⟩ _ ?_ ?_ ?_
                                                                                                                            · (show 5 - (y + 1) < 5 - y; clear hs1; omega)
                                                                                                                            · (simp only [go_sem, leX, List.cons_append, List.nil_append]; try simp)
                                                                                                                            · (simp only [lowN, hq, T3.ls, W3, go_sem, leX, List.cons_append, List.nil_append]; first | done | (simp [lowN, hq, highT, T3.ls, W3, leX, look]; done) | (simp [lowN, hq, highT, T3.ls, W3, leX, look]; exact ⟨rfl, rfl, rfl⟩))
                                                                                                                       · exfalso; revert hc; simp [go_sem, st_L, st_K, f0, f1, f2, f3, f4, f5, f6, f7, f8, f9, f10, f11, W3, decide_true, decide_false, Int.reduceAdd, Int.reduceLT, Int.reduceToNat, Int.toNat_zero, Int.toNat_one, hcq, hs1]
                                                                                                                    · obtain rfl : y = 5 := by omega
                                                                                                                      have hl5 := lowN5 a r0 r1
                                                                                                                      have hb5 := (low5_val a r0 r1 ha hr).2
                                                                                                                      obtain ⟨q, hq⟩ : ∃ q, lowN a r0 r1 5 = q := ⟨_, rfl⟩
                                                                                                                      obtain ⟨qa, qb, qc⟩ := q
                                                                                                                      rw [hq] at hl5
                                                                                                                      rw [← hl5] at hb5
                                                                                                                      have hl5 := hl5.symm
                                                                                                                      have hcut : 3 < qc → ¬ 3 < (cut3 ⟨qa, qb, qc⟩).c.toNat := fun h => (cut_val hb5 (three_lt.mp h)).2
                                                                                                                      have hcq : ¬ ((5 : Nat) : Int) < 5 := by omega
                                                                                                                      simp only [hq, T3.ls, W3]
                                                                                                                      refine seq_k fun N201 M201 hN201 hM201 => ?_
                                                                                                                      refine region_k fun K202 hK202 => ?_
                                                                                                                      simp only [go_sem, st_L, st_K, f0, f1, f2, f3, f4, f5, f6, f7, f8, f9, f10, f11, W3, Int.toNat_one, hcq]
                                                                                                                      all_goals repeat' (first | apply And.intro | intro _)
                                                                                                                      all_goals
                                                                                                                       refine hK202 _ ?_
                                                                                                                       refine hN201 _ ?_
                                                                                                                       refine seq_k fun N203 M203 hN203 hM203 => ?_
                                                                                                                       refine cond_k rfl (fun hc => ?_) (fun hc => ?_)
                                                                                                                       · exfalso; revert hc; simp [go_sem, st_L, st_K, f0, f1, f2, f3, f4, f5, f6, f7, f8, f9, f10, f11, W3, decide_true, decide_false, Int.reduceAdd, Int.reduceLT, Int.reduceToNat, Int.toNat_zero, Int.toNat_one, hcq]
                                                                                                                       · try simp only [go_sem, st_L, st_K, f0, f1, f2, f3, f4, f5, f6, f7, f8, f9, f10, f11, W3, Int.toNat_one, hcq] at hc
                                                                                                                         all_goals
                                                                                                                          refine exit_k ?_
                                                                                                                          refine hM203 _ _ ?_
                                                                                                                          refine hM193 _ _ ?_
                                                                                                                          refine bx192 _ ?_
                                                                                                                          refine hN189 _ ?_
                                                                                                                          refine seq_k fun N204 M204 hN204 hM204 => ?_
                                                                                                                          refine block_k fun B205 bn205 bx205 br205 bi205 => ?_
                                                                                                                          refine ht_dropE [0, 1, 2, 3, 5, 6, 7, 8, 9, 10, 11, 12, 13, 15, 18, 19, 20, 21, 22, 23, 24, 25, 26, 27, 28, 29, 30, 31, 32, 33, 34, 35, 36, 37, 38, 39, 40, 41, 42, 43, 44, 45, 46, 47, 48, 49, 50, 51, 52, 53, 54, 55, 56, 57, 58, 59, 60, 61, 62, 63, 64, 65, 66, 67, 68, 69, 70, 71, 72, 73, 74, 75, 76, 77, 78, 79, 80, 81, 82, 83, 84, 85, 86, 87, 88, 89, 90, 91, 92, 93, 94, 95, 96, 97, 98] ?_
                                                                                                                          simp only [dropE_mk, fgt_nil, fgt_cons, List.contains_cons, List.contains_nil, Nat.reduceBEq, beq_self_eq_true, Bool.or_false, Bool.or_true, Bool.true_or, Bool.false_or, Bool.false_eq_true, reduceIte]
                                                                                                                          refine loop_k (fun y => []) (fun y => [(14, ⟨false, (cutN ⟨qa, qb, qc⟩ y.1).ls⟩)]) (fun y => 1 - y.1) (⟨0, by omega, fun h => by cases h⟩ : {y : Nat // y ≤ 1 ∧ (y = 1 → 3 < qc)}) ?_ ?_ ?_
                                                                                                                          · (simp only [go_sem, leX, List.cons_append, List.nil_append]; try simp)
                                                                                                                          · (simp only [cutN, T3.ls, W3, go_sem, leX, List.cons_append, List.nil_append]; try simp [cutN, T3.ls, W3, leX, look])
                                                                                                                          intro yy N206 M206 hN206 hM206
                                                                                                                          simp only [List.cons_append, List.nil_append]
                                                                                                                          obtain ⟨y, hy, hy2⟩ := yy
                                                                                                                          have hd : (y = 0 ∧ 3 < qc) ∨ (y = 0 ∧ ¬ 3 < qc ∧ ¬ 3 < (cutN ⟨qa, qb, qc⟩ 0).c ∧ 3 < (up3 (cutN ⟨qa, qb, qc⟩ 0)).c) ∨ (y = 0 ∧ ¬ 3 < qc ∧ ¬ 3 < (cutN ⟨qa, qb, qc⟩ 0).c ∧ ¬ 3 < (up3 (cutN ⟨qa, qb, qc⟩ 0)).c) ∨ (y = 1 ∧ 3 < qc ∧ ¬ 3 < (cutN ⟨qa, qb, qc⟩ 1).c ∧ 3 < (up3 (cutN ⟨qa, qb, qc⟩ 1)).c) ∨ (y = 1 ∧ 3 < qc ∧ ¬ 3 < (cutN ⟨qa, qb, qc⟩ 1).c ∧ ¬ 3 < (up3 (cutN ⟨qa, qb, qc⟩ 1)).c) := by
                                                                                                                           rcases Nat.lt_or_ge y 1 with h | h
                                                                                                                           · have hy0 : y = 0 := by omega
                                                                                                                             by_cases h3 : 3 < qc
                                                                                                                             · exact .inl ⟨hy0, h3⟩
                                                                                                                             · by_cases h4 : 3 < (up3 (cutN ⟨qa, qb, qc⟩ 0)).c
                                                                                                                               · exact .inr (.inl ⟨hy0, h3, h3, h4⟩)
                                                                                                                               · exact .inr (.inr (.inl ⟨hy0, h3, h3, h4⟩))
                                                                                                                           · have hy1 : y = 1 := by omega
                                                                                                                             have h3 := hy2 hy1
                                                                                                                             have h5 : ¬ 3 < (cutN ⟨qa, qb, qc⟩ 1).c := fun h => hcut h3 (three_lt.mp h)
                                                                                                                             by_cases h4 : 3 < (up3 (cutN ⟨qa, qb, qc⟩ 1)).c
                                                                                                                             · exact .inr (.inr (.inr (.inl ⟨hy1, h3, h5, h4⟩)))
                                                                                                                             · exact .inr (.inr (.inr (.inr ⟨hy1, h3, h5, h4⟩)))
                                                                                                                          rcases hd with ⟨rfl, hc3⟩ | ⟨rfl, hc3, hcq, hup⟩ | ⟨rfl, hc3, hcq, hup⟩ | ⟨rfl, hc3, hcq, hup⟩ | ⟨rfl, hc3, hcq, hup⟩
                                                                                                                          · simp only [cutN, hq, T3.ls, W3]
                                                                                                                            have hcq := hc3
                                                                                                                            refine seq_k fun N207 M207 hN207 hM207 => ?_
                                                                                                                            refine seq_k fun N208 M208 hN208 hM208 => ?_
                                                                                                                            refine region_k fun K209 hK209 => ?_
                                                                                                                            simp only [go_sem, st_L, st_K, f0, f1, f2, f3, f4, f5, f6, f7, f8, f9, f10, f11, W3, Int.toNat_one, hcq]
                                                                                                                            all_goals repeat' (first | apply And.intro | intro _)
                                                                                                                            all_goals
                                                                                                                             refine hK209 _ ?_
                                                                                                                             refine hN208 _ ?_
                                                                                                                             refine cond_k rfl (fun hc => ?_) (fun hc => ?_)
                                                                                                                             · try simp only [go_sem, st_L, st_K, f0, f1, f2, f3, f4, f5, f6, f7, f8, f9, f10, f11, W3, Int.toNat_one, hcq] at hc
                                                                                                                               all_goals
                                                                                                                                refine skip_k ?_
                                                                                                                                refine hN207 _ ?_
                                                                                                                                refine block_k fun B210 bn210 bx210 br210 bi210 => ?_
                                                                                                                                refine seq_k fun N211 M211 hN211 hM211 => ?_
                                                                                                                                refine region_k fun K212 hK212 => ?_
                                                                                                                                simp only [go_sem, st_L, st_K, f0, f1, f2, f3, f4, f5, f6, f7, f8, f9, f10, f11, W3, Int.toNat_one, hcq]
                                                                                                                                all_goals repeat' (first | apply And.intro | intro _)
                                                                                                                                all_goals
                                                                                                                                 refine hK212 _ ?_
                                                                                                                                 refine hN211 _ ?_
                                                                                                                                 refine seq_k fun N213 M213 hN213 hM213 => ?_
                                                                                                                                 refine region_k fun K214 hK214 => ?_
                                                                                                                                 simp only [go_sem, st_L, st_K, f0, f1, f2, f3, f4, f5, f6, f7, f8, f9, f10, f11, W3, Int.toNat_one, hcq]
                                                                                                                                 all_goals repeat' (first | apply And.intro | intro _)
                                                                                                                                 all_goals
                                                                                                                                  refine hK214 _ ?_
                                                                                                                                  refine hN213 _ ?_
                                                                                                                                  refine region_k fun K215 hK215 => ?_
                                                                                                                                  simp only [go_sem, st_L, st_K, f0, f1, f2, f3, f4, f5, f6, f7, f8, f9, f10, f11, W3, Int.toNat_one, hcq]
                                                                                                                                  all_goals repeat' (first | apply And.intro | intro _)
                                                                                                                                  all_goals refine call_view (fun k => k) (fun _ _ => rfl) (by first | rfl | (simp only [go_sem, st_L, st_K, f0, f1, f2, f3, f4, f5, f6, f7, f8, f9, f10, f11, W3, Int.toNat_one, hcq]; rfl) | simp only [go_sem, st_L, st_K, f0, f1, f2, f3, f4, f5, f6, f7, f8, f9, f10, f11, W3, Int.toNat_one, hcq]) ((plus_ ⟨_, _, _⟩ ⟨_, _, _⟩).plain fun _ _ h => h) ?_
                                                                                                                                  all_goals (rintro v m ⟨hR, hm⟩; subst hR; subst hm)
                                                                                                                                  all_goals refine And.intro (by first | rfl | simp only [go_sem, st_L, st_K, f0, f1, f2, f3, f4, f5, f6, f7, f8, f9, f10, f11, W3, Int.toNat_one, hcq]) (And.intro (by first | rfl | simp only [go_sem, st_L, st_K, f0, f1, f2, f3, f4, f5, f6, f7, f8, f9, f10, f11, W3, Int.toNat_one, hcq]) ?_)
                                                                                                                                  all_goals simp only [go_sem, st_L, st_K, f0, f1, f2, f3, f4, f5, f6, f7, f8, f9, f10, f11, W3, Int.toNat_one, hcq]
                                                                                                                                  all_goals repeat' (first | apply And.intro | intro _)
                                                                                                                                  all_goals
                                                                                                                                   refine hK215 _ ?_
                                                                                                                                   refine bn210 _ ?_
                                                                                                                                   refine hN206 ⟨1, by omega, fun _ => hc3⟩ _ ?_ ?_ ?_
                                                                                                                                   · (show 1 - 1 < 1 - 0; omega)
                                                                                                                                   · (simp only [go_sem, leX, List.cons_append, List.nil_append]; try simp)
                                                                                                                                   · (simp only [cutN, hq, T3.ls, W3, go_sem, leX, List.cons_append, List.nil_append]; first | done | (simp [cutN, cut3, hq, T3.ls, W3, leX, look]; done) | (simp [cutN, cut3, hq, T3.ls, W3, leX, look]; exact ⟨rfl, rfl, rfl⟩))
                                                                                                                             · exfalso; revert hc; simp [go_sem, st_L, st_K, f0, f1, f2, f3, f4, f5, f6, f7, f8, f9, f10, f11, W3, decide_true, decide_false, Int.reduceAdd, Int.reduceLT, Int.reduceToNat, Int.toNat_zero, Int.toNat_one, hcq, hcq]
                                                                                                                          · obtain ⟨⟨xa, xb, xc⟩, hx⟩ : ∃ x, cutN ⟨qa, qb, qc⟩ 0 = x := ⟨_, rfl⟩
                                                                                                                            rw [hx] at hcq hup
                                                                                                                            simp only [hx, T3.ls, W3]
                                                                                                                            rw [up3] at hup
                                                                                                                            simp only at hcq hup
                                                                                                                            have hres : timesT a r0 r1 = fin3 ⟨xa, xb, xc⟩ := by rw [← hx, timesT, hl5, red3]; exact congrArg fin3 (if_neg hc3)
                                                                                                                            rw [fin3, up3, if_pos hup] at hres

                                                                                                                            refine seq_k fun N216 M216 hN216 hM216 => ?_
                                                                                                                            refine seq_k fun N217 M217 hN217 hM217 => ?_
                                                                                                                            refine region_k fun K218 hK218 => ?_
                                                                                                                            simp only [go_sem, st_L, st_K, f0, f1, f2, f3, f4, f5, f6, f7, f8, f9, f10, f11, W3, Int.toNat_one, hcq, hup]
                                                                                                                            all_goals repeat' (first | apply And.intro | intro _)
                                                                                                                            all_goals
                                                                                                                             refine hK218 _ ?_
                                                                                                                             refine hN217 _ ?_
                                                                                                                             refine cond_k rfl (fun hc => ?_) (fun hc => ?_)
                                                                                                                             · exfalso; revert hc; simp [go_sem, st_L, st_K, f0, f1, f2, f3, f4, f5, f6, f7, f8, f9, f10, f11, W3, decide_true, decide_false, Int.reduceAdd, Int.reduceLT, Int.reduceToNat, Int.toNat_zero, Int.toNat_one, hcq, hcq, hup]
                                                                                                                             · try simp only [go_sem, st_L, st_K, f0, f1, f2, f3, f4, f5, f6, f7, f8, f9, f10, f11, W3, Int.toNat_one, hcq, hup] at hc
                                                                                                                               all_goals
                                                                                                                                refine exit_k ?_
                                                                                                                                refine hM216 _ _ ?_
                                                                                                                                refine hM206 _ _ ?_
                                                                                                                                refine bx205 _ ?_
                                                                                                                                refine hN204 _ ?_
                                                                                                                                refine seq_k fun N219 M219 hN219 hM219 => ?_
                                                                                                                                refine seq_k fun N220 M220 hN220 hM220 => ?_
                                                                                                                                refine region_k fun K221 hK221 => ?_
                                                                                                                                simp only [go_sem, st_L, st_K, f0, f1, f2, f3, f4, f5, f6, f7, f8, f9, f10, f11, W3, Int.toNat_one, hcq, hup]
                                                                                                                                all_goals repeat' (first | apply And.intro | intro _)
                                                                                                                                all_goals refine call_view (fun k => k) (fun _ _ => rfl) (by first | rfl | (simp only [go_sem, st_L, st_K, f0, f1, f2, f3, f4, f5, f6, f7, f8, f9, f10, f11, W3, Int.toNat_one, hcq, hup]; rfl) | simp only [go_sem, st_L, st_K, f0, f1, f2, f3, f4, f5, f6, f7, f8, f9, f10, f11, W3, Int.toNat_one, hcq, hup]) ((plus_ ⟨_, _, _⟩ ⟨_, _, _⟩).plain fun _ _ h => h) ?_
                                                                                                                                all_goals (rintro v m ⟨hR, hm⟩; subst hR; subst hm)
                                                                                                                                all_goals refine And.intro (by first | rfl | simp only [go_sem, st_L, st_K, f0, f1, f2, f3, f4, f5, f6, f7, f8, f9, f10, f11, W3, Int.toNat_one, hcq, hup]) (And.intro (by first | rfl | simp only [go_sem, st_L, st_K, f0, f1, f2, f3, f4, f5, f6, f7, f8, f9, f10, f11, W3, Int.toNat_one, hcq, hup]) ?_)
                                                                                                                                all_goals simp only [go_sem, st_L, st_K, f0, f1, f2, f3, f4, f5, f6, f7, f8, f9, f10, f11, W3, Int.toNat_one, hcq, hup]
                                                                                                                                all_goals repeat' (first | apply And.intro | intro _)
                                                                                                                                all_goals
                                                                                                                                 refine hK221 _ ?_
                                                                                                                                 refine hN220 _ ?_
                                                                                                                                 refine seq_k fun N222 M222 hN222 hM222 => ?_
                                                                                                                                 refine region_k fun K223 hK223 => ?_
                                                                                                                                 simp only [go_sem, st_L, st_K, f0, f1, f2, f3, f4, f5, f6, f7, f8, f9, f10, f11, W3, Int.toNat_one, hcq, hup]
                                                                                                                                 all_goals repeat' (first | apply And.intro | intro _)
                                                                                                                                 all_goals
                                                                                                                                  refine hK223 _ ?_
                                                                                                                                  refine hN222 _ ?_
                                                                                                                                  refine cond_k rfl (fun hc => ?_) (fun hc => ?_)
                                                                                                                                  · try simp only [go_sem, st_L, st_K, f0, f1, f2, f3, f4, f5, f6, f7, f8, f9, f10, f11, W3, Int.toNat_one, hcq, hup] at hc
                                                                                                                                    all_goals
                                                                                                                                     refine seq_k fun N224 M224 hN224 hM224 => ?_
                                                                                                                                     refine region_k fun K225 hK225 => ?_
                                                                                                                                     simp only [go_sem, st_L, st_K, f0, f1, f2, f3, f4, f5, f6, f7, f8, f9, f10, f11, W3, Int.toNat_one, hcq, hup]
                                                                                                                                     all_goals repeat' (first | apply And.intro | intro _)
                                                                                                                                     all_goals
                                                                                                                                      refine hK225 _ ?_
                                                                                                                                      refine hN224 _ ?_
                                                                                                                                      refine seq_k fun N226 M226 hN226 hM226 => ?_
                                                                                                                                      refine region_k fun K227 hK227 => ?_
                                                                                                                                      simp only [go_sem, st_L, st_K, f0, f1, f2, f3, f4, f5, f6, f7, f8, f9, f10, f11, W3, Int.toNat_one, hcq, hup]
                                                                                                                                      all_goals repeat' (first | apply And.intro | intro _)
                                                                                                                                      all_goals
                                                                                                                                       refine hK227 _ ?_
                                                                                                                                       refine hN226 _ ?_
                                                                                                                                       refine ret_k ?_
                                                                                                                                       refine hM219 _ _ ?_
                                                                                                                                       simp only [go_sem, st_L, st_K, f0, f1, f2, f3, f4, f5, f6, f7, f8, f9, f10, f11, W3, Int.toNat_one, hcq, hup]
                                                                                                                                       all_goals (first | (rw [hres]; done) | (rw [hres]; simp only [W3]; done))
                                                                                                                                  · exfalso; revert hc; simp [go_sem, st_L, st_K, f0, f1, f2, f3, f4, f5, f6, f7, f8, f9, f10, f11, W3, decide_true, decide_false, Int.reduceAdd, Int.reduceLT, Int.reduceToNat, Int.toNat_zero, Int.toNat_one, hcq, hcq, hup]
                                                                                                                          · obtain ⟨⟨xa, xb, xc⟩, hx⟩ : ∃ x, cutN ⟨qa, qb, qc⟩ 0 = x := ⟨_, rfl⟩
                                                                                                                            rw [hx] at hcq hup
                                                                                                                            simp only [hx, T3.ls, W3]
                                                                                                                            rw [up3] at hup
                                                                                                                            simp only at hcq hup
                                                                                                                            have hres : timesT a r0 r1 = fin3 ⟨xa, xb, xc⟩ := by rw [← hx, timesT, hl5, red3]; exact congrArg fin3 (if_neg hc3)
                                                                                                                            rw [fin3, up3, if_neg hup] at hres

                                                                                                                            refine seq_k fun N228 M228 hN228 hM228 => ?_
                                                                                                                            refine seq_k fun N229 M229 hN229 hM229 => ?_
                                                                                                                            refine region_k fun K230 hK230 => ?_
                                                                                                                            simp only [go_sem, st_L, st_K, f0, f1, f2, f3, f4, f5, f6, f7, f8, f9, f10, f11, W3, Int.toNat_one, hcq, hup]
                                                                                                                            all_goals repeat' (first | apply And.intro | intro _)
                                                                                                                            all_goals
                                                                                                                             refine hK230 _ ?_
                                                                                                                             refine hN229 _ ?_
                                                                                                                             refine cond_k rfl (fun hc => ?_) (fun hc => ?_)
                                                                                                                             · exfalso; revert hc; simp [go_sem, st_L, st_K, f0, f1, f2, f3, f4, f5, f6, f7, f8, f9, f10, f11, W3, decide_true, decide_false, Int.reduceAdd, Int.reduceLT, Int.reduceToNat, Int.toNat_zero, Int.toNat_one, hcq, hcq, hup]
                                                                                                                             · try simp only [go_sem, st_L, st_K, f0, f1, f2, f3, f4, f5, f6, f7, f8, f9, f10, f11, W3, Int.toNat_one, hcq, hup] at hc
                                                                                                                               all_goals
                                                                                                                                refine exit_k ?_
                                                                                                                                refine hM228 _ _ ?_
                                                                                                                                refine hM206 _ _ ?_
                                                                                                                                refine bx205 _ ?_
                                                                                                                                refine hN204 _ ?_
                                                                                                                                refine seq_k fun N231 M231 hN231 hM231 => ?_
                                                                                                                                refine seq_k fun N232 M232 hN232 hM232 => ?_
                                                                                                                                refine region_k fun K233 hK233 => ?_
                                                                                                                                simp only [go_sem, st_L, st_K, f0, f1, f2, f3, f4, f5, f6, f7, f8, f9, f10, f11, W3, Int.toNat_one, hcq, hup]
                                                                                                                                all_goals repeat' (first | apply And.intro | intro _)
                                                                                                                                all_goals refine call_view (fun k => k) (fun _ _ => rfl) (by first | rfl | (simp only [go_sem, st_L, st_K, f0, f1, f2, f3, f4, f5, f6, f7, f8, f9, f10, f11, W3, Int.toNat_one, hcq, hup]; rfl) | simp only [go_sem, st_L, st_K, f0, f1, f2, f3, f4, f5, f6, f7, f8, f9, f10, f11, W3, Int.toNat_one, hcq, hup]) ((plus_ ⟨_, _, _⟩ ⟨_, _, _⟩).plain fun _ _ h => h) ?_
                                                                                                                                all_goals (rintro v m ⟨hR, hm⟩; subst hR; subst hm)
                                                                                                                                all_goals refine And.intro (by first | rfl | simp only [go_sem, st_L, st_K, f0, f1, f2, f3, f4, f5, f6, f7, f8, f9, f10, f11, W3, Int.toNat_one, hcq, hup]) (And.intro (by first | rfl | simp only [go_sem, st_L, st_K, f0, f1, f2, f3, f4, f5, f6, f7, f8, f9, f10, f11, W3, Int.toNat_one, hcq, hup]) ?_)
                                                                                                                                all_goals simp only [go_sem, st_L, st_K, f0, f1, f2, f3, f4, f5, f6, f7, f8, f9, f10, f11, W3, Int.toNat_one, hcq, hup]
                                                                                                                                all_goals repeat' (first | apply And.intro | intro _)
                                                                                                                                all_goals
                                                                                                                                 refine hK233 _ ?_
                                                                                                                                 refine hN232 _ ?_
                                                                                                                                 refine seq_k fun N234 M234 hN234 hM234 => ?_
                                                                                                                                 refine region_k fun K235 hK235 => ?_
                                                                                                                                 simp only [go_sem, st_L, st_K, f0, f1, f2, f3, f4, f5, f6, f7, f8, f9, f10, f11, W3, Int.toNat_one, hcq, hup]
                                                                                                                                 all_goals repeat' (first | apply And.intro | intro _)
                                                                                                                                 all_goals
                                                                                                                                  refine hK235 _ ?_
                                                                                                                                  refine hN234 _ ?_
                                                                                                                                  refine cond_k rfl (fun hc => ?_) (fun hc => ?_)
                                                                                                                                  · exfalso; revert hc; simp [go_sem, st_L, st_K, f0, f1, f2, f3, f4, f5, f6, f7, f8, f9, f10, f11, W3, decide_true, decide_false, Int.reduceAdd, Int.reduceLT, Int.reduceToNat, Int.toNat_zero, Int.toNat_one, hcq, hcq, hup]
                                                                                                                                  · try simp only [go_sem, st_L, st_K, f0, f1, f2, f3, f4, f5, f6, f7, f8, f9, f10, f11, W3, Int.toNat_one, hcq, hup] at hc
                                                                                                                                    all_goals
                                                                                                                                     refine skip_k ?_
                                                                                                                                     refine hN231 _ ?_
                                                                                                                                     refine seq_k fun N236 M236 hN236 hM236 => ?_
                                                                                                                                     refine region_k fun K237 hK237 => ?_
                                                                                                                                     simp only [go_sem, st_L, st_K, f0, f1, f2, f3, f4, f5, f6, f7, f8, f9, f10, f11, W3, Int.toNat_one, hcq, hup]
                                                                                                                                     all_goals repeat' (first | apply And.intro | intro _)
                                                                                                                                     all_goals
                                                                                                                                      refine hK237 _ ?_
                                                                                                                                      refine hN236 _ ?_
                                                                                                                                      refine ret_k ?_
                                                                                                                                      simp only [go_sem, st_L, st_K, f0, f1, f2, f3, f4, f5, f6, f7, f8, f9, f10, f11, W3, Int.toNat_one, hcq, hup]
                                                                                                                                      all_goals (first | (rw [hres]; done) | (rw [hres]; simp only [W3]; done))
                                                                                                                          · obtain ⟨⟨xa, xb, xc⟩, hx⟩ : ∃ x, cutN ⟨qa, qb, qc⟩ 1 = x := ⟨_, rfl⟩
                                                                                                                            rw [hx] at hcq hup
                                                                                                                            simp only [hx, T3.ls, W3]
                                                                                                                            rw [up3] at hup
                                                                                                                            simp only at hcq hup
                                                                                                                            have hres : timesT a r0 r1 = fin3 ⟨xa, xb, xc⟩ := by rw [← hx, timesT, hl5, red3]; exact congrArg fin3 (if_pos hc3)
                                                                                                                            rw [fin3, up3, if_pos hup] at hres

                                                                                                                            refine seq_k fun N238 M238 hN238 hM238 => ?_
                                                                                                                            refine seq_k fun N239 M239 hN239 hM239 => ?_
                                                                                                                            refine region_k fun K240 hK240 => ?_
                                                                                                                            simp only [go_sem, st_L, st_K, f0, f1, f2, f3, f4, f5, f6, f7, f8, f9, f10, f11, W3, Int.toNat_one, hcq, hup]
                                                                                                                            all_goals repeat' (first | apply And.intro | intro _)
                                                                                                                            all_goals
                                                                                                                             refine hK240 _ ?_
                                                                                                                             refine hN239 _ ?_
                                                                                                                             refine cond_k rfl (fun hc => ?_) (fun hc => ?_)
                                                                                                                             · exfalso; revert hc; simp [go_sem, st_L, st_K, f0, f1, f2, f3, f4, f5, f6, f7, f8, f9, f10, f11, W3, decide_true, decide_false, Int.reduceAdd, Int.reduceLT, Int.reduceToNat, Int.toNat_zero, Int.toNat_one, hcq, hcq, hup]
                                                                                                                             · try simp only [go_sem, st_L, st_K, f0, f1, f2, f3, f4, f5, f6, f7, f8, f9, f10, f11, W3, Int.toNat_one, hcq, hup] at hc
                                                                                                                               all_goals
                                                                                                                                refine exit_k ?_
                                                                                                                                refine hM238 _ _ ?_
                                                                                                                                refine hM206 _ _ ?_
                                                                                                                                refine bx205 _ ?_
                                                                                                                                refine hN204 _ ?_
                                                                                                                                refine seq_k fun N241 M241 hN241 hM241 => ?_
                                                                                                                                refine seq_k fun N242 M242 hN242 hM242 => ?_
                                                                                                                                refine region_k fun K243 hK243 => ?_
                                                                                                                                simp only [go_sem, st_L, st_K, f0, f1, f2, f3, f4, f5, f6, f7, f8, f9, f10, f11, W3, Int.toNat_one, hcq, hup]
                                                                                                                                all_goals repeat' (first | apply And.intro | intro _)
                                                                                                                                all_goals refine call_view (fun k => k) (fun _ _ => rfl) (by first | rfl | (simp only [go_sem, st_L, st_K, f0, f1, f2, f3, f4, f5, f6, f7, f8, f9, f10, f11, W3, Int.toNat_one, hcq, hup]; rfl) | simp only [go_sem, st_L, st_K, f0, f1, f2, f3, f4, f5, f6, f7, f8, f9, f10, f11, W3, Int.toNat_one, hcq, hup]) ((plus_ ⟨_, _, _⟩ ⟨_, _, _⟩).plain fun _ _ h => h) ?_
                                                                                                                                all_goals (rintro v m ⟨hR, hm⟩; subst hR; subst hm)
                                                                                                                                all_goals refine And.intro (by first | rfl | simp only [go_sem, st_L, st_K, f0, f1, f2, f3, f4, f5, f6, f7, f8, f9, f10, f11, W3, Int.toNat_one, hcq, hup]) (And.intro (by first | rfl | simp only [go_sem, st_L, st_K, f0, f1, f2, f3, f4, f5, f6, f7, f8, f9, f10, f11, W3, Int.toNat_one, hcq, hup]) ?_)
                                                                                                                                all_goals simp only [go_sem, st_L, st_K, f0, f1, f2, f3, f4, f5, f6, f7, f8, f9, f10, f11, W3, Int.toNat_one, hcq, hup]
                                                                                                                                all_goals repeat' (first | apply And.intro | intro _)
                                                                                                                                all_goals
                                                                                                                                 refine hK243 _ ?_
                                                                                                                                 refine hN242 _ ?_
                                                                                                                                 refine seq_k fun N244 M244 hN244 hM244 => ?_
                                                                                                                                 refine region_k fun K245 hK245 => ?_
                                                                                                                                 simp only [go_sem, st_L, st_K, f0, f1, f2, f3, f4, f5, f6, f7, f8, f9, f10, f11, W3, Int.toNat_one, hcq, hup]
                                                                                                                                 all_goals repeat' (first | apply And.intro | intro _)
                                                                                                                                 all_goals
                                                                                                                                  refine hK245 _ ?_
                                                                                                                                  refine hN244 _ ?_
                                                                                                                                  refine cond_k rfl (fun hc => ?_) (fun hc => ?_)
                                                                                                                                  · try simp only [go_sem, st_L, st_K, f0, f1, f2, f3, f4, f5, f6, f7, f8, f9, f10, f11, W3, Int.toNat_one, hcq, hup] at hc
                                                                                                                                    all_goals
                                                                                                                                     refine seq_k fun N246 M246 hN246 hM246 => ?_
                                                                                                                                     refine region_k fun K247 hK247 => ?_
                                                                                                                                     simp only [go_sem, st_L, st_K, f0, f1, f2, f3, f4, f5, f6, f7, f8, f9, f10, f11, W3, Int.toNat_one, hcq, hup]
                                                                                                                                     all_goals repeat' (first | apply And.intro | intro _)
                                                                                                                                     all_goals
                                                                                                                                      refine hK247 _ ?_
                                                                                                                                      refine hN246 _ ?_
                                                                                                                                      refine seq_k fun N248 M248 hN248 hM248 => ?_
                                                                                                                                      refine region_k fun K249 hK249 => ?_
                                                                                                                                      simp only [go_sem, st_L, st_K, f0, f1, f2, f3, f4, f5, f6, f7, f8, f9, f10, f11, W3, Int.toNat_one, hcq, hup]
                                                                                                                                      all_goals repeat' (first | apply And.intro | intro _)
                                                                                                                                      all_goals
                                                                                                                                       refine hK249 _ ?_
                                                                                                                                       refine hN248 _ ?_
                                                                                                                                       refine ret_k ?_
                                                                                                                                       refine hM241 _ _ ?_
                                                                                                                                       simp only [go_sem, st_L, st_K, f0, f1, f2, f3, f4, f5, f6, f7, f8, f9, f10, f11, W3, Int.toNat_one, hcq, hup]
                                                                                                                                       all_goals (first | (rw [hres]; done) | (rw [hres]; simp only [W3]; done))
                                                                                                                                  · exfalso; revert hc; simp [go_sem, st_L, st_K, f0, f1, f2, f3, f4, f5, f6, f7, f8, f9, f10, f11, W3, decide_true, decide_false, Int.reduceAdd, Int.reduceLT, Int.reduceToNat, Int.toNat_zero, Int.toNat_one, hcq, hcq, hup]
                                                                                                                          · obtain ⟨⟨xa, xb, xc⟩, hx⟩ : ∃ x, cutN ⟨qa, qb, qc⟩ 1 = x := ⟨_, rfl⟩
                                                                                                                            rw [hx] at hcq hup
                                                                                                                            simp only [hx, T3.ls, W3]
                                                                                                                            rw [up3] at hup
                                                                                                                            simp only at hcq hup
                                                                                                                            have hres : timesT a r0 r1 = fin3 ⟨xa, xb, xc⟩ := by rw [← hx, timesT, hl5, red3]; exact congrArg fin3 (if_pos hc3)
                                                                                                                            rw [fin3, up3, if_neg hup] at hres

                                                                                                                            refine seq_k fun N250 M250 hN250 hM250 => ?_
                                                                                                                            refine seq_k fun N251 M251 hN251 hM251 => ?_
                                                                                                                            refine region_k fun K252 hK252 => ?_
                                                                                                                            simp only [go_sem, st_L, st_K, f0, f1, f2, f3, f4, f5, f6, f7, f8, f9, f10, f11, W3, Int.toNat_one, hcq, hup]
                                                                                                                            all_goals repeat' (first | apply And.intro | intro _)
                                                                                                                            all_goals
                                                                                                                             refine hK252 _ ?_
                                                                                                                             refine hN251 _ ?_
                                                                                                                             refine cond_k rfl (fun hc => ?_) (fun hc => ?_)
                                                                                                                             · exfalso; revert hc; simp [go_sem, st_L, st_K, f0, f1, f2, f3, f4, f5, f6, f7, f8, f9, f10, f11, W3, decide_true, decide_false, Int.reduceAdd, Int.reduceLT, Int.reduceToNat, Int.toNat_zero, Int.toNat_one, hcq, hcq, hup]
                                                                                                                             · try simp only [go_sem, st_L, st_K, f0, f1, f2, f3, f4, f5, f6, f7, f8, f9, f10, f11, W3, Int.toNat_one, hcq, hup] at hc
                                                                                                                               all_goals
                                                                                                                                refine exit_k ?_
                                                                                                                                refine hM250 _ _ ?_
                                                                                                                                refine hM206 _ _ ?_
                                                                                                                                refine bx205 _ ?_
                                                                                                                                refine hN204 _ ?_
                                                                                                                                refine seq_k fun N253 M253 hN253 hM253 => ?_
                                                                                                                                refine seq_k fun N254 M254 hN254 hM254 => ?_
                                                                                                                                refine region_k fun K255 hK255 => ?_
                                                                                                                                simp only [go_sem, st_L, st_K, f0, f1, f2, f3, f4, f5, f6, f7, f8, f9, f10, f11, W3, Int.toNat_one, hcq, hup]
                                                                                                                                all_goals repeat' (first | apply And.intro | intro _)
                                                                                                                                all_goals refine call_view (fun k => k) (fun _ _ => rfl) (by first | rfl | (simp only [go_sem, st_L, st_K, f0, f1, f2, f3, f4, f5, f6, f7, f8, f9, f10, f11, W3, Int.toNat_one, hcq, hup]; rfl) | simp only [go_sem, st_L, st_K, f0, f1, f2, f3, f4, f5, f6, f7, f8, f9, f10, f11, W3, Int.toNat_one, hcq, hup]) ((plus_ ⟨_, _, _⟩ ⟨_, _, _⟩).plain fun _ _ h => h) ?_
                                                                                                                                all_goals (rintro v m ⟨hR, hm⟩; subst hR; subst hm)
                                                                                                                                all_goals refine And.intro (by first | rfl | simp only [go_sem, st_L, st_K, f0, f1, f2, f3, f4, f5, f6, f7, f8, f9, f10, f11, W3, Int.toNat_one, hcq, hup]) (And.intro (by first | rfl | simp only [go_sem, st_L, st_K, f0, f1, f2, f3, f4, f5, f6, f7, f8, f9, f10, f11, W3, Int.toNat_one, hcq, hup]) ?_)
                                                                                                                                all_goals simp only [go_sem, st_L, st_K, f0, f1, f2, f3, f4, f5, f6, f7, f8, f9, f10, f11, W3, Int.toNat_one, hcq, hup]
                                                                                                                                all_goals repeat' (first | apply And.intro | intro _)
                                                                                                                                all_goals
                                                                                                                                 refine hK255 _ ?_
                                                                                                                                 refine hN254 _ ?_
                                                                                                                                 refine seq_k fun N256 M256 hN256 hM256 => ?_
                                                                                                                                 refine region_k fun K257 hK257 => ?_
                                                                                                                                 simp only [go_sem, st_L, st_K, f0, f1, f2, f3, f4, f5, f6, f7, f8, f9, f10, f11, W3, Int.toNat_one, hcq, hup]
                                                                                                                                 all_goals repeat' (first | apply And.intro | intro _)
                                                                                                                                 all_goals
                                                                                                                                  refine hK257 _ ?_
                                                                                                                                  refine hN256 _ ?_
                                                                                                                                  refine cond_k rfl (fun hc => ?_) (fun hc => ?_)
                                                                                                                                  · exfalso; revert hc; simp [go_sem, st_L, st_K, f0, f1, f2, f3, f4, f5, f6, f7, f8, f9, f10, f11, W3, decide_true, decide_false, Int.reduceAdd, Int.reduceLT, Int.reduceToNat, Int.toNat_zero, Int.toNat_one, hcq, hcq, hup]
                                                                                                                                  · try simp only [go_sem, st_L, st_K, f0, f1, f2, f3, f4, f5, f6, f7, f8, f9, f10, f11, W3, Int.toNat_one, hcq, hup] at hc
                                                                                                                                    all_goals
                                                                                                                                     refine skip_k ?_
                                                                                                                                     refine hN253 _ ?_
                                                                                                                                     refine seq_k fun N258 M258 hN258 hM258 => ?_
                                                                                                                                     refine region_k fun K259 hK259 => ?_
                                                                                                                                     simp only [go_sem, st_L, st_K, f0, f1, f2, f3, f4, f5, f6, f7, f8, f9, f10, f11, W3, Int.toNat_one, hcq, hup]
                                                                                                                                     all_goals repeat' (first | apply And.intro | intro _)
                                                                                                                                     all_goals
                                                                                                                                      refine hK259 _ ?_
                                                                                                                                      refine hN258 _ ?_
                                                                                                                                      refine ret_k ?_
                                                                                                                                      simp only [go_sem, st_L, st_K, f0, f1, f2, f3, f4, f5, f6, f7, f8, f9, f10, f11, W3, Int.toNat_one, hcq, hup]
                                                                                                                                      all_goals (first | (rw [hres]; done) | (rw [hres]; simp only [W3]; done))
                                                                                             · exfalso; revert hc; simp
                                                                                  · exfalso; revert hc; simp
                                                                           · exfalso; revert hc; simp
                                                          · exfalso; revert hc; simp
                                               · exfalso; revert hc; simp
                                        · exfalso; revert hc; simp
                       · exfalso; revert hc; simp
            · exfalso; revert hc; simp
     · exfalso; revert hc; simp
end Go.Sy
