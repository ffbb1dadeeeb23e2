/- Walks: a sum begun, as the document tells it. -/
import Derived.Test.YthcpkdhojokhdaaveE4
set_option linter.unusedVariables false
set_option linter.unusedSimpArgs false
namespace Go.Sy
open Go.Proofs
attribute [local irreducible] atCall HT runOps runD onC onE onO onG goV goA goS onSt onGuard
set_option maxHeartbeats 3200000 in
set_option maxRecDepth 100000 in
theorem poly_begun_ (k0 k1 k2 k3 k4 k5 k6 k7 k8 k9 k10 k11 k12 k13 k14 k15 k16 k17 k18 k19 k20 k21 k22 k23 k24 k25 k26 k27 k28 k29 k30 k31 : UInt8) :
 Ct Try.prog 16 [.w (.agg [.pl (.u8 k0), .pl (.u8 k1), .pl (.u8 k2), .pl (.u8 k3), .pl (.u8 k4), .pl (.u8 k5), .pl (.u8 k6), .pl (.u8 k7), .pl (.u8 k8), .pl (.u8 k9), .pl (.u8 k10), .pl (.u8 k11), .pl (.u8 k12), .pl (.u8 k13), .pl (.u8 k14), .pl (.u8 k15), .pl (.u8 k16), .pl (.u8 k17), .pl (.u8 k18), .pl (.u8 k19), .pl (.u8 k20), .pl (.u8 k21), .pl (.u8 k22), .pl (.u8 k23), .pl (.u8 k24), .pl (.u8 k25), .pl (.u8 k26), .pl (.u8 k27), .pl (.u8 k28), .pl (.u8 k29), .pl (.u8 k30), .pl (.u8 k31)])] (fun v m => v = .w (.agg (polyC (lev [k0, k1, k2, k3 &&& 15, k4 &&& 252, k5, k6, k7 &&& 15]) (lev [k8 &&& 252, k9, k10, k11 &&& 15, k12 &&& 252, k13, k14, k15 &&& 15]) (lev [k16, k17, k18, k19, k20, k21, k22, k23]) (lev [k24, k25, k26, k27, k28, k29, k30, k31]) 0 0 0 (List.replicate 16 0) 0))) := by
 refine Ct.k Try.func16 rfl Try.ntmps16 (congrArg Array.toList Try.results16) (by simp) fun w0 ro => ?_
 refine seq_k fun N1 M1 hN1 hM1 => ?_
 refine region_k fun K2 hK2 => ?_
 simp only [go_sem, polyC, Int.toNat_one]
 all_goals repeat' (first | apply And.intro | intro _)
 all_goals
  refine hK2 _ ?_
  refine hN1 _ ?_
  refine seq_k fun N3 M3 hN3 hM3 => ?_
  refine seq_k fun N4 M4 hN4 hM4 => ?_
  refine region_k fun K5 hK5 => ?_
  simp only [go_sem, polyC, Int.toNat_one]
  all_goals repeat' (first | apply And.intro | intro _)
  all_goals
   refine hK5 _ ?_
   refine hN4 _ ?_
   refine block_k fun B6 bn6 bx6 br6 bi6 => ?_
   refine rounds_k 5 ?_
   refine rnd_k fun N8 M8 hN8 hM8 => ?_
   refine seq_k fun N9 M9 hN9 hM9 => ?_
   refine region_k fun K10 hK10 => ?_
   simp only [go_sem, polyC, Int.toNat_one]
   all_goals repeat' (first | apply And.intro | intro _)
   all_goals
    refine hK10 _ ?_
    refine hN9 _ ?_
    refine seq_k fun N11 M11 hN11 hM11 => ?_
    refine cond_k rfl (fun hc => ?_) (fun hc => ?_)
    · try simp only [go_sem, polyC, Int.toNat_one] at hc
      all_goals
       refine skip_k ?_
       refine hN11 _ ?_
       refine seq_k fun N12 M12 hN12 hM12 => ?_
       refine block_k fun B13 bn13 bx13 br13 bi13 => ?_
       refine seq_k fun N14 M14 hN14 hM14 => ?_
       refine region_k fun K15 hK15 => ?_
       simp only [go_sem, polyC, Int.toNat_one]
       all_goals repeat' (first | apply And.intro | intro _)
       all_goals
        refine hK15 _ ?_
        refine hN14 _ ?_
        refine region_k fun K16 hK16 => ?_
        simp only [go_sem, polyC, Int.toNat_one]
        all_goals repeat' (first | apply And.intro | intro _)
        all_goals
         refine hK16 _ ?_
         refine bn13 _ ?_
         refine hN12 _ ?_
         refine region_k fun K17 hK17 => ?_
         simp only [go_sem, polyC, Int.toNat_one]
         all_goals repeat' (first | apply And.intro | intro _)
         all_goals
          refine hK17 _ ?_
          refine hN8 _ ?_
          refine rnd_forget [3, 7, 8, 9, 10, 11, 12, 13, 14, 15, 16] ?_
          simp only [go_sem, St.forget, fgt]
          refine rnd_k fun N18 M18 hN18 hM18 => ?_
          refine seq_k fun N19 M19 hN19 hM19 => ?_
          refine region_k fun K20 hK20 => ?_
          simp only [go_sem, polyC, Int.toNat_one]
          all_goals repeat' (first | apply And.intro | intro _)
          all_goals
           refine hK20 _ ?_
           refine hN19 _ ?_
           refine seq_k fun N21 M21 hN21 hM21 => ?_
           refine cond_k rfl (fun hc => ?_) (fun hc => ?_)
           · try simp only [go_sem, polyC, Int.toNat_one] at hc
             all_goals
              refine skip_k ?_
              refine hN21 _ ?_
              refine seq_k fun N22 M22 hN22 hM22 => ?_
              refine block_k fun B23 bn23 bx23 br23 bi23 => ?_
              refine seq_k fun N24 M24 hN24 hM24 => ?_
              refine region_k fun K25 hK25 => ?_
              simp only [go_sem, polyC, Int.toNat_one]
              all_goals repeat' (first | apply And.intro | intro _)
              all_goals
               refine hK25 _ ?_
               refine hN24 _ ?_
               refine region_k fun K26 hK26 => ?_
               simp only [go_sem, polyC, Int.toNat_one]
               all_goals repeat' (first | apply And.intro | intro _)
               all_goals
                refine hK26 _ ?_
                refine bn23 _ ?_
                refine hN22 _ ?_
                refine region_k fun K27 hK27 => ?_
                simp only [go_sem, polyC, Int.toNat_one]
                all_goals repeat' (first | apply And.intro | intro _)
                all_goals
                 refine hK27 _ ?_
                 refine hN18 _ ?_
                 refine rnd_forget [3, 7, 8, 9, 10, 11, 12, 13, 14, 15, 16] ?_
                 simp only [go_sem, St.forget, fgt]
                 refine rnd_k fun N28 M28 hN28 hM28 => ?_
                 refine seq_k fun N29 M29 hN29 hM29 => ?_
                 refine region_k fun K30 hK30 => ?_
                 simp only [go_sem, polyC, Int.toNat_one]
                 all_goals repeat' (first | apply And.intro | intro _)
                 all_goals
                  refine hK30 _ ?_
                  refine hN29 _ ?_
                  refine seq_k fun N31 M31 hN31 hM31 => ?_
                  refine cond_k rfl (fun hc => ?_) (fun hc => ?_)
                  · try simp only [go_sem, polyC, Int.toNat_one] at hc
                    all_goals
                     refine skip_k ?_
                     refine hN31 _ ?_
                     refine seq_k fun N32 M32 hN32 hM32 => ?_
                     refine block_k fun B33 bn33 bx33 br33 bi33 => ?_
                     refine seq_k fun N34 M34 hN34 hM34 => ?_
                     refine region_k fun K35 hK35 => ?_
                     simp only [go_sem, polyC, Int.toNat_one]
                     all_goals repeat' (first | apply And.intro | intro _)
                     all_goals
                      refine hK35 _ ?_
                      refine hN34 _ ?_
                      refine region_k fun K36 hK36 => ?_
                      simp only [go_sem, polyC, Int.toNat_one]
                      all_goals repeat' (first | apply And.intro | intro _)
                      all_goals
                       refine hK36 _ ?_
                       refine bn33 _ ?_
                       refine hN32 _ ?_
                       refine region_k fun K37 hK37 => ?_
                       simp only [go_sem, polyC, Int.toNat_one]
                       all_goals repeat' (first | apply And.intro | intro _)
                       all_goals
                        refine hK37 _ ?_
                        refine hN28 _ ?_
                        refine rnd_forget [3, 7, 8, 9, 10, 11, 12, 13, 14, 15, 16] ?_
                        simp only [go_sem, St.forget, fgt]
                        refine rnd_k fun N38 M38 hN38 hM38 => ?_
                        refine seq_k fun N39 M39 hN39 hM39 => ?_
                        refine region_k fun K40 hK40 => ?_
                        simp only [go_sem, polyC, Int.toNat_one]
                        all_goals repeat' (first | apply And.intro | intro _)
                        all_goals
                         refine hK40 _ ?_
                         refine hN39 _ ?_
                         refine seq_k fun N41 M41 hN41 hM41 => ?_
                         refine cond_k rfl (fun hc => ?_) (fun hc => ?_)
                         · try simp only [go_sem, polyC, Int.toNat_one] at hc
                           all_goals
                            refine skip_k ?_
                            refine hN41 _ ?_
                            refine seq_k fun N42 M42 hN42 hM42 => ?_
                            refine block_k fun B43 bn43 bx43 br43 bi43 => ?_
                            refine seq_k fun N44 M44 hN44 hM44 => ?_
                            refine region_k fun K45 hK45 => ?_
                            simp only [go_sem, polyC, Int.toNat_one]
                            all_goals repeat' (first | apply And.intro | intro _)
                            all_goals
                             refine hK45 _ ?_
                             refine hN44 _ ?_
                             refine region_k fun K46 hK46 => ?_
                             simp only [go_sem, polyC, Int.toNat_one]
                             all_goals repeat' (first | apply And.intro | intro _)
                             all_goals
                              refine hK46 _ ?_
                              refine bn43 _ ?_
                              refine hN42 _ ?_
                              refine region_k fun K47 hK47 => ?_
                              simp only [go_sem, polyC, Int.toNat_one]
                              all_goals repeat' (first | apply And.intro | intro _)
                              all_goals
                               refine hK47 _ ?_
                               refine hN38 _ ?_
                               refine rnd_forget [3, 7, 8, 9, 10, 11, 12, 13, 14, 15, 16] ?_
                               simp only [go_sem, St.forget, fgt]
                               refine rnd_k fun N48 M48 hN48 hM48 => ?_
                               refine seq_k fun N49 M49 hN49 hM49 => ?_
                               refine region_k fun K50 hK50 => ?_
                               simp only [go_sem, polyC, Int.toNat_one]
                               all_goals repeat' (first | apply And.intro | intro _)
                               all_goals
                                refine hK50 _ ?_
                                refine hN49 _ ?_
                                refine seq_k fun N51 M51 hN51 hM51 => ?_
                                refine cond_k rfl (fun hc => ?_) (fun hc => ?_)
                                · exfalso; revert hc; simp
                                · try simp only [go_sem, polyC, Int.toNat_one] at hc
                                  all_goals
                                   refine exit_k ?_
                                   refine hM51 _ _ ?_
                                   refine hM48 _ _ ?_
                                   refine bx6 _ ?_
                                   refine hN3 _ ?_
                                   refine seq_k fun N52 M52 hN52 hM52 => ?_
                                   refine seq_k fun N53 M53 hN53 hM53 => ?_
                                   refine region_k fun K54 hK54 => ?_
                                   simp only [go_sem, polyC, Int.toNat_one]
                                   all_goals repeat' (first | apply And.intro | intro _)
                                   all_goals
                                    refine hK54 _ ?_
                                    refine hN53 _ ?_
                                    refine block_k fun B55 bn55 bx55 br55 bi55 => ?_
                                    refine rounds_k 4 ?_
                                    refine rnd_k fun N57 M57 hN57 hM57 => ?_
                                    refine seq_k fun N58 M58 hN58 hM58 => ?_
                                    refine seq_k fun N59 M59 hN59 hM59 => ?_
                                    refine region_k fun K60 hK60 => ?_
                                    simp only [go_sem, polyC, Int.toNat_one]
                                    all_goals repeat' (first | apply And.intro | intro _)
                                    all_goals
                                     refine hK60 _ ?_
                                     refine hN59 _ ?_
                                     refine cond_k rfl (fun hc => ?_) (fun hc => ?_)
                                     · try simp only [go_sem, polyC, Int.toNat_one] at hc
                                       all_goals
                                        refine skip_k ?_
                                        refine hN58 _ ?_
                                        refine seq_k fun N61 M61 hN61 hM61 => ?_
                                        refine block_k fun B62 bn62 bx62 br62 bi62 => ?_
                                        refine region_k fun K63 hK63 => ?_
                                        simp only [go_sem, polyC, Int.toNat_one]
                                        all_goals repeat' (first | apply And.intro | intro _)
                                        all_goals
                                         refine hK63 _ ?_
                                         refine bn62 _ ?_
                                         refine hN61 _ ?_
                                         refine region_k fun K64 hK64 => ?_
                                         simp only [go_sem, polyC, Int.toNat_one]
                                         all_goals repeat' (first | apply And.intro | intro _)
                                         all_goals
                                          refine hK64 _ ?_
                                          refine hN57 _ ?_
                                          refine rnd_forget [17, 18, 19, 20, 21, 22, 23, 24, 25] ?_
                                          simp only [go_sem, St.forget, fgt]
                                          refine rnd_k fun N65 M65 hN65 hM65 => ?_
                                          refine seq_k fun N66 M66 hN66 hM66 => ?_
                                          refine seq_k fun N67 M67 hN67 hM67 => ?_
                                          refine region_k fun K68 hK68 => ?_
                                          simp only [go_sem, polyC, Int.toNat_one]
                                          all_goals repeat' (first | apply And.intro | intro _)
                                          all_goals
                                           refine hK68 _ ?_
                                           refine hN67 _ ?_
                                           refine cond_k rfl (fun hc => ?_) (fun hc => ?_)
                                           · try simp only [go_sem, polyC, Int.toNat_one] at hc
                                             all_goals
                                              refine skip_k ?_
                                              refine hN66 _ ?_
                                              refine seq_k fun N69 M69 hN69 hM69 => ?_
                                              refine block_k fun B70 bn70 bx70 br70 bi70 => ?_
                                              refine region_k fun K71 hK71 => ?_
                                              simp only [go_sem, polyC, Int.toNat_one]
                                              all_goals repeat' (first | apply And.intro | intro _)
                                              all_goals
                                               refine hK71 _ ?_
                                               refine bn70 _ ?_
                                               refine hN69 _ ?_
                                               refine region_k fun K72 hK72 => ?_
                                               simp only [go_sem, polyC, Int.toNat_one]
                                               all_goals repeat' (first | apply And.intro | intro _)
                                               all_goals
                                                refine hK72 _ ?_
                                                refine hN65 _ ?_
                                                refine rnd_forget [17, 18, 19, 20, 21, 22, 23, 24, 25] ?_
                                                simp only [go_sem, St.forget, fgt]
                                                refine rnd_k fun N73 M73 hN73 hM73 => ?_
                                                refine seq_k fun N74 M74 hN74 hM74 => ?_
                                                refine seq_k fun N75 M75 hN75 hM75 => ?_
                                                refine region_k fun K76 hK76 => ?_
                                                simp only [go_sem, polyC, Int.toNat_one]
                                                all_goals repeat' (first | apply And.intro | intro _)
                                                all_goals
                                                 refine hK76 _ ?_
                                                 refine hN75 _ ?_
                                                 refine cond_k rfl (fun hc => ?_) (fun hc => ?_)
                                                 · try simp only [go_sem, polyC, Int.toNat_one] at hc
                                                   all_goals
                                                    refine skip_k ?_
                                                    refine hN74 _ ?_
                                                    refine seq_k fun N77 M77 hN77 hM77 => ?_
                                                    refine block_k fun B78 bn78 bx78 br78 bi78 => ?_
                                                    refine region_k fun K79 hK79 => ?_
                                                    simp only [go_sem, polyC, Int.toNat_one]
                                                    all_goals repeat' (first | apply And.intro | intro _)
                                                    all_goals
                                                     refine hK79 _ ?_
                                                     refine bn78 _ ?_
                                                     refine hN77 _ ?_
                                                     refine region_k fun K80 hK80 => ?_
                                                     simp only [go_sem, polyC, Int.toNat_one]
                                                     all_goals repeat' (first | apply And.intro | intro _)
                                                     all_goals
                                                      refine hK80 _ ?_
                                                      refine hN73 _ ?_
                                                      refine rnd_forget [17, 18, 19, 20, 21, 22, 23, 24, 25] ?_
                                                      simp only [go_sem, St.forget, fgt]
                                                      refine rnd_k fun N81 M81 hN81 hM81 => ?_
                                                      refine seq_k fun N82 M82 hN82 hM82 => ?_
                                                      refine seq_k fun N83 M83 hN83 hM83 => ?_
                                                      refine region_k fun K84 hK84 => ?_
                                                      simp only [go_sem, polyC, Int.toNat_one]
                                                      all_goals repeat' (first | apply And.intro | intro _)
                                                      all_goals
                                                       refine hK84 _ ?_
                                                       refine hN83 _ ?_
                                                       refine cond_k rfl (fun hc => ?_) (fun hc => ?_)
                                                       · exfalso; revert hc; simp
                                                       · try simp only [go_sem, polyC, Int.toNat_one] at hc
                                                         all_goals
                                                          refine exit_k ?_
                                                          refine hM82 _ _ ?_
                                                          refine hM81 _ _ ?_
                                                          refine bx55 _ ?_
                                                          refine hN52 _ ?_
                                                          refine seq_k fun N85 M85 hN85 hM85 => ?_
                                                          refine region_k fun K86 hK86 => ?_
                                                          simp only [go_sem, polyC, Int.toNat_one]
                                                          all_goals repeat' (first | apply And.intro | intro _)
                                                          all_goals
                                                           refine hK86 _ ?_
                                                           refine hN85 _ ?_
                                                           refine seq_k fun N87 M87 hN87 hM87 => ?_
                                                           refine draw_k [28, 29, 30, 31, 32, 33, 34, 35, 36, 37, 38, 39, 40, 41, 42] [0, 1, 3, 0, 8, 31, 63, 0, 128, 447, 0, 1024, 4031, 8127, 16383, 32767] [] mixed (by kernel_rfl) (by simp only [go_sem]) fun K88 hK88 => ?_
                                                           simp only [go_sem, polyC, Int.toNat_one]
                                                           all_goals repeat' (first | apply And.intro | intro _)
                                                           all_goals refine call_draw (fun k => k) _ [] (fun _ _ => rfl) (by first | rfl | (simp only [go_sem, polyC, Int.toNat_one]; rfl) | simp only [go_sem, polyC, Int.toNat_one]) ((number_ _ (by simp)).plain fun _ _ h => h) ?_ ?_
                                                           all_goals try (refine And.intro ?_ (And.intro ?_ (And.intro ?_ ?_)) <;> first | rfl | simp only [go_sem])
                                                           all_goals simp only [go_sem, polyC, Int.toNat_one]
                                                           all_goals repeat' (first | apply And.intro | intro _)
                                                           all_goals refine call_draw (fun k => k) _ [] (fun _ _ => rfl) (by first | rfl | (simp only [go_sem, polyC, Int.toNat_one]; rfl) | simp only [go_sem, polyC, Int.toNat_one]) ((number_ _ (by simp)).plain fun _ _ h => h) ?_ ?_
                                                           all_goals try (refine And.intro ?_ (And.intro ?_ (And.intro ?_ ?_)) <;> first | rfl | simp only [go_sem])
                                                           all_goals simp only [go_sem, polyC, Int.toNat_one]
                                                           all_goals repeat' (first | apply And.intro | intro _)
                                                           all_goals refine call_draw (fun k => k) _ [] (fun _ _ => rfl) (by first | rfl | (simp only [go_sem, polyC, Int.toNat_one]; rfl) | simp only [go_sem, polyC, Int.toNat_one]) ((number_ _ (by simp)).plain fun _ _ h => h) ?_ ?_
                                                           all_goals try (refine And.intro ?_ (And.intro ?_ (And.intro ?_ ?_)) <;> first | rfl | simp only [go_sem])
                                                           all_goals simp only [go_sem, polyC, Int.toNat_one]
                                                           all_goals repeat' (first | apply And.intro | intro _)
                                                           all_goals refine call_draw (fun k => k) _ [] (fun _ _ => rfl) (by first | rfl | (simp only [go_sem, polyC, Int.toNat_one]; rfl) | simp only [go_sem, polyC, Int.toNat_one]) ((number_ _ (by simp)).plain fun _ _ h => h) ?_ ?_
                                                           all_goals try (refine And.intro ?_ (And.intro ?_ (And.intro ?_ ?_)) <;> first | rfl | simp only [go_sem])
                                                           all_goals simp only [go_sem, polyC, Int.toNat_one]
                                                           all_goals repeat' (first | apply And.intro | intro _)
                                                           all_goals
                                                            refine hK88 _ _ ?_ ?_
                                                            · first | trivial | (simp only [go_sem]; done) | (simp only [go_sem]; simp; done) | (simp only [go_sem]; simp; simp only [go_sem])
                                                            refine hN87 _ ?_
                                                            refine ret_k ?_
                                                            simp only [go_sem, polyC, Int.toNat_one]
                                                            all_goals (first | rfl | simp [polyC])
                                                 · exfalso; revert hc; simp
                                           · exfalso; revert hc; simp
                                     · exfalso; revert hc; simp
                         · exfalso; revert hc; simp
                  · exfalso; revert hc; simp
           · exfalso; revert hc; simp
    · exfalso; revert hc; simp
theorem lev_m0 (b0 b1 b2 b3 b4 b5 b6 b7 : UInt8) : lev [b0, b1, b2, b3 &&& 15, b4 &&& 252, b5, b6, b7 &&& 15] = lev [b0, b1, b2, b3, b4, b5, b6, b7] &&& 1152921487695413247 := by
 apply UInt64.toNat_inj.mp
 rw [UInt64.toNat_and, lev_nat (by simp), lev_nat (by simp)]
 simp only [leN, UInt8.toNat_and]
 show (b0.toNat + 256 * (b1.toNat + 256 * (b2.toNat + 256 * ((b3.toNat &&& 15) + 256 * ((b4.toNat &&& 252) + 256 * (b5.toNat + 256 * (b6.toNat + 256 * ((b7.toNat &&& 15) + 256 * 0)))))))) = (b0.toNat + 256 * (b1.toNat + 256 * (b2.toNat + 256 * (b3.toNat + 256 * (b4.toNat + 256 * (b5.toNat + 256 * (b6.toNat + 256 * (b7.toNat + 256 * 0)))))))) &&& (255 + 256 * (255 + 256 * (255 + 256 * (15 + 256 * (252 + 256 * (255 + 256 * (255 + 256 * (15 + 256 * 0))))))))
 have h0 := b0.toNat_lt
 have g0 : b0.toNat &&& 255 = b0.toNat := by rw [show (255 : Nat) = 2 ^ 8 - 1 from rfl, Nat.and_two_pow_sub_one_eq_mod, Nat.mod_eq_of_lt h0]
 have h1 := b1.toNat_lt
 have g1 : b1.toNat &&& 255 = b1.toNat := by rw [show (255 : Nat) = 2 ^ 8 - 1 from rfl, Nat.and_two_pow_sub_one_eq_mod, Nat.mod_eq_of_lt h1]
 have h2 := b2.toNat_lt
 have g2 : b2.toNat &&& 255 = b2.toNat := by rw [show (255 : Nat) = 2 ^ 8 - 1 from rfl, Nat.and_two_pow_sub_one_eq_mod, Nat.mod_eq_of_lt h2]
 have h3 := b3.toNat_lt
 have g3 : b3.toNat &&& 255 = b3.toNat := by rw [show (255 : Nat) = 2 ^ 8 - 1 from rfl, Nat.and_two_pow_sub_one_eq_mod, Nat.mod_eq_of_lt h3]
 have h4 := b4.toNat_lt
 have g4 : b4.toNat &&& 255 = b4.toNat := by rw [show (255 : Nat) = 2 ^ 8 - 1 from rfl, Nat.and_two_pow_sub_one_eq_mod, Nat.mod_eq_of_lt h4]
 have h5 := b5.toNat_lt
 have g5 : b5.toNat &&& 255 = b5.toNat := by rw [show (255 : Nat) = 2 ^ 8 - 1 from rfl, Nat.and_two_pow_sub_one_eq_mod, Nat.mod_eq_of_lt h5]
 have h6 := b6.toNat_lt
 have g6 : b6.toNat &&& 255 = b6.toNat := by rw [show (255 : Nat) = 2 ^ 8 - 1 from rfl, Nat.and_two_pow_sub_one_eq_mod, Nat.mod_eq_of_lt h6]
 have h7 := b7.toNat_lt
 have g7 : b7.toNat &&& 255 = b7.toNat := by rw [show (255 : Nat) = 2 ^ 8 - 1 from rfl, Nat.and_two_pow_sub_one_eq_mod, Nat.mod_eq_of_lt h7]
 rw [and_step (a := b0.toNat) h0 (by decide), and_step (a := b1.toNat) h1 (by decide), and_step (a := b2.toNat) h2 (by decide), and_step (a := b3.toNat) h3 (by decide), and_step (a := b4.toNat) h4 (by decide), and_step (a := b5.toNat) h5 (by decide), and_step (a := b6.toNat) h6 (by decide), and_step (a := b7.toNat) h7 (by decide), Nat.zero_and, g0, g1, g2, g5, g6]
theorem lev_m1 (b0 b1 b2 b3 b4 b5 b6 b7 : UInt8) : lev [b0 &&& 252, b1, b2, b3 &&& 15, b4 &&& 252, b5, b6, b7 &&& 15] = lev [b0, b1, b2, b3, b4, b5, b6, b7] &&& 1152921487695413244 := by
 apply UInt64.toNat_inj.mp
 rw [UInt64.toNat_and, lev_nat (by simp), lev_nat (by simp)]
 simp only [leN, UInt8.toNat_and]
 show ((b0.toNat &&& 252) + 256 * (b1.toNat + 256 * (b2.toNat + 256 * ((b3.toNat &&& 15) + 256 * ((b4.toNat &&& 252) + 256 * (b5.toNat + 256 * (b6.toNat + 256 * ((b7.toNat &&& 15) + 256 * 0)))))))) = (b0.toNat + 256 * (b1.toNat + 256 * (b2.toNat + 256 * (b3.toNat + 256 * (b4.toNat + 256 * (b5.toNat + 256 * (b6.toNat + 256 * (b7.toNat + 256 * 0)))))))) &&& (252 + 256 * (255 + 256 * (255 + 256 * (15 + 256 * (252 + 256 * (255 + 256 * (255 + 256 * (15 + 256 * 0))))))))
 have h0 := b0.toNat_lt
 have g0 : b0.toNat &&& 255 = b0.toNat := by rw [show (255 : Nat) = 2 ^ 8 - 1 from rfl, Nat.and_two_pow_sub_one_eq_mod, Nat.mod_eq_of_lt h0]
 have h1 := b1.toNat_lt
 have g1 : b1.toNat &&& 255 = b1.toNat := by rw [show (255 : Nat) = 2 ^ 8 - 1 from rfl, Nat.and_two_pow_sub_one_eq_mod, Nat.mod_eq_of_lt h1]
 have h2 := b2.toNat_lt
 have g2 : b2.toNat &&& 255 = b2.toNat := by rw [show (255 : Nat) = 2 ^ 8 - 1 from rfl, Nat.and_two_pow_sub_one_eq_mod, Nat.mod_eq_of_lt h2]
 have h3 := b3.toNat_lt
 have g3 : b3.toNat &&& 255 = b3.toNat := by rw [show (255 : Nat) = 2 ^ 8 - 1 from rfl, Nat.and_two_pow_sub_one_eq_mod, Nat.mod_eq_of_lt h3]
 have h4 := b4.toNat_lt
 have g4 : b4.toNat &&& 255 = b4.toNat := by rw [show (255 : Nat) = 2 ^ 8 - 1 from rfl, Nat.and_two_pow_sub_one_eq_mod, Nat.mod_eq_of_lt h4]
 have h5 := b5.toNat_lt
 have g5 : b5.toNat &&& 255 = b5.toNat := by rw [show (255 : Nat) = 2 ^ 8 - 1 from rfl, Nat.and_two_pow_sub_one_eq_mod, Nat.mod_eq_of_lt h5]
 have h6 := b6.toNat_lt
 have g6 : b6.toNat &&& 255 = b6.toNat := by rw [show (255 : Nat) = 2 ^ 8 - 1 from rfl, Nat.and_two_pow_sub_one_eq_mod, Nat.mod_eq_of_lt h6]
 have h7 := b7.toNat_lt
 have g7 : b7.toNat &&& 255 = b7.toNat := by rw [show (255 : Nat) = 2 ^ 8 - 1 from rfl, Nat.and_two_pow_sub_one_eq_mod, Nat.mod_eq_of_lt h7]
 rw [and_step (a := b0.toNat) h0 (by decide), and_step (a := b1.toNat) h1 (by decide), and_step (a := b2.toNat) h2 (by decide), and_step (a := b3.toNat) h3 (by decide), and_step (a := b4.toNat) h4 (by decide), and_step (a := b5.toNat) h5 (by decide), and_step (a := b6.toNat) h6 (by decide), and_step (a := b7.toNat) h7 (by decide), Nat.zero_and, g1, g2, g5, g6]
theorem poly_begun (key : List UInt8) (hk : key.length = 32) : Ct Try.prog 16 [.w (.agg (bytesC key))] (fun v m => v = .w (.agg (begC key))) := by
 match key, hk with
 | [k0, k1, k2, k3, k4, k5, k6, k7, k8, k9, k10, k11, k12, k13, k14, k15, k16, k17, k18, k19, k20, k21, k22, k23, k24, k25, k26, k27, k28, k29, k30, k31], _ =>
  have h := poly_begun_ k0 k1 k2 k3 k4 k5 k6 k7 k8 k9 k10 k11 k12 k13 k14 k15 k16 k17 k18 k19 k20 k21 k22 k23 k24 k25 k26 k27 k28 k29 k30 k31
  rw [lev_m0, lev_m1] at h
  exact h
end Go.Sy
