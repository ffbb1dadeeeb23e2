/- Walks: a block taken in, as the document tells it. -/
import Derived.Test.YthcpkdhojokhdaaveE12
set_option linter.unusedVariables false
set_option linter.unusedSimpArgs false
namespace Go.Sy
open Go.Proofs
attribute [local irreducible] atCall HT runOps runD onC onE onO onG goV goA goS onSt onGuard
theorem leN_one (n : Nat) : leN (1 :: List.replicate n 0) = 1 := by simp only [leN, leN_zeros]; rfl
theorem blk_val {l b : List UInt8} {y : Nat} (h : l ++ 1 :: List.replicate y 0 = b) (hl : b.length = 24) : val3 (lev (b.take 8)) (lev ((b.drop 8).take 8)) (lev ((b.drop 16).take 8)) = leN l + 256 ^ l.length := by
 rw [pieces24 hl, ← h, leN_append, leN_one, Nat.mul_one]
set_option maxHeartbeats 3200000 in
set_option maxRecDepth 100000 in
theorem psoaked_ (r0 r1 p0 p1 a0 a1 a2 : UInt64) (held : List UInt8) (hh : held.length = 16) (n : Int) (ha : a2.toNat < 4) (l : List UInt8) (hl : l.length ≤ 16) :
 Ct Try.prog 45 [.w (.agg (polyC r0 r1 p0 p1 a0 a1 a2 held n)), .w (.one (.pl (.str l)))] (fun v m => v = .w (.agg (polyC r0 r1 p0 p1 (sp0 (soakV a0 a1 a2 r0 r1 l)) (sp1 (soakV a0 a1 a2 r0 r1 l)) (sp2 (soakV a0 a1 a2 r0 r1 l)) (List.replicate 16 0) 0))) := by
 have hm1 : l.length + 1 ≤ 9223372036854775807 := by omega
 refine Ct.k Try.func45 rfl Try.ntmps45 (congrArg Array.toList Try.results45) (by simp) fun w0 ro => ?_
 refine seq_k fun N1 M1 hN1 hM1 => ?_
 refine region_k fun K2 hK2 => ?_
 simp only [go_sem, polyC, W3, P5.ls, hh, hm1, Int.toNat_one]
 all_goals repeat' (first | apply And.intro | intro _)
 all_goals
  refine hK2 _ ?_
  refine hN1 _ ?_
  refine seq_k fun N3 M3 hN3 hM3 => ?_
  refine region_k fun K4 hK4 => ?_
  simp only [go_sem, polyC, W3, P5.ls, hh, hm1, Int.toNat_one]
  all_goals repeat' (first | apply And.intro | intro _)
  all_goals
   refine hK4 _ ?_
   refine hN3 _ ?_
   refine seq_k fun N5 M5 hN5 hM5 => ?_
   refine block_k fun B6 bn6 bx6 br6 bi6 => ?_
   refine ht_dropE [0, 1, 9, 10] ?_
   simp only [dropE_mk, fgt_nil, fgt_cons, List.contains_cons, List.contains_nil, Nat.reduceBEq, beq_self_eq_true, Bool.or_false, Bool.or_true, Bool.true_or, Bool.false_or, Bool.false_eq_true, reduceIte]
   refine loop_k (fun y => [(5, .w (.one (.pl (.str (l ++ 1 :: List.replicate y.1 0)))))]) (fun _ => []) (fun y => 23 - l.length - y.1) (⟨0, Nat.zero_le _⟩ : {y : Nat // y ≤ 23 - l.length}) ?_ ?_ ?_
   · (simp only [go_sem, leX, List.cons_append, List.nil_append, List.replicate_zero]; try simp)
   · (simp only [go_sem, leX, List.cons_append, List.nil_append]; try simp)
   intro yy N7 M7 hN7 hM7
   simp only [List.cons_append, List.nil_append]
   obtain ⟨y, hy⟩ := yy
   obtain ⟨b, hb⟩ : ∃ b, l ++ 1 :: List.replicate y 0 = b := ⟨_, rfl⟩
   have hbl : b.length = l.length + 1 + y := by rw [← hb]; simp; omega
   simp only [hb]
   rcases Nat.lt_or_ge y (23 - l.length) with hlt | hge
   · have hcq : ((b.length : Nat) : Int) < 24 := by omega
     have hml : b.length + 1 ≤ 9223372036854775807 := by omega
     have hnx : b ++ [0] = l ++ 1 :: List.replicate (y + 1) 0 := by rw [← hb, List.append_assoc, List.cons_append, ← List.replicate_succ']
     refine seq_k fun N8 M8 hN8 hM8 => ?_
     refine seq_k fun N9 M9 hN9 hM9 => ?_
     refine region_k fun K10 hK10 => ?_
     simp only [go_sem, polyC, W3, P5.ls, hh, hm1, Int.toNat_one, hcq, hml]
     all_goals repeat' (first | apply And.intro | intro _)
     all_goals
      refine hK10 _ ?_
      refine hN9 _ ?_
      refine cond_k rfl (fun hc => ?_) (fun hc => ?_)
      · try simp only [go_sem, polyC, W3, P5.ls, hh, hm1, Int.toNat_one, hcq, hml] at hc
        all_goals
         refine skip_k ?_
         refine hN8 _ ?_
         refine block_k fun B11 bn11 bx11 br11 bi11 => ?_
         refine region_k fun K12 hK12 => ?_
         simp only [go_sem, polyC, W3, P5.ls, hh, hm1, Int.toNat_one, hcq, hml]
         all_goals repeat' (first | apply And.intro | intro _)
         all_goals
          refine hK12 _ ?_
          refine bn11 _ ?_
          refine hN7 ⟨y + 1, hlt⟩ _ ?_ ?_ ?_
          · (show 23 - l.length - (y + 1) < 23 - l.length - y; omega)
          · (simp only [hnx, go_sem, leX, List.cons_append, List.nil_append]; try simp [hnx])
          · (simp only [go_sem, leX, List.cons_append, List.nil_append]; try simp)
      · exfalso; revert hc; simp [go_sem, polyC, W3, P5.ls, hh, hm1, decide_true, decide_false, Int.reduceAdd, Int.reduceLT, Int.reduceToNat, Int.toNat_zero, Int.toNat_one, hcq, hml]
   · have hbl : b.length = 24 := by omega
     have hn := blk_val hb hbl
     have hcq : ¬ ((24 : Nat) : Int) < 24 := by omega
     obtain ⟨ps0, ps1, ps2⟩ := psoak_of (r0 := r0) (r1 := r1) (a0 := a0) (a1 := a1) hn hl ha
     refine seq_k fun N13 M13 hN13 hM13 => ?_
     refine seq_k fun N14 M14 hN14 hM14 => ?_
     refine region_k fun K15 hK15 => ?_
     simp only [go_sem, polyC, W3, P5.ls, hh, hm1, Int.toNat_one, hcq, hbl]
     all_goals repeat' (first | apply And.intro | intro _)
     all_goals
      refine hK15 _ ?_
      refine hN14 _ ?_
      refine cond_k rfl (fun hc => ?_) (fun hc => ?_)
      · exfalso; revert hc; simp [go_sem, polyC, W3, P5.ls, hh, hm1, decide_true, decide_false, Int.reduceAdd, Int.reduceLT, Int.reduceToNat, Int.toNat_zero, Int.toNat_one, hcq, hbl]
      · try simp only [go_sem, polyC, W3, P5.ls, hh, hm1, Int.toNat_one, hcq, hbl] at hc
        all_goals
         refine exit_k ?_
         refine hM13 _ _ ?_
         refine hM7 _ _ ?_
         refine bx6 _ ?_
         refine hN5 _ ?_
         refine seq_k fun N16 M16 hN16 hM16 => ?_
         refine draw_k [16, 17, 18, 19, 20, 21, 22, 23, 24, 25, 26, 6] [0, 1, 3, 0, 8, 31, 0, 64, 255, 511, 1023, 0, 4095] [] mixed (by kernel_rfl) (by simp only [go_sem]) fun K17 hK17 => ?_
         simp only [go_sem, polyC, W3, P5.ls, hh, hm1, Int.toNat_one, hcq, hbl]
         all_goals repeat' (first | apply And.intro | intro _)
         all_goals refine call_draw (fun k => k) _ [] (fun _ _ => rfl) (by first | rfl | (simp only [go_sem, polyC, W3, P5.ls, hh, hm1, Int.toNat_one, hcq, hbl]; rfl) | simp only [go_sem, polyC, W3, P5.ls, hh, hm1, Int.toNat_one, hcq, hbl]) ((number_ _ (by first | (simp [List.length_take, List.length_drop]; done) | (simp [List.length_take, List.length_drop]; omega))).plain fun _ _ h => h) ?_ ?_
         all_goals try (refine And.intro ?_ (And.intro ?_ (And.intro ?_ ?_)) <;> first | rfl | simp only [go_sem])
         all_goals simp only [go_sem, polyC, W3, P5.ls, hh, hm1, Int.toNat_one, hcq, hbl]
         all_goals repeat' (first | apply And.intro | intro _)
         all_goals refine call_draw (fun k => k) _ [] (fun _ _ => rfl) (by first | rfl | (simp only [go_sem, polyC, W3, P5.ls, hh, hm1, Int.toNat_one, hcq, hbl]; rfl) | simp only [go_sem, polyC, W3, P5.ls, hh, hm1, Int.toNat_one, hcq, hbl]) ((number_ _ (by first | (simp [List.length_take, List.length_drop]; done) | (simp [List.length_take, List.length_drop]; omega))).plain fun _ _ h => h) ?_ ?_
         all_goals try (refine And.intro ?_ (And.intro ?_ (And.intro ?_ ?_)) <;> first | rfl | simp only [go_sem])
         all_goals simp only [go_sem, polyC, W3, P5.ls, hh, hm1, Int.toNat_one, hcq, hbl]
         all_goals repeat' (first | apply And.intro | intro _)
         all_goals refine call_draw (fun k => k) _ [] (fun _ _ => rfl) (by first | rfl | (simp only [go_sem, polyC, W3, P5.ls, hh, hm1, Int.toNat_one, hcq, hbl]; rfl) | simp only [go_sem, polyC, W3, P5.ls, hh, hm1, Int.toNat_one, hcq, hbl]) ((number_ _ (by first | (simp [List.length_take, List.length_drop]; done) | (simp [List.length_take, List.length_drop]; omega))).plain fun _ _ h => h) ?_ ?_
         all_goals try (refine And.intro ?_ (And.intro ?_ (And.intro ?_ ?_)) <;> first | rfl | simp only [go_sem])
         all_goals simp only [go_sem, polyC, W3, P5.ls, hh, hm1, Int.toNat_one, hcq, hbl]
         all_goals repeat' (first | apply And.intro | intro _)
         all_goals refine call_draw (fun k => k) _ [] (fun _ _ => rfl) (by first | rfl | (simp only [go_sem, polyC, W3, P5.ls, hh, hm1, Int.toNat_one, hcq, hbl]; rfl) | simp only [go_sem, polyC, W3, P5.ls, hh, hm1, Int.toNat_one, hcq, hbl]) ((parts_of (lev (b.take 8)) (lev ((b.drop 8).take 8)) (lev ((b.drop 16).take 8))).plain fun _ _ h => h) ?_ ?_
         all_goals try (refine And.intro ?_ (And.intro ?_ (And.intro ?_ ?_)) <;> first | rfl | simp only [go_sem])
         all_goals simp only [go_sem, polyC, W3, P5.ls, hh, hm1, Int.toNat_one, hcq, hbl]
         all_goals repeat' (first | apply And.intro | intro _)
         all_goals
          refine hK17 _ _ ?_ ?_
          · first | trivial | (simp only [go_sem]; done) | (simp only [go_sem]; simp; done) | (simp only [go_sem]; simp; simp only [go_sem])
          refine hN16 _ ?_
          refine seq_k fun N18 M18 hN18 hM18 => ?_
          refine region_k fun K19 hK19 => ?_
          simp only [go_sem, polyC, W3, P5.ls, hh, hm1, Int.toNat_one, hcq, hbl]
          all_goals repeat' (first | apply And.intro | intro _)
          all_goals refine call_view (fun k => k) (fun _ _ => rfl) (by first | rfl | (simp only [go_sem, polyC, W3, P5.ls, hh, hm1, Int.toNat_one, hcq, hbl]; rfl) | simp only [go_sem, polyC, W3, P5.ls, hh, hm1, Int.toNat_one, hcq, hbl]) ((parts_of a0 a1 a2).plain fun _ _ h => h) ?_
          all_goals (rintro v m ⟨hR, hm⟩; subst hR; subst hm)
          all_goals refine And.intro (by first | rfl | simp only [go_sem, polyC, W3, P5.ls, hh, hm1, Int.toNat_one, hcq, hbl]) (And.intro (by first | rfl | simp only [go_sem, polyC, W3, P5.ls, hh, hm1, Int.toNat_one, hcq, hbl]) ?_)
          all_goals simp only [go_sem, polyC, W3, P5.ls, hh, hm1, Int.toNat_one, hcq, hbl]
          all_goals repeat' (first | apply And.intro | intro _)
          all_goals
           refine hK19 _ ?_
           refine hN18 _ ?_
           refine seq_k fun N20 M20 hN20 hM20 => ?_
           refine seq_k fun N21 M21 hN21 hM21 => ?_
           refine region_k fun K22 hK22 => ?_
           simp only [go_sem, polyC, W3, P5.ls, hh, hm1, Int.toNat_one, hcq, hbl]
           all_goals repeat' (first | apply And.intro | intro _)
           all_goals
            refine hK22 _ ?_
            refine hN21 _ ?_
            refine block_k fun B23 bn23 bx23 br23 bi23 => ?_
            refine rounds_k 6 ?_
            refine rnd_k fun N25 M25 hN25 hM25 => ?_
            refine seq_k fun N26 M26 hN26 hM26 => ?_
            refine region_k fun K27 hK27 => ?_
            simp only [go_sem, polyC, W3, P5.ls, hh, hm1, Int.toNat_one, hcq, hbl]
            all_goals repeat' (first | apply And.intro | intro _)
            all_goals
             refine hK27 _ ?_
             refine hN26 _ ?_
             refine seq_k fun N28 M28 hN28 hM28 => ?_
             refine cond_k rfl (fun hc => ?_) (fun hc => ?_)
             · try simp only [go_sem, polyC, W3, P5.ls, hh, hm1, Int.toNat_one, hcq, hbl] at hc
               all_goals
                refine skip_k ?_
                refine hN28 _ ?_
                refine seq_k fun N29 M29 hN29 hM29 => ?_
                refine block_k fun B30 bn30 bx30 br30 bi30 => ?_
                refine seq_k fun N31 M31 hN31 hM31 => ?_
                refine region_k fun K32 hK32 => ?_
                simp only [go_sem, polyC, W3, P5.ls, hh, hm1, Int.toNat_one, hcq, hbl]
                all_goals repeat' (first | apply And.intro | intro _)
                all_goals
                 refine hK32 _ ?_
                 refine hN31 _ ?_
                 refine draw_k [33, 34, 35, 36, 37, 38, 39, 40] [0, 1, 3, 0, 8, 24, 63, 127, 255] [] mixed (by kernel_rfl) (by simp only [go_sem]) fun K33 hK33 => ?_
                 simp only [go_sem, polyC, W3, P5.ls, hh, hm1, Int.toNat_one, hcq, hbl]
                 all_goals repeat' (first | apply And.intro | intro _)
                 all_goals
                  refine hK33 _ _ ?_ ?_
                  · first | trivial | (simp only [go_sem]; done) | (simp only [go_sem]; simp; done) | (simp only [go_sem]; simp; simp only [go_sem])
                  refine bn30 _ ?_
                  refine hN29 _ ?_
                  refine region_k fun K34 hK34 => ?_
                  simp only [go_sem, polyC, W3, P5.ls, hh, hm1, Int.toNat_one, hcq, hbl]
                  all_goals repeat' (first | apply And.intro | intro _)
                  all_goals
                   refine hK34 _ ?_
                   refine hN25 _ ?_
                   refine rnd_forget [8, 31, 32, 33, 34, 35, 36, 37, 38, 39, 40, 41] ?_
                   simp only [go_sem, St.forget, fgt]
                   refine rnd_k fun N35 M35 hN35 hM35 => ?_
                   refine seq_k fun N36 M36 hN36 hM36 => ?_
                   refine region_k fun K37 hK37 => ?_
                   simp only [go_sem, polyC, W3, P5.ls, hh, hm1, Int.toNat_one, hcq, hbl]
                   all_goals repeat' (first | apply And.intro | intro _)
                   all_goals
                    refine hK37 _ ?_
                    refine hN36 _ ?_
                    refine seq_k fun N38 M38 hN38 hM38 => ?_
                    refine cond_k rfl (fun hc => ?_) (fun hc => ?_)
                    · try simp only [go_sem, polyC, W3, P5.ls, hh, hm1, Int.toNat_one, hcq, hbl] at hc
                      all_goals
                       refine skip_k ?_
                       refine hN38 _ ?_
                       refine seq_k fun N39 M39 hN39 hM39 => ?_
                       refine block_k fun B40 bn40 bx40 br40 bi40 => ?_
                       refine seq_k fun N41 M41 hN41 hM41 => ?_
                       refine region_k fun K42 hK42 => ?_
                       simp only [go_sem, polyC, W3, P5.ls, hh, hm1, Int.toNat_one, hcq, hbl]
                       all_goals repeat' (first | apply And.intro | intro _)
                       all_goals
                        refine hK42 _ ?_
                        refine hN41 _ ?_
                        refine draw_k [33, 34, 35, 36, 37, 38, 39, 40] [0, 1, 3, 0, 8, 24, 63, 127, 255] [] mixed (by kernel_rfl) (by simp only [go_sem]) fun K43 hK43 => ?_
                        simp only [go_sem, polyC, W3, P5.ls, hh, hm1, Int.toNat_one, hcq, hbl]
                        all_goals repeat' (first | apply And.intro | intro _)
                        all_goals
                         refine hK43 _ _ ?_ ?_
                         · first | trivial | (simp only [go_sem]; done) | (simp only [go_sem]; simp; done) | (simp only [go_sem]; simp; simp only [go_sem])
                         refine bn40 _ ?_
                         refine hN39 _ ?_
                         refine region_k fun K44 hK44 => ?_
                         simp only [go_sem, polyC, W3, P5.ls, hh, hm1, Int.toNat_one, hcq, hbl]
                         all_goals repeat' (first | apply And.intro | intro _)
                         all_goals
                          refine hK44 _ ?_
                          refine hN35 _ ?_
                          refine rnd_forget [8, 31, 32, 33, 34, 35, 36, 37, 38, 39, 40, 41] ?_
                          simp only [go_sem, St.forget, fgt]
                          refine rnd_k fun N45 M45 hN45 hM45 => ?_
                          refine seq_k fun N46 M46 hN46 hM46 => ?_
                          refine region_k fun K47 hK47 => ?_
                          simp only [go_sem, polyC, W3, P5.ls, hh, hm1, Int.toNat_one, hcq, hbl]
                          all_goals repeat' (first | apply And.intro | intro _)
                          all_goals
                           refine hK47 _ ?_
                           refine hN46 _ ?_
                           refine seq_k fun N48 M48 hN48 hM48 => ?_
                           refine cond_k rfl (fun hc => ?_) (fun hc => ?_)
                           · try simp only [go_sem, polyC, W3, P5.ls, hh, hm1, Int.toNat_one, hcq, hbl] at hc
                             all_goals
                              refine skip_k ?_
                              refine hN48 _ ?_
                              refine seq_k fun N49 M49 hN49 hM49 => ?_
                              refine block_k fun B50 bn50 bx50 br50 bi50 => ?_
                              refine seq_k fun N51 M51 hN51 hM51 => ?_
                              refine region_k fun K52 hK52 => ?_
                              simp only [go_sem, polyC, W3, P5.ls, hh, hm1, Int.toNat_one, hcq, hbl]
                              all_goals repeat' (first | apply And.intro | intro _)
                              all_goals
                               refine hK52 _ ?_
                               refine hN51 _ ?_
                               refine draw_k [33, 34, 35, 36, 37, 38, 39, 40] [0, 1, 3, 0, 8, 24, 63, 127, 255] [] mixed (by kernel_rfl) (by simp only [go_sem]) fun K53 hK53 => ?_
                               simp only [go_sem, polyC, W3, P5.ls, hh, hm1, Int.toNat_one, hcq, hbl]
                               all_goals repeat' (first | apply And.intro | intro _)
                               all_goals
                                refine hK53 _ _ ?_ ?_
                                · first | trivial | (simp only [go_sem]; done) | (simp only [go_sem]; simp; done) | (simp only [go_sem]; simp; simp only [go_sem])
                                refine bn50 _ ?_
                                refine hN49 _ ?_
                                refine region_k fun K54 hK54 => ?_
                                simp only [go_sem, polyC, W3, P5.ls, hh, hm1, Int.toNat_one, hcq, hbl]
                                all_goals repeat' (first | apply And.intro | intro _)
                                all_goals
                                 refine hK54 _ ?_
                                 refine hN45 _ ?_
                                 refine rnd_forget [8, 31, 32, 33, 34, 35, 36, 37, 38, 39, 40, 41] ?_
                                 simp only [go_sem, St.forget, fgt]
                                 refine rnd_k fun N55 M55 hN55 hM55 => ?_
                                 refine seq_k fun N56 M56 hN56 hM56 => ?_
                                 refine region_k fun K57 hK57 => ?_
                                 simp only [go_sem, polyC, W3, P5.ls, hh, hm1, Int.toNat_one, hcq, hbl]
                                 all_goals repeat' (first | apply And.intro | intro _)
                                 all_goals
                                  refine hK57 _ ?_
                                  refine hN56 _ ?_
                                  refine seq_k fun N58 M58 hN58 hM58 => ?_
                                  refine cond_k rfl (fun hc => ?_) (fun hc => ?_)
                                  · try simp only [go_sem, polyC, W3, P5.ls, hh, hm1, Int.toNat_one, hcq, hbl] at hc
                                    all_goals
                                     refine skip_k ?_
                                     refine hN58 _ ?_
                                     refine seq_k fun N59 M59 hN59 hM59 => ?_
                                     refine block_k fun B60 bn60 bx60 br60 bi60 => ?_
                                     refine seq_k fun N61 M61 hN61 hM61 => ?_
                                     refine region_k fun K62 hK62 => ?_
                                     simp only [go_sem, polyC, W3, P5.ls, hh, hm1, Int.toNat_one, hcq, hbl]
                                     all_goals repeat' (first | apply And.intro | intro _)
                                     all_goals
                                      refine hK62 _ ?_
                                      refine hN61 _ ?_
                                      refine draw_k [33, 34, 35, 36, 37, 38, 39, 40] [0, 1, 3, 0, 8, 24, 63, 127, 255] [] mixed (by kernel_rfl) (by simp only [go_sem]) fun K63 hK63 => ?_
                                      simp only [go_sem, polyC, W3, P5.ls, hh, hm1, Int.toNat_one, hcq, hbl]
                                      all_goals repeat' (first | apply And.intro | intro _)
                                      all_goals
                                       refine hK63 _ _ ?_ ?_
                                       · first | trivial | (simp only [go_sem]; done) | (simp only [go_sem]; simp; done) | (simp only [go_sem]; simp; simp only [go_sem])
                                       refine bn60 _ ?_
                                       refine hN59 _ ?_
                                       refine region_k fun K64 hK64 => ?_
                                       simp only [go_sem, polyC, W3, P5.ls, hh, hm1, Int.toNat_one, hcq, hbl]
                                       all_goals repeat' (first | apply And.intro | intro _)
                                       all_goals
                                        refine hK64 _ ?_
                                        refine hN55 _ ?_
                                        refine rnd_forget [8, 31, 32, 33, 34, 35, 36, 37, 38, 39, 40, 41] ?_
                                        simp only [go_sem, St.forget, fgt]
                                        refine rnd_k fun N65 M65 hN65 hM65 => ?_
                                        refine seq_k fun N66 M66 hN66 hM66 => ?_
                                        refine region_k fun K67 hK67 => ?_
                                        simp only [go_sem, polyC, W3, P5.ls, hh, hm1, Int.toNat_one, hcq, hbl]
                                        all_goals repeat' (first | apply And.intro | intro _)
                                        all_goals
                                         refine hK67 _ ?_
                                         refine hN66 _ ?_
                                         refine seq_k fun N68 M68 hN68 hM68 => ?_
                                         refine cond_k rfl (fun hc => ?_) (fun hc => ?_)
                                         · try simp only [go_sem, polyC, W3, P5.ls, hh, hm1, Int.toNat_one, hcq, hbl] at hc
                                           all_goals
                                            refine skip_k ?_
                                            refine hN68 _ ?_
                                            refine seq_k fun N69 M69 hN69 hM69 => ?_
                                            refine block_k fun B70 bn70 bx70 br70 bi70 => ?_
                                            refine seq_k fun N71 M71 hN71 hM71 => ?_
                                            refine region_k fun K72 hK72 => ?_
                                            simp only [go_sem, polyC, W3, P5.ls, hh, hm1, Int.toNat_one, hcq, hbl]
                                            all_goals repeat' (first | apply And.intro | intro _)
                                            all_goals
                                             refine hK72 _ ?_
                                             refine hN71 _ ?_
                                             refine draw_k [33, 34, 35, 36, 37, 38, 39, 40] [0, 1, 3, 0, 8, 24, 63, 127, 255] [] mixed (by kernel_rfl) (by simp only [go_sem]) fun K73 hK73 => ?_
                                             simp only [go_sem, polyC, W3, P5.ls, hh, hm1, Int.toNat_one, hcq, hbl]
                                             all_goals repeat' (first | apply And.intro | intro _)
                                             all_goals
                                              refine hK73 _ _ ?_ ?_
                                              · first | trivial | (simp only [go_sem]; done) | (simp only [go_sem]; simp; done) | (simp only [go_sem]; simp; simp only [go_sem])
                                              refine bn70 _ ?_
                                              refine hN69 _ ?_
                                              refine region_k fun K74 hK74 => ?_
                                              simp only [go_sem, polyC, W3, P5.ls, hh, hm1, Int.toNat_one, hcq, hbl]
                                              all_goals repeat' (first | apply And.intro | intro _)
                                              all_goals
                                               refine hK74 _ ?_
                                               refine hN65 _ ?_
                                               refine rnd_forget [8, 31, 32, 33, 34, 35, 36, 37, 38, 39, 40, 41] ?_
                                               simp only [go_sem, St.forget, fgt]
                                               refine rnd_k fun N75 M75 hN75 hM75 => ?_
                                               refine seq_k fun N76 M76 hN76 hM76 => ?_
                                               refine region_k fun K77 hK77 => ?_
                                               simp only [go_sem, polyC, W3, P5.ls, hh, hm1, Int.toNat_one, hcq, hbl]
                                               all_goals repeat' (first | apply And.intro | intro _)
                                               all_goals
                                                refine hK77 _ ?_
                                                refine hN76 _ ?_
                                                refine seq_k fun N78 M78 hN78 hM78 => ?_
                                                refine cond_k rfl (fun hc => ?_) (fun hc => ?_)
                                                · exfalso; revert hc; simp
                                                · try simp only [go_sem, polyC, W3, P5.ls, hh, hm1, Int.toNat_one, hcq, hbl] at hc
                                                  all_goals
                                                   refine exit_k ?_
                                                   refine hM78 _ _ ?_
                                                   refine hM75 _ _ ?_
                                                   refine bx23 _ ?_
                                                   refine hN20 _ ?_
                                                   refine seq_k fun N79 M79 hN79 hM79 => ?_
                                                   refine draw_k [42, 43, 44, 45, 46, 47, 48, 49, 50, 51, 52, 53, 54] [0, 1, 0, 4, 12, 0, 32, 96, 252, 511, 1023, 2047, 4095, 8191] [] mixed (by kernel_rfl) (by simp only [go_sem]) fun K80 hK80 => ?_
                                                   simp only [go_sem, polyC, W3, P5.ls, hh, hm1, Int.toNat_one, hcq, hbl]
                                                   all_goals repeat' (first | apply And.intro | intro _)
                                                   all_goals refine call_draw (fun k => k) _ [] (fun _ _ => rfl) (by first | rfl | (simp only [go_sem, polyC, W3, P5.ls, hh, hm1, Int.toNat_one, hcq, hbl]; rfl) | simp only [go_sem, polyC, W3, P5.ls, hh, hm1, Int.toNat_one, hcq, hbl]) ((carried_of ((parts3 a0 a1 a2).addP (parts3 (lev (b.take 8)) (lev ((b.drop 8).take 8)) (lev ((b.drop 16).take 8))))).plain fun _ _ h => h) ?_ ?_
                                                   all_goals try (refine And.intro ?_ (And.intro ?_ (And.intro ?_ ?_)) <;> first | rfl | simp only [go_sem])
                                                   all_goals simp only [go_sem, polyC, W3, P5.ls, hh, hm1, Int.toNat_one, hcq, hbl]
                                                   all_goals repeat' (first | apply And.intro | intro _)
                                                   all_goals refine call_draw (fun k => k) _ [] (fun _ _ => rfl) (by first | rfl | (simp only [go_sem, polyC, W3, P5.ls, hh, hm1, Int.toNat_one, hcq, hbl]; rfl) | simp only [go_sem, polyC, W3, P5.ls, hh, hm1, Int.toNat_one, hcq, hbl]) ((parts_of r0 r1 0).plain fun _ _ h => h) ?_ ?_
                                                   all_goals try (refine And.intro ?_ (And.intro ?_ (And.intro ?_ ?_)) <;> first | rfl | simp only [go_sem])
                                                   all_goals simp only [go_sem, polyC, W3, P5.ls, hh, hm1, Int.toNat_one, hcq, hbl]
                                                   all_goals repeat' (first | apply And.intro | intro _)
                                                   all_goals refine call_draw (fun k => k) _ [] (fun _ _ => rfl) (by first | rfl | (simp only [go_sem, polyC, W3, P5.ls, hh, hm1, Int.toNat_one, hcq, hbl]; rfl) | simp only [go_sem, polyC, W3, P5.ls, hh, hm1, Int.toNat_one, hcq, hbl]) ((ptimes_ ((parts3 a0 a1 a2).addP (parts3 (lev (b.take 8)) (lev ((b.drop 8).take 8)) (lev ((b.drop 16).take 8)))).carried (parts3 r0 r1 0)).plain fun _ _ h => h) ?_ ?_
                                                   all_goals try (refine And.intro ?_ (And.intro ?_ (And.intro ?_ ?_)) <;> first | rfl | simp only [go_sem])
                                                   all_goals simp only [go_sem, polyC, W3, P5.ls, hh, hm1, Int.toNat_one, hcq, hbl]
                                                   all_goals repeat' (first | apply And.intro | intro _)
                                                   all_goals refine call_draw (fun k => k) _ [] (fun _ _ => rfl) (by first | rfl | (simp only [go_sem, polyC, W3, P5.ls, hh, hm1, Int.toNat_one, hcq, hbl]; rfl) | simp only [go_sem, polyC, W3, P5.ls, hh, hm1, Int.toNat_one, hcq, hbl]) ((whole_of (mul5 ((parts3 a0 a1 a2).addP (parts3 (lev (b.take 8)) (lev ((b.drop 8).take 8)) (lev ((b.drop 16).take 8)))).carried (parts3 r0 r1 0)).carried).plain fun _ _ h => h) ?_ ?_
                                                   all_goals try (refine And.intro ?_ (And.intro ?_ (And.intro ?_ ?_)) <;> first | rfl | simp only [go_sem])
                                                   all_goals simp only [go_sem, polyC, W3, P5.ls, hh, hm1, Int.toNat_one, hcq, hbl]
                                                   all_goals repeat' (first | apply And.intro | intro _)
                                                   all_goals
                                                    refine hK80 _ _ ?_ ?_
                                                    · first | trivial | (simp only [go_sem]; done) | (simp only [go_sem]; simp; done) | (simp only [go_sem]; simp; simp only [go_sem])
                                                    refine hN79 _ ?_
                                                    refine seq_k fun N81 M81 hN81 hM81 => ?_
                                                    refine region_k fun K82 hK82 => ?_
                                                    simp only [go_sem, polyC, W3, P5.ls, hh, hm1, Int.toNat_one, hcq, hbl]
                                                    all_goals repeat' (first | apply And.intro | intro _)
                                                    all_goals
                                                     refine hK82 _ ?_
                                                     refine hN81 _ ?_
                                                     refine seq_k fun N83 M83 hN83 hM83 => ?_
                                                     refine region_k fun K84 hK84 => ?_
                                                     simp only [go_sem, polyC, W3, P5.ls, hh, hm1, Int.toNat_one, hcq, hbl]
                                                     all_goals repeat' (first | apply And.intro | intro _)
                                                     all_goals
                                                      refine hK84 _ ?_
                                                      refine hN83 _ ?_
                                                      refine ret_k ?_
                                                      simp only [go_sem, polyC, W3, P5.ls, hh, hm1, Int.toNat_one, hcq, hbl]
                                                      all_goals (rw [ps0, ps1, ps2])
                                         · exfalso; revert hc; simp
                                  · exfalso; revert hc; simp
                           · exfalso; revert hc; simp
                    · exfalso; revert hc; simp
             · exfalso; revert hc; simp
end Go.Sy
