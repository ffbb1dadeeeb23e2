/- Walks: frames compared; the law on frames that are fed. -/
import Derived.Test.YtmopmlnpoeeomaavaF3
set_option linter.unusedVariables false
set_option linter.unusedSimpArgs false
namespace Go.Sy
open Go.Proofs
attribute [local irreducible] atCall HT runOps runD onC onE onO onG goV goA goS onSt onGuard
set_option maxHeartbeats 400000 in
theorem same_bytesF (e1 e2 : Bool) (r1 r2 : List UInt8) :
    Ct Try.prog 17 [.w (.one (.pl (.R e1 1 (byteRows r1)))), .w (.one (.pl (.R e2 1 (byteRows r2))))] (fun v m => v = .w (.one (.pl (.b (decide (r1 = r2)))))) := by
  refine Ct.k Try.func17 rfl Try.ntmps17 (congrArg Array.toList Try.results17) (by simp) fun w0 ro => ?_
  refine seq_k fun N1 M1 hN1 hM1 => ?_
  refine region_k fun K2 hK2 => ?_
  simp only [go_sem]
  all_goals repeat' (first | apply And.intro | intro _)
  all_goals
    refine hK2 _ ?_
    refine hN1 _ ?_
    refine seq_k fun N3 M3 hN3 hM3 => ?_
    refine region_k fun K4 hK4 => ?_
    simp only [go_sem]
    all_goals repeat' (first | apply And.intro | intro _)
    all_goals
      refine hK4 _ ?_
      refine hN3 _ ?_
      refine ret_k ?_
      simp only [go_sem]
      all_goals rfl
set_option maxHeartbeats 800000 in
set_option maxRecDepth 100000 in
theorem same_frames (l : List FrD) (hl : l.length ≤ 1048576) (ex ex2 : Bool) :
    Ct Try.prog 22 [.w (.one (.pl (.R ex 3 (frRows l)))), .w (.one (.pl (.R ex2 3 (frRows l))))] (fun v m => v = .w (.one (.pl (.b true)))) := by
  refine Ct.k Try.func22 rfl Try.ntmps22 (congrArg Array.toList Try.results22) (by simp) fun w0 ro => ?_
  refine seq_k fun N1 M1 hN1 hM1 => ?_
  refine region_k fun K2 hK2 => ?_
  simp only [go_sem, decide_false, decide_true, Bool.not_true, Bool.not_false]
  all_goals repeat' (first | apply And.intro | intro _)
  all_goals
    refine hK2 _ ?_
    refine hN1 _ ?_
    refine seq_k fun N3 M3 hN3 hM3 => ?_
    refine seq_k fun N4 M4 hN4 hM4 => ?_
    refine region_k fun K5 hK5 => ?_
    simp only [go_sem, decide_false, decide_true, Bool.not_true, Bool.not_false]
    all_goals repeat' (first | apply And.intro | intro _)
    all_goals
      refine hK5 _ ?_
      refine hN4 _ ?_
      refine cond_k rfl (fun hc => ?_) (fun hc => ?_)
      · exfalso; revert hc; simp [go_sem, decide_false, decide_true, Bool.not_true, Bool.not_false]
      · try simp only [go_sem, decide_false, decide_true, Bool.not_true, Bool.not_false] at hc
        all_goals
          refine skip_k ?_
          refine hN3 _ ?_
          refine seq_k fun N6 M6 hN6 hM6 => ?_
          refine seq_k fun N7 M7 hN7 hM7 => ?_
          refine region_k fun K8 hK8 => ?_
          simp only [go_sem, decide_false, decide_true, Bool.not_true, Bool.not_false]
          all_goals repeat' (first | apply And.intro | intro _)
          all_goals
            refine hK8 _ ?_
            refine hN7 _ ?_
            refine block_k fun B9 bn9 bx9 br9 bi9 => ?_
            refine ht_dropE [6, 7, 8, 9, 10, 11] ?_
            simp only [dropE_mk, fgt_nil, fgt_cons, List.contains_cons, List.contains_nil, Nat.reduceBEq, beq_self_eq_true, Bool.or_false, Bool.or_true, Bool.true_or, Bool.false_or, Bool.false_eq_true, reduceIte]
            refine loop_k (fun i => [(13, .w (.one (.pl (.i (i.1 : Nat)))))]) (fun _ => []) (fun i => l.length - i.1) (⟨0, Nat.zero_le _⟩ : {i : Nat // i ≤ l.length}) ?_ ?_ ?_
            · (simp only [go_sem, leX, List.cons_append, List.nil_append]; try simp)
            · (simp only [go_sem, leX, List.cons_append, List.nil_append]; try simp)
            intro ⟨i, hi⟩ N10 M10 hN10 hM10
            simp only [List.cons_append, List.nil_append]
            rcases Nat.lt_or_ge i l.length with hlt | hge
            · obtain ⟨f, hf⟩ : ∃ f, l[i]? = some f := ⟨l[i], List.getElem?_eq_getElem hlt⟩
              have hg0 := frRows_get hf
              have hc1 : ((i : Nat) : Int) < ((l.length : Nat) : Int) := by omega
              have hc2 : (0 : Int) ≤ ((i : Nat) : Int) := by omega
              have hs1 : Go.RowKit.wrap64 (((i : Nat) : Int) + 1) = ((i + 1 : Nat) : Int) := wnat (by omega) (by omega)
              refine seq_k fun N11 M11 hN11 hM11 => ?_
              refine region_k fun K12 hK12 => ?_
              simp only [go_sem, decide_false, decide_true, Bool.not_true, Bool.not_false, hg0, frC, hc1, hc2, hs1, Int.toNat_natCast, bytesR_rows]
              all_goals repeat' (first | apply And.intro | intro _)
              all_goals
                refine hK12 _ ?_
                refine hN11 _ ?_
                refine seq_k fun N13 M13 hN13 hM13 => ?_
                refine cond_k rfl (fun hc => ?_) (fun hc => ?_)
                · try simp only [go_sem, decide_false, decide_true, Bool.not_true, Bool.not_false, hg0, frC, hc1, hc2, hs1, Int.toNat_natCast, bytesR_rows] at hc
                  all_goals
                    refine skip_k ?_
                    refine hN13 _ ?_
                    refine seq_k fun N14 M14 hN14 hM14 => ?_
                    refine block_k fun B15 bn15 bx15 br15 bi15 => ?_
                    refine seq_k fun N16 M16 hN16 hM16 => ?_
                    refine region_k fun K17 hK17 => ?_
                    simp only [go_sem, decide_false, decide_true, Bool.not_true, Bool.not_false, hg0, frC, hc1, hc2, hs1, Int.toNat_natCast, bytesR_rows]
                    all_goals repeat' (first | apply And.intro | intro _)
                    all_goals
                      refine hK17 _ ?_
                      refine hN16 _ ?_
                      refine seq_k fun N18 M18 hN18 hM18 => ?_
                      refine draw_k [16, 17, 18, 19, 20, 21, 22, 23, 24, 25, 26, 27, 28, 29, 30, 31, 32, 33, 34, 35, 36, 37, 38, 39, 40, 41, 42, 43, 44, 45, 46, 47, 48, 49, 50, 51, 52, 53, 54] [0, 0, 3, 7, 15, 0, 0, 96, 224, 480, 1023, 2047, 4095, 4095, 16383, 32767, 65535, 4095, 4095, 397311, 921599, 1970175, 4194303, 8388607, 16777215, 33554431, 33554431, 134217727, 268435455, 536870911, 1073741823, 33554431, 33554431, 6476005375, 15065939967, 32245809151, 66605547519, 137438953471, 274877906943] [] mixed (by kernel_rfl) (by simp only [go_sem]) fun K19 hK19 => ?_
                      simp only [go_sem, decide_false, decide_true, Bool.not_true, Bool.not_false, hg0, frC, hc1, hc2, hs1, Int.toNat_natCast, bytesR_rows]
                      all_goals repeat' (first | apply And.intro | intro _)
                      all_goals
                        refine hK19 _ _ ?_ ?_
                        · first | trivial | (simp only [go_sem]; done) | (simp only [go_sem]; simp; done) | (simp only [go_sem]; simp; simp only [go_sem])
                        refine hN18 _ ?_
                        refine cond_k rfl (fun hc => ?_) (fun hc => ?_)
                        · exfalso; revert hc; simp [go_sem, decide_false, decide_true, Bool.not_true, Bool.not_false, hg0, frC, hc1, hc2, hs1, Int.toNat_natCast, bytesR_rows]
                        · try simp only [go_sem, decide_false, decide_true, Bool.not_true, Bool.not_false, hg0, frC, hc1, hc2, hs1, Int.toNat_natCast, bytesR_rows] at hc
                          all_goals
                            refine skip_k ?_
                            refine bn15 _ ?_
                            refine hN14 _ ?_
                            refine region_k fun K20 hK20 => ?_
                            simp only [go_sem, decide_false, decide_true, Bool.not_true, Bool.not_false, hg0, frC, hc1, hc2, hs1, Int.toNat_natCast, bytesR_rows]
                            all_goals repeat' (first | apply And.intro | intro _)
                            all_goals
                              refine hK20 _ ?_
                              refine hN10 ⟨i + 1, hlt⟩ _ ?_ ?_ ?_
                              · (clear hs1; show l.length - (i + 1) < l.length - i; omega)
                              · (simp only [go_sem, leX, List.cons_append, List.nil_append]; try simp)
                              · (simp only [go_sem, leX, List.cons_append, List.nil_append]; try simp)
                · exfalso; revert hc; simp [go_sem, decide_false, decide_true, Bool.not_true, Bool.not_false, hg0, frC, hc1, hc2, hs1, Int.toNat_natCast, bytesR_rows]
            · have hc1 : ¬ ((i : Nat) : Int) < ((l.length : Nat) : Int) := by omega
              refine seq_k fun N21 M21 hN21 hM21 => ?_
              refine region_k fun K22 hK22 => ?_
              simp only [go_sem, decide_false, decide_true, Bool.not_true, Bool.not_false, hc1]
              all_goals repeat' (first | apply And.intro | intro _)
              all_goals
                refine hK22 _ ?_
                refine hN21 _ ?_
                refine seq_k fun N23 M23 hN23 hM23 => ?_
                refine cond_k rfl (fun hc => ?_) (fun hc => ?_)
                · exfalso; revert hc; simp [go_sem, decide_false, decide_true, Bool.not_true, Bool.not_false, hc1]
                · try simp only [go_sem, decide_false, decide_true, Bool.not_true, Bool.not_false, hc1] at hc
                  all_goals
                    refine exit_k ?_
                    refine hM23 _ _ ?_
                    refine hM10 _ _ ?_
                    refine bx9 _ ?_
                    refine hN6 _ ?_
                    refine seq_k fun N24 M24 hN24 hM24 => ?_
                    refine region_k fun K25 hK25 => ?_
                    simp only [go_sem, decide_false, decide_true, Bool.not_true, Bool.not_false, hc1]
                    all_goals repeat' (first | apply And.intro | intro _)
                    all_goals
                      refine hK25 _ ?_
                      refine hN24 _ ?_
                      refine ret_k ?_
                      simp only [go_sem, decide_false, decide_true, Bool.not_true, Bool.not_false, hc1]
                      all_goals rfl
theorem feed_ (held b : List UInt8) (ex ex2 : Bool) (hb : held.length + b.length ≤ 1048576) : Ct Try.prog 20 [.w (.one (.pl (.R ex 1 (byteRows held)))), .w (.one (.pl (.R ex2 1 (byteRows b))))] (feedV (feedP held b)) := by
  by_cases h : 903 < held.length
  · exact (feed_big held b ex ex2 h).told
  · exact (feed_loop held b ex ex2 h _ rfl (by rw [List.length_append]; exact hb)).told
theorem fed_ (held b : List UInt8) (ex ex2 : Bool) (hb : held.length + b.length ≤ 1048576) : Ct Try.prog 21 [.w (.one (.pl (.R ex 1 (byteRows held)))), .w (.one (.pl (.R ex2 1 (byteRows b))))] (feedV (feedP held b)) := by
  by_cases h : 903 < held.length
  · exact (fed_big held b ex ex2 h).told
  · exact (fed_loop held b ex ex2 h _ rfl (by rw [List.length_append]; exact hb)).told
theorem feedR_len : ∀ (k : Nat) (l : List FrD) (bs : List UInt8), (feedR k l bs).2.1.length ≤ l.length + bs.length
  | 0, l, bs => by simp [feedR]
  | k + 1, l, bs => by
    rw [feedR]
    split
    · simp only; omega
    · split
      · split
        · simp only; omega
        · have := feedR_len k (l ++ [frOf bs]) (bs.drop (4 + nOf bs))
          simp only [List.length_append, List.length_drop, List.length_cons, List.length_nil] at this
          omega
      · simp
theorem feedP_len (held b : List UInt8) (hb : held.length + b.length ≤ 1048576) : (feedP held b).2.1.length ≤ 1048576 := by
  unfold feedP
  split
  · simp
  · have := feedR_len (held ++ b).length [] (held ++ b)
    rw [List.length_append] at this
    simp only [List.length_nil, List.length_append] at this ⊢; omega
set_option maxHeartbeats 400000 in
theorem frame_feeds (held b : List UInt8) (ex ex2 : Bool) (hb : held.length + b.length ≤ 1048576) :
    Ct Try.prog 6 [.w (.one (.pl (.R ex 1 (byteRows held)))), .w (.one (.pl (.R ex2 1 (byteRows b))))] (fun v m => v = .w (.one (.pl (.b true)))) := by
  refine Ct.k Try.func6 rfl Try.ntmps6 (congrArg Array.toList Try.results6) (by simp) fun w0 ro => ?_
  refine seq_k fun N1 M1 hN1 hM1 => ?_
  refine region_k fun K2 hK2 => ?_
  simp only [go_sem, decide_true]
  all_goals repeat' (first | apply And.intro | intro _)
  all_goals
    refine hK2 _ ?_
    refine hN1 _ ?_
    refine seq_k fun N3 M3 hN3 hM3 => ?_
    refine region_k fun K4 hK4 => ?_
    simp only [go_sem, decide_true]
    all_goals repeat' (first | apply And.intro | intro _)
    all_goals (refine call_hand false [] (fun k => k) (fun _ _ => rfl) ?_ (by decide) ?_ (feed_ held b ex ex2 hb).hands ?_; (focus ( first | rfl | (simp only [go_sem, valsIn, valIn, leafIn, leavesIn, nameIn, capsIn, handOk, decide_true] <;> done) | (simp only [go_sem, valsIn, valIn, leafIn, leavesIn, nameIn, capsIn, handOk, decide_true] <;> rfl) | (simp only [go_sem, valsIn, valIn, leafIn, leavesIn, nameIn, capsIn, handOk, decide_true] <;> simp))); (focus ( first | rfl | (simp only [go_sem, valsIn, valIn, leafIn, leavesIn, nameIn, capsIn, handOk, decide_true] <;> done) | (simp only [go_sem, valsIn, valIn, leafIn, leavesIn, nameIn, capsIn, handOk, decide_true] <;> rfl) | (simp only [go_sem, valsIn, valIn, leafIn, leavesIn, nameIn, capsIn, handOk, decide_true] <;> simp))))
    all_goals (rintro v m ⟨hR, hm⟩; subst hR; subst hm)
    all_goals refine And.intro (by (first | rfl | (simp only [go_sem, leafOutV, leafOutW, leafOut, okN, outOk, inv, decide_true]; done) | (simp [go_sem, leafOutV, leafOutW, leafOut, okN, outOk, inv, look, decide_true]; done))) (And.intro (by (first | rfl | (simp only [go_sem, leafOutV, leafOutW, leafOut, okN, outOk, inv, decide_true]; done) | (simp [go_sem, leafOutV, leafOutW, leafOut, okN, outOk, inv, look, decide_true]; done))) (And.intro (by (first | rfl | (simp only [go_sem, leafOutV, leafOutW, leafOut, okN, outOk, inv, decide_true]; done) | (simp [go_sem, leafOutV, leafOutW, leafOut, okN, outOk, inv, look, decide_true]; done))) ?_))
    all_goals (try simp only [go_sem, backM, outN, nameOut, Ob.ren, V.ren, W.ren, L.ren, setM, decide_true])
    all_goals (try simp only [go_sem, decide_true])
    all_goals repeat' (first | apply And.intro | intro _)
    all_goals
      refine hK4 _ ?_
      refine hN3 _ ?_
      refine seq_k fun N5 M5 hN5 hM5 => ?_
      refine region_k fun K6 hK6 => ?_
      simp only [go_sem, decide_true]
      all_goals repeat' (first | apply And.intro | intro _)
      all_goals (refine call_hand false [] (fun k => k) (fun _ _ => rfl) ?_ (by decide) ?_ (fed_ held b ex ex2 hb).hands ?_; (focus ( first | rfl | (simp only [go_sem, valsIn, valIn, leafIn, leavesIn, nameIn, capsIn, handOk, decide_true] <;> done) | (simp only [go_sem, valsIn, valIn, leafIn, leavesIn, nameIn, capsIn, handOk, decide_true] <;> rfl) | (simp only [go_sem, valsIn, valIn, leafIn, leavesIn, nameIn, capsIn, handOk, decide_true] <;> simp))); (focus ( first | rfl | (simp only [go_sem, valsIn, valIn, leafIn, leavesIn, nameIn, capsIn, handOk, decide_true] <;> done) | (simp only [go_sem, valsIn, valIn, leafIn, leavesIn, nameIn, capsIn, handOk, decide_true] <;> rfl) | (simp only [go_sem, valsIn, valIn, leafIn, leavesIn, nameIn, capsIn, handOk, decide_true] <;> simp))))
      all_goals (rintro v m ⟨hR, hm⟩; subst hR; subst hm)
      all_goals refine And.intro (by (first | rfl | (simp only [go_sem, leafOutV, leafOutW, leafOut, okN, outOk, inv, decide_true]; done) | (simp [go_sem, leafOutV, leafOutW, leafOut, okN, outOk, inv, look, decide_true]; done))) (And.intro (by (first | rfl | (simp only [go_sem, leafOutV, leafOutW, leafOut, okN, outOk, inv, decide_true]; done) | (simp [go_sem, leafOutV, leafOutW, leafOut, okN, outOk, inv, look, decide_true]; done))) (And.intro (by (first | rfl | (simp only [go_sem, leafOutV, leafOutW, leafOut, okN, outOk, inv, decide_true]; done) | (simp [go_sem, leafOutV, leafOutW, leafOut, okN, outOk, inv, look, decide_true]; done))) ?_))
      all_goals (try simp only [go_sem, backM, outN, nameOut, Ob.ren, V.ren, W.ren, L.ren, setM, decide_true])
      all_goals (try simp only [go_sem, decide_true])
      all_goals repeat' (first | apply And.intro | intro _)
      all_goals
        refine hK6 _ ?_
        refine hN5 _ ?_
        refine seq_k fun N7 M7 hN7 hM7 => ?_
        refine region_k fun K8 hK8 => ?_
        simp only [go_sem, decide_true]
        all_goals repeat' (first | apply And.intro | intro _)
        all_goals refine call_view (fun k => k) (fun _ _ => rfl) (by first | rfl | (simp only [go_sem, decide_true]; rfl) | simp only [go_sem, decide_true]) ((same_frames _ (feedP_len held b hb) false false).plain fun _ _ h => h) ?_
        all_goals (rintro v m ⟨hR, hm⟩; subst hR; subst hm)
        all_goals refine And.intro (by first | rfl | simp only [go_sem, decide_true]) (And.intro (by first | rfl | simp only [go_sem, decide_true]) ?_)
        all_goals simp only [go_sem, decide_true]
        all_goals repeat' (first | apply And.intro | intro _)
        all_goals (first | (refine call_view (fun k => k) (fun _ _ => rfl) (by first | rfl | (simp only [go_sem, decide_true]; rfl) | simp only [go_sem, decide_true]) ((same_bytesF false false _ _).plain fun _ _ h => h) ?_; all_goals (rintro v m ⟨hR, hm⟩; subst hR; subst hm); all_goals refine And.intro (by first | rfl | simp only [go_sem, decide_true]) (And.intro (by first | rfl | simp only [go_sem, decide_true]) ?_); all_goals simp only [go_sem, decide_true]; all_goals repeat' (first | apply And.intro | intro _)) | skip)
        all_goals
          refine hK8 _ ?_
          refine hN7 _ ?_
          refine ret_k ?_
          simp only [go_sem, decide_true]
          all_goals (first | rfl | simp)
end Go.Sy
