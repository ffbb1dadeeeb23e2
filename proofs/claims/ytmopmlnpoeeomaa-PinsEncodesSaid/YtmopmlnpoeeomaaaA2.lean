/- Walks: ratchet.Bytes, what the reference says of it, and their law. -/
import Derived.Test.YtmopmlnpoeeomaaaT
import Derived.Test.YtmopmlnpoeeomaaG4
set_option linter.unusedVariables false
set_option linter.unusedSimpArgs false
namespace Go.Sy
open Go.Proofs
attribute [local irreducible] atCall HT runOps runD onC onE onO onG goV goA goS onSt onGuard
def byteI (n : Int) : UInt8 := UInt8.ofNat (n % 256).toNat
def be4 (n : Int) : List UInt8 := [byteI (ishr n 24), byteI (ishr n 16), byteI (ishr n 8), byteI n]
theorem be4_length (n : Int) : (be4 n).length = 4 := rfl
def headFault (last n : Int) : Int := if 0 ≤ last ∧ last ≤ 1073741824 ∧ 0 ≤ n ∧ n ≤ 1073741824 then 0 else 6
def headOut (key : List UInt8) (last n : Int) : Option (List UInt8) := if 0 ≤ last ∧ last ≤ 1073741824 ∧ 0 ≤ n ∧ n ≤ 1073741824 then some (key ++ (be4 last ++ be4 n)) else none
theorem headFault_ok {last n : Int} (h1 : ¬ last < 0) (h2 : ¬ 1073741824 < last) (h3 : ¬ n < 0) (h4 : ¬ 1073741824 < n) : headFault last n = 0 := if_pos (by omega)
theorem headOut_ok {key : List UInt8} {last n : Int} (h1 : ¬ last < 0) (h2 : ¬ 1073741824 < last) (h3 : ¬ n < 0) (h4 : ¬ 1073741824 < n) : headOut key last n = some (key ++ (be4 last ++ be4 n)) := if_pos (by omega)
theorem headFault_bad {last n : Int} (h : last < 0 ∨ 1073741824 < last ∨ n < 0 ∨ 1073741824 < n) : headFault last n = 6 := if_neg (by omega)
theorem headOut_bad {key : List UInt8} {last n : Int} (h : last < 0 ∨ 1073741824 < last ∨ n < 0 ∨ 1073741824 < n) : headOut key last n = none := if_neg (by omega)
theorem quo_shr {n : Int} (h : 0 ≤ n) (h' : n ≤ 1073741824) : Go.RowKit.wrap64 (n.tdiv 16777216) = ishr n 24 ∧ Go.RowKit.wrap64 (n.tdiv 65536) = ishr n 16 ∧ Go.RowKit.wrap64 (n.tdiv 256) = ishr n 8 := by
  rw [Int.tdiv_eq_ediv_of_nonneg h, Int.tdiv_eq_ediv_of_nonneg h, Int.tdiv_eq_ediv_of_nonneg h]
  unfold ishr
  rw [Int.fdiv_eq_ediv_of_nonneg _ (by decide), Int.fdiv_eq_ediv_of_nonneg _ (by decide), Int.fdiv_eq_ediv_of_nonneg _ (by decide)]
  refine ⟨?_, ?_, ?_⟩ <;> (unfold Go.RowKit.wrap64; simp; omega)
set_option maxHeartbeats 400000 in
theorem head_bytes_bad0 (key : List UInt8) (hk : key.length = 32) (last n : Int) (h1 : last < 0) :
    Ct Try.prog 15 [.w (.agg (bytesC key ++ [.pl (.i last), .pl (.i n)]))] (Tidy (bytesOut (headOut key last n) (headFault last n))) := by
  refine Ct.k Try.func15 rfl Try.ntmps15 (congrArg Array.toList Try.results15) (by simp) fun w0 ro => ?_
  refine seq_k fun N1 M1 hN1 hM1 => ?_
  refine region_k fun K2 hK2 => ?_
  simp only [go_sem, hk, h1]
  all_goals repeat' (first | apply And.intro | intro _)
  all_goals
    refine hK2 _ ?_
    refine hN1 _ ?_
    refine seq_k fun N3 M3 hN3 hM3 => ?_
    refine seq_k fun N4 M4 hN4 hM4 => ?_
    refine region_k fun K5 hK5 => ?_
    simp only [go_sem, hk, h1]
    all_goals repeat' (first | apply And.intro | intro _)
    all_goals
      refine hK5 _ ?_
      refine hN4 _ ?_
      refine cond_k rfl (fun hc => ?_) (fun hc => ?_)
      · try simp only [go_sem, hk, h1] at hc
        all_goals
          refine seq_k fun N6 M6 hN6 hM6 => ?_
          refine region_k fun K7 hK7 => ?_
          simp only [go_sem, hk, h1]
          all_goals repeat' (first | apply And.intro | intro _)
          all_goals
            refine hK7 _ ?_
            refine hN6 _ ?_
            refine ret_k ?_
            refine hM3 _ _ ?_
            simp only [go_sem, hk, h1]
            all_goals (rw [headOut_bad (.inl h1), headFault_bad (.inl h1)]; exact out_nil _)
      · exfalso; revert hc; simp [go_sem, hk, h1]
set_option maxHeartbeats 400000 in
theorem head_bytes_bad1 (key : List UInt8) (hk : key.length = 32) (last n : Int) (h1 : ¬ last < 0) (h2 : 1073741824 < last) :
    Ct Try.prog 15 [.w (.agg (bytesC key ++ [.pl (.i last), .pl (.i n)]))] (Tidy (bytesOut (headOut key last n) (headFault last n))) := by
  refine Ct.k Try.func15 rfl Try.ntmps15 (congrArg Array.toList Try.results15) (by simp) fun w0 ro => ?_
  refine seq_k fun N1 M1 hN1 hM1 => ?_
  refine region_k fun K2 hK2 => ?_
  simp only [go_sem, hk, h1, h2]
  all_goals repeat' (first | apply And.intro | intro _)
  all_goals
    refine hK2 _ ?_
    refine hN1 _ ?_
    refine seq_k fun N3 M3 hN3 hM3 => ?_
    refine seq_k fun N4 M4 hN4 hM4 => ?_
    refine region_k fun K5 hK5 => ?_
    simp only [go_sem, hk, h1, h2]
    all_goals repeat' (first | apply And.intro | intro _)
    all_goals
      refine hK5 _ ?_
      refine hN4 _ ?_
      refine cond_k rfl (fun hc => ?_) (fun hc => ?_)
      · try simp only [go_sem, hk, h1, h2] at hc
        all_goals
          refine seq_k fun N6 M6 hN6 hM6 => ?_
          refine region_k fun K7 hK7 => ?_
          simp only [go_sem, hk, h1, h2]
          all_goals repeat' (first | apply And.intro | intro _)
          all_goals
            refine hK7 _ ?_
            refine hN6 _ ?_
            refine ret_k ?_
            refine hM3 _ _ ?_
            simp only [go_sem, hk, h1, h2]
            all_goals (rw [headOut_bad (.inr (.inl h2)), headFault_bad (.inr (.inl h2))]; exact out_nil _)
      · exfalso; revert hc; simp [go_sem, hk, h1, h2]
set_option maxHeartbeats 400000 in
theorem head_bytes_bad2 (key : List UInt8) (hk : key.length = 32) (last n : Int) (h1 : ¬ last < 0) (h2 : ¬ 1073741824 < last) (h3 : n < 0) :
    Ct Try.prog 15 [.w (.agg (bytesC key ++ [.pl (.i last), .pl (.i n)]))] (Tidy (bytesOut (headOut key last n) (headFault last n))) := by
  refine Ct.k Try.func15 rfl Try.ntmps15 (congrArg Array.toList Try.results15) (by simp) fun w0 ro => ?_
  refine seq_k fun N1 M1 hN1 hM1 => ?_
  refine region_k fun K2 hK2 => ?_
  simp only [go_sem, hk, h1, h2, h3]
  all_goals repeat' (first | apply And.intro | intro _)
  all_goals
    refine hK2 _ ?_
    refine hN1 _ ?_
    refine seq_k fun N3 M3 hN3 hM3 => ?_
    refine seq_k fun N4 M4 hN4 hM4 => ?_
    refine region_k fun K5 hK5 => ?_
    simp only [go_sem, hk, h1, h2, h3]
    all_goals repeat' (first | apply And.intro | intro _)
    all_goals
      refine hK5 _ ?_
      refine hN4 _ ?_
      refine cond_k rfl (fun hc => ?_) (fun hc => ?_)
      · try simp only [go_sem, hk, h1, h2, h3] at hc
        all_goals
          refine seq_k fun N6 M6 hN6 hM6 => ?_
          refine region_k fun K7 hK7 => ?_
          simp only [go_sem, hk, h1, h2, h3]
          all_goals repeat' (first | apply And.intro | intro _)
          all_goals
            refine hK7 _ ?_
            refine hN6 _ ?_
            refine ret_k ?_
            refine hM3 _ _ ?_
            simp only [go_sem, hk, h1, h2, h3]
            all_goals (rw [headOut_bad (.inr (.inr (.inl h3))), headFault_bad (.inr (.inr (.inl h3)))]; exact out_nil _)
      · exfalso; revert hc; simp [go_sem, hk, h1, h2, h3]
set_option maxHeartbeats 400000 in
theorem head_bytes_bad3 (key : List UInt8) (hk : key.length = 32) (last n : Int) (h1 : ¬ last < 0) (h2 : ¬ 1073741824 < last) (h3 : ¬ n < 0) (h4 : 1073741824 < n) :
    Ct Try.prog 15 [.w (.agg (bytesC key ++ [.pl (.i last), .pl (.i n)]))] (Tidy (bytesOut (headOut key last n) (headFault last n))) := by
  refine Ct.k Try.func15 rfl Try.ntmps15 (congrArg Array.toList Try.results15) (by simp) fun w0 ro => ?_
  refine seq_k fun N1 M1 hN1 hM1 => ?_
  refine region_k fun K2 hK2 => ?_
  simp only [go_sem, hk, h1, h2, h3, h4]
  all_goals repeat' (first | apply And.intro | intro _)
  all_goals
    refine hK2 _ ?_
    refine hN1 _ ?_
    refine seq_k fun N3 M3 hN3 hM3 => ?_
    refine seq_k fun N4 M4 hN4 hM4 => ?_
    refine region_k fun K5 hK5 => ?_
    simp only [go_sem, hk, h1, h2, h3, h4]
    all_goals repeat' (first | apply And.intro | intro _)
    all_goals
      refine hK5 _ ?_
      refine hN4 _ ?_
      refine cond_k rfl (fun hc => ?_) (fun hc => ?_)
      · try simp only [go_sem, hk, h1, h2, h3, h4] at hc
        all_goals
          refine seq_k fun N6 M6 hN6 hM6 => ?_
          refine region_k fun K7 hK7 => ?_
          simp only [go_sem, hk, h1, h2, h3, h4]
          all_goals repeat' (first | apply And.intro | intro _)
          all_goals
            refine hK7 _ ?_
            refine hN6 _ ?_
            refine ret_k ?_
            refine hM3 _ _ ?_
            simp only [go_sem, hk, h1, h2, h3, h4]
            all_goals (rw [headOut_bad (.inr (.inr (.inr h4))), headFault_bad (.inr (.inr (.inr h4)))]; exact out_nil _)
      · exfalso; revert hc; simp [go_sem, hk, h1, h2, h3, h4]
set_option maxHeartbeats 400000 in
theorem head_bytes_ok (key : List UInt8) (hk : key.length = 32) (last n : Int) (h1 : ¬ last < 0) (h2 : ¬ 1073741824 < last) (h3 : ¬ n < 0) (h4 : ¬ 1073741824 < n) :
    Ct Try.prog 15 [.w (.agg (bytesC key ++ [.pl (.i last), .pl (.i n)]))] (Tidy (bytesOut (headOut key last n) (headFault last n))) := by
  refine Ct.k Try.func15 rfl Try.ntmps15 (congrArg Array.toList Try.results15) (by simp) fun w0 ro => ?_
  refine seq_k fun N1 M1 hN1 hM1 => ?_
  refine region_k fun K2 hK2 => ?_
  simp only [go_sem, hk, h1, h2, h3, h4]
  all_goals repeat' (first | apply And.intro | intro _)
  all_goals
    refine hK2 _ ?_
    refine hN1 _ ?_
    refine seq_k fun N3 M3 hN3 hM3 => ?_
    refine seq_k fun N4 M4 hN4 hM4 => ?_
    refine region_k fun K5 hK5 => ?_
    simp only [go_sem, hk, h1, h2, h3, h4]
    all_goals repeat' (first | apply And.intro | intro _)
    all_goals
      refine hK5 _ ?_
      refine hN4 _ ?_
      refine cond_k rfl (fun hc => ?_) (fun hc => ?_)
      · exfalso; revert hc; simp [go_sem, hk, h1, h2, h3, h4]
      · try simp only [go_sem, hk, h1, h2, h3, h4] at hc
        all_goals
          refine skip_k ?_
          refine hN3 _ ?_
          refine seq_k fun N6 M6 hN6 hM6 => ?_
          refine region_k fun K7 hK7 => ?_
          simp only [go_sem, hk, h1, h2, h3, h4]
          all_goals repeat' (first | apply And.intro | intro _)
          all_goals
            refine hK7 _ ?_
            refine hN6 _ ?_
            refine seq_k fun N8 M8 hN8 hM8 => ?_
            refine seq_k fun N9 M9 hN9 hM9 => ?_
            refine region_k fun K10 hK10 => ?_
            simp only [go_sem, hk, h1, h2, h3, h4]
            all_goals repeat' (first | apply And.intro | intro _)
            all_goals
              refine hK10 _ ?_
              refine hN9 _ ?_
              refine block_k fun B11 bn11 bx11 br11 bi11 => ?_
              refine rounds_k 3 ?_
              refine rnd_k fun N13 M13 hN13 hM13 => ?_
              refine seq_k fun N14 M14 hN14 hM14 => ?_
              refine region_k fun K15 hK15 => ?_
              simp only [go_sem, hk, h1, h2, h3, h4]
              all_goals repeat' (first | apply And.intro | intro _)
              all_goals
                refine hK15 _ ?_
                refine hN14 _ ?_
                refine seq_k fun N16 M16 hN16 hM16 => ?_
                refine cond_k rfl (fun hc => ?_) (fun hc => ?_)
                · try simp only [go_sem, hk, h1, h2, h3, h4] at hc
                  all_goals
                    refine skip_k ?_
                    refine hN16 _ ?_
                    refine seq_k fun N17 M17 hN17 hM17 => ?_
                    refine block_k fun B18 bn18 bx18 br18 bi18 => ?_
                    refine seq_k fun N19 M19 hN19 hM19 => ?_
                    refine region_k fun K20 hK20 => ?_
                    simp only [go_sem, hk, h1, h2, h3, h4]
                    all_goals repeat' (first | apply And.intro | intro _)
                    all_goals
                      refine hK20 _ ?_
                      refine hN19 _ ?_
                      refine region_k fun K21 hK21 => ?_
                      simp only [go_sem, hk, h1, h2, h3, h4]
                      all_goals repeat' (first | apply And.intro | intro _)
                      all_goals
                        refine hK21 _ ?_
                        refine bn18 _ ?_
                        refine hN17 _ ?_
                        refine region_k fun K22 hK22 => ?_
                        simp only [go_sem, hk, h1, h2, h3, h4]
                        all_goals repeat' (first | apply And.intro | intro _)
                        all_goals
                          refine hK22 _ ?_
                          refine hN13 _ ?_
                          refine rnd_forget [6, 35, 36, 37, 38, 39, 40, 41, 42, 43, 44, 45, 46, 47, 48, 49, 50, 51] ?_
                          simp only [go_sem, St.forget, fgt]
                          refine rnd_k fun N23 M23 hN23 hM23 => ?_
                          refine seq_k fun N24 M24 hN24 hM24 => ?_
                          refine region_k fun K25 hK25 => ?_
                          simp only [go_sem, hk, h1, h2, h3, h4]
                          all_goals repeat' (first | apply And.intro | intro _)
                          all_goals
                            refine hK25 _ ?_
                            refine hN24 _ ?_
                            refine seq_k fun N26 M26 hN26 hM26 => ?_
                            refine cond_k rfl (fun hc => ?_) (fun hc => ?_)
                            · try simp only [go_sem, hk, h1, h2, h3, h4] at hc
                              all_goals
                                refine skip_k ?_
                                refine hN26 _ ?_
                                refine seq_k fun N27 M27 hN27 hM27 => ?_
                                refine block_k fun B28 bn28 bx28 br28 bi28 => ?_
                                refine seq_k fun N29 M29 hN29 hM29 => ?_
                                refine region_k fun K30 hK30 => ?_
                                simp only [go_sem, hk, h1, h2, h3, h4]
                                all_goals repeat' (first | apply And.intro | intro _)
                                all_goals
                                  refine hK30 _ ?_
                                  refine hN29 _ ?_
                                  refine region_k fun K31 hK31 => ?_
                                  simp only [go_sem, hk, h1, h2, h3, h4]
                                  all_goals repeat' (first | apply And.intro | intro _)
                                  all_goals
                                    refine hK31 _ ?_
                                    refine bn28 _ ?_
                                    refine hN27 _ ?_
                                    refine region_k fun K32 hK32 => ?_
                                    simp only [go_sem, hk, h1, h2, h3, h4]
                                    all_goals repeat' (first | apply And.intro | intro _)
                                    all_goals
                                      refine hK32 _ ?_
                                      refine hN23 _ ?_
                                      refine rnd_forget [6, 35, 36, 37, 38, 39, 40, 41, 42, 43, 44, 45, 46, 47, 48, 49, 50, 51] ?_
                                      simp only [go_sem, St.forget, fgt]
                                      refine rnd_k fun N33 M33 hN33 hM33 => ?_
                                      refine seq_k fun N34 M34 hN34 hM34 => ?_
                                      refine region_k fun K35 hK35 => ?_
                                      simp only [go_sem, hk, h1, h2, h3, h4]
                                      all_goals repeat' (first | apply And.intro | intro _)
                                      all_goals
                                        refine hK35 _ ?_
                                        refine hN34 _ ?_
                                        refine seq_k fun N36 M36 hN36 hM36 => ?_
                                        refine cond_k rfl (fun hc => ?_) (fun hc => ?_)
                                        · exfalso; revert hc; simp
                                        · try simp only [go_sem, hk, h1, h2, h3, h4] at hc
                                          all_goals
                                            refine exit_k ?_
                                            refine hM36 _ _ ?_
                                            refine hM33 _ _ ?_
                                            refine bx11 _ ?_
                                            refine hN8 _ ?_
                                            refine seq_k fun N37 M37 hN37 hM37 => ?_
                                            refine region_k fun K38 hK38 => ?_
                                            simp only [go_sem, hk, h1, h2, h3, h4]
                                            all_goals repeat' (first | apply And.intro | intro _)
                                            all_goals
                                              refine hK38 _ ?_
                                              refine hN37 _ ?_
                                              refine ret_k ?_
                                              simp only [go_sem, hk, h1, h2, h3, h4]
                                              all_goals (rw [headOut_ok h1 h2 h3 h4, headFault_ok h1 h2 h3 h4]; exact out_own (by simp [be4, hk]) (by simp [look, bytesC, be4, byteI]))
                            · exfalso; revert hc; simp
                · exfalso; revert hc; simp
theorem head_bytes (key : List UInt8) (hk : key.length = 32) (last n : Int) :
    Ct Try.prog 15 [.w (.agg (bytesC key ++ [.pl (.i last), .pl (.i n)]))] (Tidy (bytesOut (headOut key last n) (headFault last n))) := by
  by_cases h1 : last < 0
  · exact head_bytes_bad0 key hk last n h1
  by_cases h2 : 1073741824 < last
  · exact head_bytes_bad1 key hk last n h1 h2
  by_cases h3 : n < 0
  · exact head_bytes_bad2 key hk last n h1 h2 h3
  by_cases h4 : 1073741824 < n
  · exact head_bytes_bad3 key hk last n h1 h2 h3 h4
  exact head_bytes_ok key hk last n h1 h2 h3 h4
set_option maxHeartbeats 400000 in
theorem text_ (k : List UInt8) (hk : k.length = 32) :
    Ct Try.prog 41 [.w (.agg (bytesC k))] (fun v m => v = .w (.one (.pl (.str k)))) := by
  refine Ct.k Try.func41 rfl Try.ntmps41 (congrArg Array.toList Try.results41) (by simp) fun w0 ro => ?_
  refine seq_k fun N1 M1 hN1 hM1 => ?_
  refine region_k fun K2 hK2 => ?_
  simp only [go_sem, hk]
  all_goals repeat' (first | apply And.intro | intro _)
  all_goals
    refine hK2 _ ?_
    refine hN1 _ ?_
    refine seq_k fun N3 M3 hN3 hM3 => ?_
    refine region_k fun K4 hK4 => ?_
    simp only [go_sem, hk]
    all_goals repeat' (first | apply And.intro | intro _)
    all_goals
      refine hK4 _ ?_
      refine hN3 _ ?_
      refine ret_k ?_
      simp only [go_sem, hk]
      all_goals rfl
set_option maxHeartbeats 400000 in
theorem big_ (n : Int) (h : 0 ≤ n) (h2 : n ≤ 1073741824) :
    Ct Try.prog 42 [.w (.one (.pl (.i n)))] (fun v m => v = .w (.one (.pl (.str (be4 n))))) := by
  refine Ct.k Try.func42 rfl Try.ntmps42 (congrArg Array.toList Try.results42) (by simp) fun w0 ro => ?_
  refine seq_k fun N1 M1 hN1 hM1 => ?_
  refine region_k fun K2 hK2 => ?_
  simp only [go_sem]
  all_goals repeat' (first | apply And.intro | intro _)
  all_goals
    refine hK2 _ ?_
    refine hN1 _ ?_
    refine seq_k fun N3 M3 hN3 hM3 => ?_
    refine region_k fun K4 hK4 => ?_
    simp only [go_sem]
    all_goals repeat' (first | apply And.intro | intro _)
    all_goals
      refine hK4 _ ?_
      refine hN3 _ ?_
      refine ret_k ?_
      simp only [go_sem]
      all_goals (simp only [be4, byteI, (quo_shr h h2).1, (quo_shr h h2).2.1, (quo_shr h h2).2.2])
set_option maxHeartbeats 400000 in
theorem up_to (a b : Int) :
    Ct Try.prog 40 [.w (.one (.pl (.i a))), .w (.one (.pl (.i b)))] (fun v m => v = .w (.one (.pl (.b (decide (0 ≤ a ∧ a ≤ b)))))) := by
  refine Ct.k Try.func40 rfl Try.ntmps40 (congrArg Array.toList Try.results40) (by simp) fun w0 ro => ?_
  refine seq_k fun N1 M1 hN1 hM1 => ?_
  refine region_k fun K2 hK2 => ?_
  simp only [go_sem]
  all_goals repeat' (first | apply And.intro | intro _)
  all_goals
    refine hK2 _ ?_
    refine hN1 _ ?_
    refine seq_k fun N3 M3 hN3 hM3 => ?_
    refine region_k fun K4 hK4 => ?_
    simp only [go_sem]
    all_goals repeat' (first | apply And.intro | intro _)
    all_goals
      refine hK4 _ ?_
      refine hN3 _ ?_
      refine ret_k ?_
      simp only [go_sem]
      all_goals (refine congrArg (fun x => V.w (W.one (L.pl (PL.b x)))) ?_; simp; try omega)
set_option maxHeartbeats 400000 in
theorem same_bytes (e1 e2 : Bool) (r1 r2 : List UInt8) :
    Ct Try.prog 17 [.w (.one (.pl (.R e1 1 (byteRows r1)))), .w (.one (.pl (.R e2 1 (byteRows r2))))] (fun v m => v = .w (.one (.pl (.b (decide (r1 = r2)))))) := by
  refine Ct.k Try.func17 rfl Try.ntmps17 (congrArg Array.toList Try.results17) (by simp) fun w0 ro => ?_
  refine seq_k fun N1 M1 hN1 hM1 => ?_
  refine region_k fun K2 hK2 => ?_
  simp only [go_sem]
  all_goals repeat' (first | apply And.intro | intro _)
  all_goals
    refine hK2 _ ?_
    refine hN1 _ ?_
    refine seq_k fun N3 M3 hN3 hM3 => ?_
    refine region_k fun K4 hK4 => ?_
    simp only [go_sem]
    all_goals repeat' (first | apply And.intro | intro _)
    all_goals
      refine hK4 _ ?_
      refine hN3 _ ?_
      refine ret_k ?_
      simp only [go_sem]
      all_goals rfl
set_option maxHeartbeats 400000 in
theorem head_ref_bad0 (key : List UInt8) (hk : key.length = 32) (last n : Int) (h1 : ¬ 0 ≤ last) :
    Ct Try.prog 16 [.w (.agg (bytesC key ++ [.pl (.i last), .pl (.i n)]))] (Tidy (bytesOut (headOut key last n) (headFault last n))) := by
  refine Ct.k Try.func16 rfl Try.ntmps16 (congrArg Array.toList Try.results16) (by simp) fun w0 ro => ?_
  refine seq_k fun N1 M1 hN1 hM1 => ?_
  refine region_k fun K2 hK2 => ?_
  simp only [go_sem, hk, h1]
  all_goals repeat' (first | apply And.intro | intro _)
  all_goals
    refine hK2 _ ?_
    refine hN1 _ ?_
    refine seq_k fun N3 M3 hN3 hM3 => ?_
    refine seq_k fun N4 M4 hN4 hM4 => ?_
    refine region_k fun K5 hK5 => ?_
    simp only [go_sem, hk, h1]
    all_goals repeat' (first | apply And.intro | intro _)
    all_goals refine call_view (fun k => k) (fun _ _ => rfl) (by first | rfl | (simp only [go_sem, hk, h1]; rfl) | simp only [go_sem, hk, h1]) ((up_to _ _).plain fun _ _ h => h) ?_
    all_goals (rintro v m ⟨hR, hm⟩; subst hR; subst hm)
    all_goals refine And.intro (by first | rfl | simp only [go_sem]) (And.intro (by first | rfl | simp only [go_sem]) ?_)
    all_goals simp only [go_sem, hk, h1]
    all_goals repeat' (first | apply And.intro | intro _)
    all_goals (first | (refine call_view (fun k => k) (fun _ _ => rfl) (by first | rfl | (simp only [go_sem, hk, h1]; rfl) | simp only [go_sem, hk, h1]) ((up_to _ _).plain fun _ _ h => h) ?_; all_goals (rintro v m ⟨hR, hm⟩; subst hR; subst hm); all_goals refine And.intro (by first | rfl | simp only [go_sem]) (And.intro (by first | rfl | simp only [go_sem]) ?_); all_goals simp only [go_sem, hk, h1]; all_goals repeat' (first | apply And.intro | intro _)) | skip)
    all_goals
      refine hK5 _ ?_
      refine hN4 _ ?_
      refine cond_k rfl (fun hc => ?_) (fun hc => ?_)
      · try simp only [go_sem, hk, h1] at hc
        all_goals
          refine seq_k fun N6 M6 hN6 hM6 => ?_
          refine region_k fun K7 hK7 => ?_
          simp only [go_sem, hk, h1]
          all_goals repeat' (first | apply And.intro | intro _)
          all_goals
            refine hK7 _ ?_
            refine hN6 _ ?_
            refine ret_k ?_
            refine hM3 _ _ ?_
            simp only [go_sem, hk, h1]
            all_goals (rw [headOut_bad (.inl (by omega)), headFault_bad (.inl (by omega))]; exact out_nil _)
      · exfalso; revert hc; simp [go_sem, hk, h1]
set_option maxHeartbeats 400000 in
theorem head_ref_bad1 (key : List UInt8) (hk : key.length = 32) (last n : Int) (h1 : 0 ≤ last) (h2 : ¬ last ≤ 1073741824) :
    Ct Try.prog 16 [.w (.agg (bytesC key ++ [.pl (.i last), .pl (.i n)]))] (Tidy (bytesOut (headOut key last n) (headFault last n))) := by
  refine Ct.k Try.func16 rfl Try.ntmps16 (congrArg Array.toList Try.results16) (by simp) fun w0 ro => ?_
  refine seq_k fun N1 M1 hN1 hM1 => ?_
  refine region_k fun K2 hK2 => ?_
  simp only [go_sem, hk, h1, h2]
  all_goals repeat' (first | apply And.intro | intro _)
  all_goals
    refine hK2 _ ?_
    refine hN1 _ ?_
    refine seq_k fun N3 M3 hN3 hM3 => ?_
    refine seq_k fun N4 M4 hN4 hM4 => ?_
    refine region_k fun K5 hK5 => ?_
    simp only [go_sem, hk, h1, h2]
    all_goals repeat' (first | apply And.intro | intro _)
    all_goals refine call_view (fun k => k) (fun _ _ => rfl) (by first | rfl | (simp only [go_sem, hk, h1, h2]; rfl) | simp only [go_sem, hk, h1, h2]) ((up_to _ _).plain fun _ _ h => h) ?_
    all_goals (rintro v m ⟨hR, hm⟩; subst hR; subst hm)
    all_goals refine And.intro (by first | rfl | simp only [go_sem]) (And.intro (by first | rfl | simp only [go_sem]) ?_)
    all_goals simp only [go_sem, hk, h1, h2]
    all_goals repeat' (first | apply And.intro | intro _)
    all_goals (first | (refine call_view (fun k => k) (fun _ _ => rfl) (by first | rfl | (simp only [go_sem, hk, h1, h2]; rfl) | simp only [go_sem, hk, h1, h2]) ((up_to _ _).plain fun _ _ h => h) ?_; all_goals (rintro v m ⟨hR, hm⟩; subst hR; subst hm); all_goals refine And.intro (by first | rfl | simp only [go_sem]) (And.intro (by first | rfl | simp only [go_sem]) ?_); all_goals simp only [go_sem, hk, h1, h2]; all_goals repeat' (first | apply And.intro | intro _)) | skip)
    all_goals
      refine hK5 _ ?_
      refine hN4 _ ?_
      refine cond_k rfl (fun hc => ?_) (fun hc => ?_)
      · try simp only [go_sem, hk, h1, h2] at hc
        all_goals
          refine seq_k fun N6 M6 hN6 hM6 => ?_
          refine region_k fun K7 hK7 => ?_
          simp only [go_sem, hk, h1, h2]
          all_goals repeat' (first | apply And.intro | intro _)
          all_goals
            refine hK7 _ ?_
            refine hN6 _ ?_
            refine ret_k ?_
            refine hM3 _ _ ?_
            simp only [go_sem, hk, h1, h2]
            all_goals (rw [headOut_bad (.inr (.inl (by omega))), headFault_bad (.inr (.inl (by omega)))]; exact out_nil _)
      · exfalso; revert hc; simp [go_sem, hk, h1, h2]
set_option maxHeartbeats 400000 in
theorem head_ref_bad2 (key : List UInt8) (hk : key.length = 32) (last n : Int) (h1 : 0 ≤ last) (h2 : last ≤ 1073741824) (h3 : ¬ 0 ≤ n) :
    Ct Try.prog 16 [.w (.agg (bytesC key ++ [.pl (.i last), .pl (.i n)]))] (Tidy (bytesOut (headOut key last n) (headFault last n))) := by
  refine Ct.k Try.func16 rfl Try.ntmps16 (congrArg Array.toList Try.results16) (by simp) fun w0 ro => ?_
  refine seq_k fun N1 M1 hN1 hM1 => ?_
  refine region_k fun K2 hK2 => ?_
  simp only [go_sem, hk, h1, h2, h3]
  all_goals repeat' (first | apply And.intro | intro _)
  all_goals
    refine hK2 _ ?_
    refine hN1 _ ?_
    refine seq_k fun N3 M3 hN3 hM3 => ?_
    refine seq_k fun N4 M4 hN4 hM4 => ?_
    refine region_k fun K5 hK5 => ?_
    simp only [go_sem, hk, h1, h2, h3]
    all_goals repeat' (first | apply And.intro | intro _)
    all_goals refine call_view (fun k => k) (fun _ _ => rfl) (by first | rfl | (simp only [go_sem, hk, h1, h2, h3]; rfl) | simp only [go_sem, hk, h1, h2, h3]) ((up_to _ _).plain fun _ _ h => h) ?_
    all_goals (rintro v m ⟨hR, hm⟩; subst hR; subst hm)
    all_goals refine And.intro (by first | rfl | simp only [go_sem]) (And.intro (by first | rfl | simp only [go_sem]) ?_)
    all_goals simp only [go_sem, hk, h1, h2, h3]
    all_goals repeat' (first | apply And.intro | intro _)
    all_goals (first | (refine call_view (fun k => k) (fun _ _ => rfl) (by first | rfl | (simp only [go_sem, hk, h1, h2, h3]; rfl) | simp only [go_sem, hk, h1, h2, h3]) ((up_to _ _).plain fun _ _ h => h) ?_; all_goals (rintro v m ⟨hR, hm⟩; subst hR; subst hm); all_goals refine And.intro (by first | rfl | simp only [go_sem]) (And.intro (by first | rfl | simp only [go_sem]) ?_); all_goals simp only [go_sem, hk, h1, h2, h3]; all_goals repeat' (first | apply And.intro | intro _)) | skip)
    all_goals
      refine hK5 _ ?_
      refine hN4 _ ?_
      refine cond_k rfl (fun hc => ?_) (fun hc => ?_)
      · try simp only [go_sem, hk, h1, h2, h3] at hc
        all_goals
          refine seq_k fun N6 M6 hN6 hM6 => ?_
          refine region_k fun K7 hK7 => ?_
          simp only [go_sem, hk, h1, h2, h3]
          all_goals repeat' (first | apply And.intro | intro _)
          all_goals
            refine hK7 _ ?_
            refine hN6 _ ?_
            refine ret_k ?_
            refine hM3 _ _ ?_
            simp only [go_sem, hk, h1, h2, h3]
            all_goals (rw [headOut_bad (.inr (.inr (.inl (by omega)))), headFault_bad (.inr (.inr (.inl (by omega))))]; exact out_nil _)
      · exfalso; revert hc; simp [go_sem, hk, h1, h2, h3]
set_option maxHeartbeats 400000 in
theorem head_ref_bad3 (key : List UInt8) (hk : key.length = 32) (last n : Int) (h1 : 0 ≤ last) (h2 : last ≤ 1073741824) (h3 : 0 ≤ n) (h4 : ¬ n ≤ 1073741824) :
    Ct Try.prog 16 [.w (.agg (bytesC key ++ [.pl (.i last), .pl (.i n)]))] (Tidy (bytesOut (headOut key last n) (headFault last n))) := by
  refine Ct.k Try.func16 rfl Try.ntmps16 (congrArg Array.toList Try.results16) (by simp) fun w0 ro => ?_
  refine seq_k fun N1 M1 hN1 hM1 => ?_
  refine region_k fun K2 hK2 => ?_
  simp only [go_sem, hk, h1, h2, h3, h4]
  all_goals repeat' (first | apply And.intro | intro _)
  all_goals
    refine hK2 _ ?_
    refine hN1 _ ?_
    refine seq_k fun N3 M3 hN3 hM3 => ?_
    refine seq_k fun N4 M4 hN4 hM4 => ?_
    refine region_k fun K5 hK5 => ?_
    simp only [go_sem, hk, h1, h2, h3, h4]
    all_goals repeat' (first | apply And.intro | intro _)
    all_goals refine call_view (fun k => k) (fun _ _ => rfl) (by first | rfl | (simp only [go_sem, hk, h1, h2, h3, h4]; rfl) | simp only [go_sem, hk, h1, h2, h3, h4]) ((up_to _ _).plain fun _ _ h => h) ?_
    all_goals (rintro v m ⟨hR, hm⟩; subst hR; subst hm)
    all_goals refine And.intro (by first | rfl | simp only [go_sem]) (And.intro (by first | rfl | simp only [go_sem]) ?_)
    all_goals simp only [go_sem, hk, h1, h2, h3, h4]
    all_goals repeat' (first | apply And.intro | intro _)
    all_goals (first | (refine call_view (fun k => k) (fun _ _ => rfl) (by first | rfl | (simp only [go_sem, hk, h1, h2, h3, h4]; rfl) | simp only [go_sem, hk, h1, h2, h3, h4]) ((up_to _ _).plain fun _ _ h => h) ?_; all_goals (rintro v m ⟨hR, hm⟩; subst hR; subst hm); all_goals refine And.intro (by first | rfl | simp only [go_sem]) (And.intro (by first | rfl | simp only [go_sem]) ?_); all_goals simp only [go_sem, hk, h1, h2, h3, h4]; all_goals repeat' (first | apply And.intro | intro _)) | skip)
    all_goals
      refine hK5 _ ?_
      refine hN4 _ ?_
      refine cond_k rfl (fun hc => ?_) (fun hc => ?_)
      · try simp only [go_sem, hk, h1, h2, h3, h4] at hc
        all_goals
          refine seq_k fun N6 M6 hN6 hM6 => ?_
          refine region_k fun K7 hK7 => ?_
          simp only [go_sem, hk, h1, h2, h3, h4]
          all_goals repeat' (first | apply And.intro | intro _)
          all_goals
            refine hK7 _ ?_
            refine hN6 _ ?_
            refine ret_k ?_
            refine hM3 _ _ ?_
            simp only [go_sem, hk, h1, h2, h3, h4]
            all_goals (rw [headOut_bad (.inr (.inr (.inr (by omega)))), headFault_bad (.inr (.inr (.inr (by omega))))]; exact out_nil _)
      · exfalso; revert hc; simp [go_sem, hk, h1, h2, h3, h4]
set_option maxHeartbeats 400000 in
theorem head_ref_ok (key : List UInt8) (hk : key.length = 32) (last n : Int) (h1 : 0 ≤ last) (h2 : last ≤ 1073741824) (h3 : 0 ≤ n) (h4 : n ≤ 1073741824) :
    Ct Try.prog 16 [.w (.agg (bytesC key ++ [.pl (.i last), .pl (.i n)]))] (Tidy (bytesOut (headOut key last n) (headFault last n))) := by
  refine Ct.k Try.func16 rfl Try.ntmps16 (congrArg Array.toList Try.results16) (by simp) fun w0 ro => ?_
  refine seq_k fun N1 M1 hN1 hM1 => ?_
  refine region_k fun K2 hK2 => ?_
  simp only [go_sem, hk, h1, h2, h3, h4, be4_length]
  all_goals repeat' (first | apply And.intro | intro _)
  all_goals
    refine hK2 _ ?_
    refine hN1 _ ?_
    refine seq_k fun N3 M3 hN3 hM3 => ?_
    refine seq_k fun N4 M4 hN4 hM4 => ?_
    refine region_k fun K5 hK5 => ?_
    simp only [go_sem, hk, h1, h2, h3, h4, be4_length]
    all_goals repeat' (first | apply And.intro | intro _)
    all_goals refine call_view (fun k => k) (fun _ _ => rfl) (by first | rfl | (simp only [go_sem, hk, h1, h2, h3, h4, be4_length]; rfl) | simp only [go_sem, hk, h1, h2, h3, h4, be4_length]) ((up_to _ _).plain fun _ _ h => h) ?_
    all_goals (rintro v m ⟨hR, hm⟩; subst hR; subst hm)
    all_goals refine And.intro (by first | rfl | simp only [go_sem]) (And.intro (by first | rfl | simp only [go_sem]) ?_)
    all_goals simp only [go_sem, hk, h1, h2, h3, h4, be4_length]
    all_goals repeat' (first | apply And.intro | intro _)
    all_goals (first | (refine call_view (fun k => k) (fun _ _ => rfl) (by first | rfl | (simp only [go_sem, hk, h1, h2, h3, h4, be4_length]; rfl) | simp only [go_sem, hk, h1, h2, h3, h4, be4_length]) ((up_to _ _).plain fun _ _ h => h) ?_; all_goals (rintro v m ⟨hR, hm⟩; subst hR; subst hm); all_goals refine And.intro (by first | rfl | simp only [go_sem]) (And.intro (by first | rfl | simp only [go_sem]) ?_); all_goals simp only [go_sem, hk, h1, h2, h3, h4, be4_length]; all_goals repeat' (first | apply And.intro | intro _)) | skip)
    all_goals
      refine hK5 _ ?_
      refine hN4 _ ?_
      refine cond_k rfl (fun hc => ?_) (fun hc => ?_)
      · exfalso; revert hc; simp [go_sem, hk, h1, h2, h3, h4, be4_length]
      · try simp only [go_sem, hk, h1, h2, h3, h4, be4_length] at hc
        all_goals
          refine skip_k ?_
          refine hN3 _ ?_
          refine seq_k fun N6 M6 hN6 hM6 => ?_
          refine draw_k [14, 15, 16, 17, 18, 19, 20, 21, 22, 23, 24, 25, 2, 3] [0, 1, 3, 0, 8, 31, 63, 0, 128, 447, 1023, 2047, 4095, 8191] [] mixed (by kernel_rfl) (by simp only [go_sem]) fun K7 hK7 => ?_
          simp only [go_sem, hk, h1, h2, h3, h4, be4_length]
          all_goals repeat' (first | apply And.intro | intro _)
          all_goals refine call_draw (fun k => k) _ [] (fun _ _ => rfl) (by first | rfl | (simp only [go_sem, hk, h1, h2, h3, h4, be4_length]; rfl) | simp only [go_sem, hk, h1, h2, h3, h4, be4_length]) ((text_ key hk).plain fun _ _ h => h) ?_ ?_
          all_goals try (refine And.intro ?_ (And.intro ?_ (And.intro ?_ ?_)) <;> first | rfl | simp only [go_sem])
          all_goals simp only [go_sem, hk, h1, h2, h3, h4, be4_length]
          all_goals repeat' (first | apply And.intro | intro _)
          all_goals refine call_draw (fun k => k) _ [] (fun _ _ => rfl) (by first | rfl | (simp only [go_sem, hk, h1, h2, h3, h4, be4_length]; rfl) | simp only [go_sem, hk, h1, h2, h3, h4, be4_length]) ((big_ last h1 h2).plain fun _ _ h => h) ?_ ?_
          all_goals try (refine And.intro ?_ (And.intro ?_ (And.intro ?_ ?_)) <;> first | rfl | simp only [go_sem])
          all_goals simp only [go_sem, hk, h1, h2, h3, h4, be4_length]
          all_goals repeat' (first | apply And.intro | intro _)
          all_goals refine call_draw (fun k => k) _ [] (fun _ _ => rfl) (by first | rfl | (simp only [go_sem, hk, h1, h2, h3, h4, be4_length]; rfl) | simp only [go_sem, hk, h1, h2, h3, h4, be4_length]) ((big_ n h3 h4).plain fun _ _ h => h) ?_ ?_
          all_goals try (refine And.intro ?_ (And.intro ?_ (And.intro ?_ ?_)) <;> first | rfl | simp only [go_sem])
          all_goals simp only [go_sem, hk, h1, h2, h3, h4, be4_length]
          all_goals repeat' (first | apply And.intro | intro _)
          all_goals
            refine hK7 _ _ (by first | trivial | simp only [go_sem, chkD, atD, pairD, touchD]) ?_
            refine hN6 _ ?_
            refine ret_k ?_
            simp only [go_sem, hk, h1, h2, h3, h4, be4_length]
            all_goals (rw [headOut_ok (by omega) (by omega) (by omega) (by omega), headFault_ok (by omega) (by omega) (by omega) (by omega)]; exact out_own (by simp [be4, hk]) (by simp [look]))
theorem head_ref (key : List UInt8) (hk : key.length = 32) (last n : Int) :
    Ct Try.prog 16 [.w (.agg (bytesC key ++ [.pl (.i last), .pl (.i n)]))] (Tidy (bytesOut (headOut key last n) (headFault last n))) := by
  by_cases h1 : 0 ≤ last
  · by_cases h2 : last ≤ 1073741824
    · by_cases h3 : 0 ≤ n
      · by_cases h4 : n ≤ 1073741824
        · exact head_ref_ok key hk last n h1 h2 h3 h4
        · exact head_ref_bad3 key hk last n h1 h2 h3 h4
      · exact head_ref_bad2 key hk last n h1 h2 h3
    · exact head_ref_bad1 key hk last n h1 h2
  · exact head_ref_bad0 key hk last n h1
set_option maxHeartbeats 400000 in
theorem ratchet_heads_none (key : List UInt8) (hk : key.length = 32) (last n : Int) (ho : headOut key last n = none) :
    Ct Try.prog 4 [.w (.agg (bytesC key ++ [.pl (.i last), .pl (.i n)]))] (fun v m => v = .w (.one (.pl (.b true)))) := by
  refine Ct.k Try.func4 rfl Try.ntmps4 (congrArg Array.toList Try.results4) (by simp) fun w0 ro => ?_
  refine seq_k fun N1 M1 hN1 hM1 => ?_
  refine region_k fun K2 hK2 => ?_
  simp only [go_sem, hk]
  all_goals repeat' (first | apply And.intro | intro _)
  all_goals
    refine hK2 _ ?_
    refine hN1 _ ?_
    refine seq_k fun N3 M3 hN3 hM3 => ?_
    refine region_k fun K4 hK4 => ?_
    simp only [go_sem, hk]
    all_goals repeat' (first | apply And.intro | intro _)
    all_goals refine call_view (fun _ => 13) (fun _ _ => rfl) (by first | rfl | (simp only [go_sem, hk]; rfl) | simp only [go_sem, hk]) ((head_bytes key hk last n).tidied.mono fun v m hR => by rw [ho] at hR; exact hR) ?_
    all_goals (rintro v m ⟨hR, hm⟩; subst hR; subst hm)
    all_goals refine And.intro (by first | rfl | simp only [go_sem]) (And.intro (by first | rfl | simp only [go_sem]) ?_)
    all_goals simp only [go_sem, hk]
    all_goals repeat' (first | apply And.intro | intro _)
    all_goals
      refine hK4 _ ?_
      refine hN3 _ ?_
      refine seq_k fun N5 M5 hN5 hM5 => ?_
      refine region_k fun K6 hK6 => ?_
      simp only [go_sem, hk]
      all_goals repeat' (first | apply And.intro | intro _)
      all_goals refine call_view (fun _ => 18) (fun _ _ => rfl) (by first | rfl | (simp only [go_sem, hk]; rfl) | simp only [go_sem, hk]) ((head_ref key hk last n).tidied.mono fun v m hR => by rw [ho] at hR; exact hR) ?_
      all_goals (rintro v m ⟨hR, hm⟩; subst hR; subst hm)
      all_goals refine And.intro (by first | rfl | simp only [go_sem]) (And.intro (by first | rfl | simp only [go_sem]) ?_)
      all_goals simp only [go_sem, hk]
      all_goals repeat' (first | apply And.intro | intro _)
      all_goals
        refine hK6 _ ?_
        refine hN5 _ ?_
        refine seq_k fun N7 M7 hN7 hM7 => ?_
        refine region_k fun K8 hK8 => ?_
        simp only [go_sem, hk]
        all_goals repeat' (first | apply And.intro | intro _)
        all_goals refine call_view (fun k => k) (fun _ _ => rfl) (by first | rfl | (simp only [go_sem, hk]; rfl) | simp only [go_sem, hk]) ((same_bytes true true [] []).plain fun _ _ h => h) ?_
        all_goals (rintro v m ⟨hR, hm⟩; subst hR; subst hm)
        all_goals refine And.intro (by first | rfl | simp only [go_sem]) (And.intro (by first | rfl | simp only [go_sem]) ?_)
        all_goals simp only [go_sem, hk]
        all_goals repeat' (first | apply And.intro | intro _)
        all_goals
          refine hK8 _ ?_
          refine hN7 _ ?_
          refine ret_k ?_
          simp only [go_sem, hk]
          all_goals (first | rfl | simp)
set_option maxHeartbeats 400000 in
theorem ratchet_heads_some (key : List UInt8) (hk : key.length = 32) (last n : Int) (out : List UInt8) (ho : headOut key last n = some out) :
    Ct Try.prog 4 [.w (.agg (bytesC key ++ [.pl (.i last), .pl (.i n)]))] (fun v m => v = .w (.one (.pl (.b true)))) := by
  refine Ct.k Try.func4 rfl Try.ntmps4 (congrArg Array.toList Try.results4) (by simp) fun w0 ro => ?_
  refine seq_k fun N1 M1 hN1 hM1 => ?_
  refine region_k fun K2 hK2 => ?_
  simp only [go_sem, hk]
  all_goals repeat' (first | apply And.intro | intro _)
  all_goals
    refine hK2 _ ?_
    refine hN1 _ ?_
    refine seq_k fun N3 M3 hN3 hM3 => ?_
    refine region_k fun K4 hK4 => ?_
    simp only [go_sem, hk]
    all_goals repeat' (first | apply And.intro | intro _)
    all_goals refine call_view (fun _ => 13) (fun _ _ => rfl) (by first | rfl | (simp only [go_sem, hk]; rfl) | simp only [go_sem, hk]) ((head_bytes key hk last n).tidied.mono fun v m hR => by rw [ho] at hR; exact hR) ?_
    all_goals (rintro v m ⟨hR, hm⟩; subst hR; subst hm)
    all_goals refine And.intro (by first | rfl | simp only [go_sem]) (And.intro (by first | rfl | simp only [go_sem]) ?_)
    all_goals simp only [go_sem, hk]
    all_goals repeat' (first | apply And.intro | intro _)
    all_goals
      refine hK4 _ ?_
      refine hN3 _ ?_
      refine seq_k fun N5 M5 hN5 hM5 => ?_
      refine region_k fun K6 hK6 => ?_
      simp only [go_sem, hk]
      all_goals repeat' (first | apply And.intro | intro _)
      all_goals refine call_view (fun _ => 18) (fun _ _ => rfl) (by first | rfl | (simp only [go_sem, hk]; rfl) | simp only [go_sem, hk]) ((head_ref key hk last n).tidied.mono fun v m hR => by rw [ho] at hR; exact hR) ?_
      all_goals (rintro v m ⟨hR, hm⟩; subst hR; subst hm)
      all_goals refine And.intro (by first | rfl | simp only [go_sem]) (And.intro (by first | rfl | simp only [go_sem]) ?_)
      all_goals simp only [go_sem, hk]
      all_goals repeat' (first | apply And.intro | intro _)
      all_goals
        refine hK6 _ ?_
        refine hN5 _ ?_
        refine seq_k fun N7 M7 hN7 hM7 => ?_
        refine region_k fun K8 hK8 => ?_
        simp only [go_sem, hk]
        all_goals repeat' (first | apply And.intro | intro _)
        all_goals refine call_view (fun k => k) (fun _ _ => rfl) (by first | rfl | (simp only [go_sem, hk]; rfl) | simp only [go_sem, hk]) ((same_bytes false false out out).plain fun _ _ h => h) ?_
        all_goals (rintro v m ⟨hR, hm⟩; subst hR; subst hm)
        all_goals refine And.intro (by first | rfl | simp only [go_sem]) (And.intro (by first | rfl | simp only [go_sem]) ?_)
        all_goals simp only [go_sem, hk]
        all_goals repeat' (first | apply And.intro | intro _)
        all_goals
          refine hK8 _ ?_
          refine hN7 _ ?_
          refine ret_k ?_
          simp only [go_sem, hk]
          all_goals (first | rfl | simp)
theorem ratchet_heads (key : List UInt8) (hk : key.length = 32) (last n : Int) :
    Ct Try.prog 4 [.w (.agg (bytesC key ++ [.pl (.i last), .pl (.i n)]))] (fun v m => v = .w (.one (.pl (.b true)))) := by
  cases h : headOut key last n with
  | none => exact ratchet_heads_none key hk last n h
  | some out => exact ratchet_heads_some key hk last n out h
end Go.Sy
