/- The walks of frame.Encode and signetref.FrameBytes. -/
import Derived.Test.YtlonfblcopfigaaH2
import Derived.Test.YtlonfblcopfigaaG4
set_option linter.unusedVariables false
set_option linter.unusedSimpArgs false
namespace Go.Sy
open Go.Proofs
attribute [local irreducible] atCall HT runOps
attribute [go_sem] bytesL Int.reduceLE Int.reduceLT Int.reduceToNat Int.reduceEq UInt64.reduceOfNat UInt64.reduceToNat Nat.reduceMul Nat.reduceSub W.cells V.num upd if_true if_false toKind appendV srcV allocV partsV fillL L.has Nat.mul_one List.any_append Try.underlying12 Try.underlying45 shiftV ishr PL.num List.replicate_succ List.replicate_zero List.flatten_cons List.flatten_nil List.append_nil List.cons_append List.nil_append
@[go_sem] theorem sz12 : Try.prog.cellsOf 12 = 1 := by kernel_rfl
@[go_sem] theorem zc5 : zeroC Try.prog 5 = some [.pl (.u8 0)] := by kernel_rfl
@[go_sem] theorem by5 : Try.prog.bytesOf 5 = 1 := by kernel_rfl
@[go_sem] theorem byteRows_len (bs : List UInt8) : (byteRows bs).length = bs.length := by simp [byteRows]
@[go_sem] theorem byteRows_pls (bs : List UInt8) : pls (byteRows bs).flatten = bytesC bs := by
  induction bs with
  | nil => rfl
  | cons a l ih => simp [byteRows, bytesC, pls] at ih ⊢; exact ih
@[go_sem] theorem bytesC_has (j : Nat) (bs : List UInt8) : (bytesC bs).any (L.has j) = false := by
  simp [bytesC, L.has]


theorem frame_len {kind id : Int} {n : Nat} (h : frameFault kind id n = 0) : 4 + n ≤ 140737488355328 ∧ 4 + n ≤ maxLen ∧ n ≤ 900 := by
  unfold frameFault at h
  unfold maxLen
  (repeat' split at h) <;> omega

def frameHead (kind id : Int) (n : Nat) : List UInt8 := [UInt8.ofNat (kind % 256).toNat, UInt8.ofNat (id % 256).toNat, UInt8.ofNat ((n : Int) / 256 % 256).toNat, UInt8.ofNat ((n : Int) % 256).toNat]
def frameOut (kind id : Int) (bs : List UInt8) : Option (List UInt8) := if frameFault kind id bs.length = 0 then some (frameHead kind id bs.length ++ bs) else none

theorem frameOut_none {kind id : Int} {bs : List UInt8} (h : ¬ frameFault kind id bs.length = 0) : frameOut kind id bs = none := if_neg h
theorem frameOut_some {kind id : Int} {bs : List UInt8} (h : frameFault kind id bs.length = 0) : frameOut kind id bs = some (frameHead kind id bs.length ++ bs) := if_pos h
theorem high_fdiv (n : Nat) : (n : Int).fdiv (2 ^ min 8 64) = (n : Int) / 256 := by
  rw [Int.fdiv_eq_ediv_of_nonneg _ (by decide)]; rfl
theorem high_tdiv {n : Nat} (h : n ≤ 900) : RowKit.wrap64 ((n : Int).tdiv 256) = (n : Int) / 256 := by
  rw [Int.tdiv_eq_ediv_of_nonneg (by omega)]; unfold RowKit.wrap64; omega

set_option maxHeartbeats 400000 in
theorem frame_encode (kind id : Int) (hk : -9223372036854775808 ≤ kind ∧ kind ≤ 9223372036854775807) (ex : Bool) (bs : List UInt8) :
    Ct Try.prog 14 [.w (.agg [.pl (.i kind), .pl (.i id), .pl (.R ex 1 (byteRows bs))])] (Tidy (bytesOut (frameOut kind id bs) (frameFault kind id bs.length))) := by
  refine Ct.k Try.func14 rfl Try.ntmps14 (congrArg Array.toList Try.results14) (by simp) fun w0 ro => ?_
  refine seq_k fun N1 M1 hN1 hM1 => ?_
  refine region_k fun K2 hK2 => ?_
  simp only [go_sem]
  all_goals repeat' (first | apply And.intro | intro _)
  all_goals
    refine hK2 _ ?_
    refine hN1 _ ?_
    refine seq_k fun N3 M3 hN3 hM3 => ?_
    refine seq_k fun N4 M4 hN4 hM4 => ?_
    refine region_k fun K5 hK5 => ?_
    simp only [go_sem]
    all_goals repeat' (first | apply And.intro | intro _)
    all_goals refine call_view (fun k => k) (fun _ _ => rfl) (by first | rfl | (simp only [go_sem]; rfl)) ((frame_check _ _ _ _).plain fun _ _ h => h) ?_
    all_goals (rintro v m ⟨hR, hm⟩; subst hR; subst hm)
    all_goals refine And.intro rfl (And.intro rfl ?_)
    all_goals simp only [go_sem]
    all_goals repeat' (first | apply And.intro | intro _)
    all_goals
      refine hK5 _ ?_
      refine hN4 _ ?_
      refine seq_k fun N6 M6 hN6 hM6 => ?_
      refine region_k fun K7 hK7 => ?_
      simp only [go_sem]
      all_goals repeat' (first | apply And.intro | intro _)
      all_goals
        refine hK7 _ ?_
        refine hN6 _ ?_
        refine cond_k rfl (fun hc => ?_) (fun hc => ?_)
        · try simp only [go_sem] at hc
          all_goals
            refine seq_k fun N8 M8 hN8 hM8 => ?_
            refine region_k fun K9 hK9 => ?_
            simp only [go_sem]
            all_goals repeat' (first | apply And.intro | intro _)
            all_goals
              refine hK9 _ ?_
              refine hN8 _ ?_
              refine ret_k ?_
              refine hM3 _ _ ?_
              simp only [go_sem]
              all_goals (first | (rw [frameOut_none hc]; exact out_nil _) | (rw [frameOut_some hc, hc]; (try rw [high_fdiv]); (try rw [high_tdiv hl.2.2]); exact out_own (by simp [frameHead]; try omega) rfl))
        · try simp only [go_sem] at hc
          all_goals have hl := frame_len hc
          all_goals
            refine skip_k ?_
            refine hN3 _ ?_
            refine seq_k fun N10 M10 hN10 hM10 => ?_
            refine region_k fun K11 hK11 => ?_
            simp only [go_sem, hl]
            all_goals repeat' (first | apply And.intro | intro _)
            all_goals
              refine hK11 _ ?_
              refine hN10 _ ?_
              refine seq_k fun N12 M12 hN12 hM12 => ?_
              refine region_k fun K13 hK13 => ?_
              simp only [go_sem, hl]
              all_goals repeat' (first | apply And.intro | intro _)
              all_goals
                refine hK13 _ ?_
                refine hN12 _ ?_
                refine ret_k ?_
                simp only [go_sem, hl]
                all_goals (first | (rw [frameOut_none hc]; exact out_nil _) | (rw [frameOut_some hc, hc]; (try rw [high_fdiv]); (try rw [high_tdiv hl.2.2]); exact out_own (by simp [frameHead]; try omega) rfl))

set_option maxHeartbeats 400000 in
theorem frame_bytes (kind id : Int) (hk : -9223372036854775808 ≤ kind ∧ kind ≤ 9223372036854775807) (ex : Bool) (bs : List UInt8) :
    Ct Try.prog 16 [.w (.agg [.pl (.i kind), .pl (.i id), .pl (.R ex 1 (byteRows bs))])] (Tidy (bytesOut (frameOut kind id bs) (frameFault kind id bs.length))) := by
  refine Ct.k Try.func16 rfl Try.ntmps16 (congrArg Array.toList Try.results16) (by simp) fun w0 ro => ?_
  refine seq_k fun N1 M1 hN1 hM1 => ?_
  refine region_k fun K2 hK2 => ?_
  simp only [go_sem]
  all_goals repeat' (first | apply And.intro | intro _)
  all_goals
    refine hK2 _ ?_
    refine hN1 _ ?_
    refine seq_k fun N3 M3 hN3 hM3 => ?_
    refine seq_k fun N4 M4 hN4 hM4 => ?_
    refine region_k fun K5 hK5 => ?_
    simp only [go_sem]
    all_goals repeat' (first | apply And.intro | intro _)
    all_goals refine call_view (fun k => k) (fun _ _ => rfl) (by first | rfl | (simp only [go_sem]; rfl)) ((frame_fault _ _ hk _ _).plain fun _ _ h => h) ?_
    all_goals (rintro v m ⟨hR, hm⟩; subst hR; subst hm)
    all_goals refine And.intro rfl (And.intro rfl ?_)
    all_goals simp only [go_sem]
    all_goals repeat' (first | apply And.intro | intro _)
    all_goals
      refine hK5 _ ?_
      refine hN4 _ ?_
      refine seq_k fun N6 M6 hN6 hM6 => ?_
      refine region_k fun K7 hK7 => ?_
      simp only [go_sem]
      all_goals repeat' (first | apply And.intro | intro _)
      all_goals
        refine hK7 _ ?_
        refine hN6 _ ?_
        refine cond_k rfl (fun hc => ?_) (fun hc => ?_)
        · try simp only [go_sem] at hc
          all_goals
            refine seq_k fun N8 M8 hN8 hM8 => ?_
            refine region_k fun K9 hK9 => ?_
            simp only [go_sem]
            all_goals repeat' (first | apply And.intro | intro _)
            all_goals
              refine hK9 _ ?_
              refine hN8 _ ?_
              refine ret_k ?_
              refine hM3 _ _ ?_
              simp only [go_sem]
              all_goals (first | (rw [frameOut_none hc]; exact out_nil _) | (rw [frameOut_some hc, hc]; (try rw [high_fdiv]); (try rw [high_tdiv hl.2.2]); exact out_own (by simp [frameHead]; try omega) rfl))
        · try simp only [go_sem] at hc
          all_goals have hl := frame_len hc
          all_goals
            refine skip_k ?_
            refine hN3 _ ?_
            refine seq_k fun N10 M10 hN10 hM10 => ?_
            refine region_k fun K11 hK11 => ?_
            simp only [go_sem, hl]
            all_goals repeat' (first | apply And.intro | intro _)
            all_goals
              refine hK11 _ ?_
              refine hN10 _ ?_
              refine seq_k fun N12 M12 hN12 hM12 => ?_
              refine region_k fun K13 hK13 => ?_
              simp only [go_sem, hl]
              all_goals repeat' (first | apply And.intro | intro _)
              all_goals
                refine hK13 _ ?_
                refine hN12 _ ?_
                refine ret_k ?_
                simp only [go_sem, hl]
                all_goals (first | (rw [frameOut_none hc]; exact out_nil _) | (rw [frameOut_some hc, hc]; (try rw [high_fdiv]); (try rw [high_tdiv hl.2.2]); exact out_own (by simp [frameHead]; try omega) rfl))


end Go.Sy
