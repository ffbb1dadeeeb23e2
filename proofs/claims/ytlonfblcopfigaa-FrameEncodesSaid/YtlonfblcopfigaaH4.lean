/- The walk of the law FrameEncodes. -/
import Derived.Test.YtlonfblcopfigaaH3
set_option linter.unusedVariables false
set_option linter.unusedSimpArgs false
namespace Go.Sy
open Go.Proofs
attribute [local irreducible] atCall HT runOps
attribute [go_sem] decide_true decide_false look extractV List.map_cons List.map_nil Option.isSome_none Option.isSome_some Option.bind_none Option.map_none List.all_append List.map_map viewVs viewV viewL viewLs adoptOk resOkV resOkW resL strictL List.all_nil List.all_cons Bool.and_true Bool.true_and
@[go_sem] theorem bytesC_strict (bs : List UInt8) : (bytesC bs).all strictL = true := by simp [bytesC, strictL]

@[go_sem] theorem bytesC_len (bs : List UInt8) : (bytesC bs).length = bs.length := by simp [bytesC]
@[go_sem] theorem unpl_bytes (bs : List UInt8) : unpl (bytesC bs) = some (bs.map PL.u8) := by
  induction bs with
  | nil => rfl
  | cons a l ih => simp only [bytesC, List.map_cons, unpl] at ih ⊢; simp [ih]
@[go_sem] theorem chunks_bytes (bs : List UInt8) : chunks 1 bs.length (bs.map PL.u8) = byteRows bs := by
  induction bs with
  | nil => rfl
  | cons a l ih => simp only [byteRows, List.map_cons, List.length_cons, chunks] at ih ⊢; simp [ih]

set_option maxHeartbeats 400000 in
theorem frame_encodes_none (kind id : Int) (hk : -9223372036854775808 ≤ kind ∧ kind ≤ 9223372036854775807) (ex : Bool) (bs : List UInt8) (ho : frameOut kind id bs = none) :
    Ct Try.prog 6 [.w (.agg [.pl (.i kind), .pl (.i id), .pl (.R ex 1 (byteRows bs))])] (fun v m => v = .w (.one (.pl (.b true)))) := by
  refine Ct.k Try.func6 rfl Try.ntmps6 (congrArg Array.toList Try.results6) (by simp) fun w0 ro => ?_
  refine seq_k fun N1 M1 hN1 hM1 => ?_
  refine region_k fun K2 hK2 => ?_
  simp only [go_sem]
  all_goals repeat' (first | apply And.intro | intro _)
  all_goals
    refine hK2 _ ?_
    refine hN1 _ ?_
    refine seq_k fun N3 M3 hN3 hM3 => ?_
    refine region_k fun K4 hK4 => ?_
    simp only [go_sem]
    all_goals repeat' (first | apply And.intro | intro _)
    all_goals refine call_view (fun k => k) (fun _ _ => rfl) (by first | rfl | (simp only [go_sem]; rfl) | simp only [go_sem]) ((frame_check _ _ _ _).plain fun _ _ h => h) ?_
    all_goals (rintro v m ⟨hR, hm⟩; subst hR; subst hm)
    all_goals refine And.intro (by first | rfl | simp only [go_sem]) (And.intro (by first | rfl | simp only [go_sem]) ?_)
    all_goals simp only [go_sem]
    all_goals repeat' (first | apply And.intro | intro _)
    all_goals
      refine hK4 _ ?_
      refine hN3 _ ?_
      refine seq_k fun N5 M5 hN5 hM5 => ?_
      refine region_k fun K6 hK6 => ?_
      simp only [go_sem]
      all_goals repeat' (first | apply And.intro | intro _)
      all_goals refine call_view (fun _ => 13) (fun _ _ => rfl) (by first | rfl | (simp only [go_sem]; rfl) | simp only [go_sem]) (frame_encode _ _ hk _ _).tidied ?_
      all_goals (intro v m hR; rw [ho] at hR; obtain ⟨hR, hm⟩ := hR; subst hR; subst hm)
      all_goals refine And.intro (by first | rfl | simp only [go_sem]) (And.intro (by first | rfl | simp only [go_sem]) ?_)
      all_goals simp only [go_sem]
      all_goals repeat' (first | apply And.intro | intro _)
      all_goals
        refine hK6 _ ?_
        refine hN5 _ ?_
        refine seq_k fun N7 M7 hN7 hM7 => ?_
        refine region_k fun K8 hK8 => ?_
        simp only [go_sem]
        all_goals repeat' (first | apply And.intro | intro _)
        all_goals refine call_view (fun k => k) (fun _ _ => rfl) (by first | rfl | (simp only [go_sem]; rfl) | simp only [go_sem]) ((frame_fault _ _ hk _ _).plain fun _ _ h => h) ?_
        all_goals (rintro v m ⟨hR, hm⟩; subst hR; subst hm)
        all_goals refine And.intro (by first | rfl | simp only [go_sem]) (And.intro (by first | rfl | simp only [go_sem]) ?_)
        all_goals simp only [go_sem]
        all_goals repeat' (first | apply And.intro | intro _)
        all_goals
          refine hK8 _ ?_
          refine hN7 _ ?_
          refine seq_k fun N9 M9 hN9 hM9 => ?_
          refine region_k fun K10 hK10 => ?_
          simp only [go_sem]
          all_goals repeat' (first | apply And.intro | intro _)
          all_goals refine call_view (fun _ => 20) (fun _ _ => rfl) (by first | rfl | (simp only [go_sem]; rfl) | simp only [go_sem]) (frame_bytes _ _ hk _ _).tidied ?_
          all_goals (intro v m hR; rw [ho] at hR; obtain ⟨hR, hm⟩ := hR; subst hR; subst hm)
          all_goals refine And.intro (by first | rfl | simp only [go_sem]) (And.intro (by first | rfl | simp only [go_sem]) ?_)
          all_goals simp only [go_sem]
          all_goals repeat' (first | apply And.intro | intro _)
          all_goals
            refine hK10 _ ?_
            refine hN9 _ ?_
            refine seq_k fun N11 M11 hN11 hM11 => ?_
            refine region_k fun K12 hK12 => ?_
            simp only [go_sem]
            all_goals repeat' (first | apply And.intro | intro _)
            all_goals refine call_view (fun k => k) (fun _ _ => rfl) (by first | rfl | (simp only [go_sem]; rfl) | simp only [go_sem]) ((same_bytes true true [] []).plain fun _ _ h => h) ?_
            all_goals (rintro v m ⟨hR, hm⟩; subst hR; subst hm)
            all_goals refine And.intro (by first | rfl | simp only [go_sem]) (And.intro (by first | rfl | simp only [go_sem]) ?_)
            all_goals simp only [go_sem]
            all_goals repeat' (first | apply And.intro | intro _)
            all_goals
              refine hK12 _ ?_
              refine hN11 _ ?_
              refine ret_k ?_
              simp only [go_sem]
              all_goals rfl

set_option maxHeartbeats 400000 in
theorem frame_encodes_some (kind id : Int) (hk : -9223372036854775808 ≤ kind ∧ kind ≤ 9223372036854775807) (ex : Bool) (bs : List UInt8) (out : List UInt8) (ho : frameOut kind id bs = some out) :
    Ct Try.prog 6 [.w (.agg [.pl (.i kind), .pl (.i id), .pl (.R ex 1 (byteRows bs))])] (fun v m => v = .w (.one (.pl (.b true)))) := by
  refine Ct.k Try.func6 rfl Try.ntmps6 (congrArg Array.toList Try.results6) (by simp) fun w0 ro => ?_
  refine seq_k fun N1 M1 hN1 hM1 => ?_
  refine region_k fun K2 hK2 => ?_
  simp only [go_sem]
  all_goals repeat' (first | apply And.intro | intro _)
  all_goals
    refine hK2 _ ?_
    refine hN1 _ ?_
    refine seq_k fun N3 M3 hN3 hM3 => ?_
    refine region_k fun K4 hK4 => ?_
    simp only [go_sem]
    all_goals repeat' (first | apply And.intro | intro _)
    all_goals refine call_view (fun k => k) (fun _ _ => rfl) (by first | rfl | (simp only [go_sem]; rfl) | simp only [go_sem]) ((frame_check _ _ _ _).plain fun _ _ h => h) ?_
    all_goals (rintro v m ⟨hR, hm⟩; subst hR; subst hm)
    all_goals refine And.intro (by first | rfl | simp only [go_sem]) (And.intro (by first | rfl | simp only [go_sem]) ?_)
    all_goals simp only [go_sem]
    all_goals repeat' (first | apply And.intro | intro _)
    all_goals
      refine hK4 _ ?_
      refine hN3 _ ?_
      refine seq_k fun N5 M5 hN5 hM5 => ?_
      refine region_k fun K6 hK6 => ?_
      simp only [go_sem]
      all_goals repeat' (first | apply And.intro | intro _)
      all_goals refine call_view (fun _ => 13) (fun _ _ => rfl) (by first | rfl | (simp only [go_sem]; rfl) | simp only [go_sem]) (frame_encode _ _ hk _ _).tidied ?_
      all_goals (intro v m hR; rw [ho] at hR; obtain ⟨hR, hm⟩ := hR; subst hR; subst hm)
      all_goals refine And.intro (by first | rfl | simp only [go_sem]) (And.intro (by first | rfl | simp only [go_sem]) ?_)
      all_goals simp only [go_sem]
      all_goals repeat' (first | apply And.intro | intro _)
      all_goals
        refine hK6 _ ?_
        refine hN5 _ ?_
        refine seq_k fun N7 M7 hN7 hM7 => ?_
        refine region_k fun K8 hK8 => ?_
        simp only [go_sem]
        all_goals repeat' (first | apply And.intro | intro _)
        all_goals refine call_view (fun k => k) (fun _ _ => rfl) (by first | rfl | (simp only [go_sem]; rfl) | simp only [go_sem]) ((frame_fault _ _ hk _ _).plain fun _ _ h => h) ?_
        all_goals (rintro v m ⟨hR, hm⟩; subst hR; subst hm)
        all_goals refine And.intro (by first | rfl | simp only [go_sem]) (And.intro (by first | rfl | simp only [go_sem]) ?_)
        all_goals simp only [go_sem]
        all_goals repeat' (first | apply And.intro | intro _)
        all_goals
          refine hK8 _ ?_
          refine hN7 _ ?_
          refine seq_k fun N9 M9 hN9 hM9 => ?_
          refine region_k fun K10 hK10 => ?_
          simp only [go_sem]
          all_goals repeat' (first | apply And.intro | intro _)
          all_goals refine call_view (fun _ => 20) (fun _ _ => rfl) (by first | rfl | (simp only [go_sem]; rfl) | simp only [go_sem]) (frame_bytes _ _ hk _ _).tidied ?_
          all_goals (intro v m hR; rw [ho] at hR; obtain ⟨hR, hm⟩ := hR; subst hR; subst hm)
          all_goals refine And.intro (by first | rfl | simp only [go_sem]) (And.intro (by first | rfl | simp only [go_sem]) ?_)
          all_goals simp only [go_sem]
          all_goals repeat' (first | apply And.intro | intro _)
          all_goals
            refine hK10 _ ?_
            refine hN9 _ ?_
            refine seq_k fun N11 M11 hN11 hM11 => ?_
            refine region_k fun K12 hK12 => ?_
            simp only [go_sem]
            all_goals repeat' (first | apply And.intro | intro _)
            all_goals refine call_view (fun k => k) (fun _ _ => rfl) (by first | rfl | (simp only [go_sem]; rfl) | simp only [go_sem]) ((same_bytes false false out out).plain fun _ _ h => h) ?_
            all_goals (rintro v m ⟨hR, hm⟩; subst hR; subst hm)
            all_goals refine And.intro (by first | rfl | simp only [go_sem]) (And.intro (by first | rfl | simp only [go_sem]) ?_)
            all_goals simp only [go_sem]
            all_goals repeat' (first | apply And.intro | intro _)
            all_goals
              refine hK12 _ ?_
              refine hN11 _ ?_
              refine ret_k ?_
              simp only [go_sem]
              all_goals rfl


end Go.Sy
