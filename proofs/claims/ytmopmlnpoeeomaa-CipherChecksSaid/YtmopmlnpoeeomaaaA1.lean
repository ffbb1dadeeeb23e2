/- Walks: cipher.Begin, cipher.Check and their law. -/
import Derived.Test.YtmopmlnpoeeomaaaT
set_option linter.unusedVariables false
set_option linter.unusedSimpArgs false
namespace Go.Sy
open Go.Proofs
attribute [local irreducible] atCall HT runOps runD onC
def cipherC (has : Bool) (key : List UInt8) (n : UInt64) : List L := .pl (.b has) :: (bytesC key ++ [.pl (.u64 n)])
def cipherFault (has : Bool) (key : List UInt8) (n : UInt64) : Int := if has = false ∧ ¬ (key = List.replicate 32 0 ∧ n = 0) then 9 else 0
set_option maxHeartbeats 400000 in
theorem cipher_begin (key : List UInt8) (hk : key.length = 32) :
    Ct Try.prog 12 [.w (.agg (bytesC key))] (fun v m => v = .w (.agg (cipherC true key 0))) := by
  refine Ct.k Try.func12 rfl Try.ntmps12 (congrArg Array.toList Try.results12) (by simp) fun w0 ro => ?_
  refine seq_k fun N1 M1 hN1 hM1 => ?_
  refine region_k fun K2 hK2 => ?_
  simp only [go_sem, hk, cipherC]
  all_goals repeat' (first | apply And.intro | intro _)
  all_goals
    refine hK2 _ ?_
    refine hN1 _ ?_
    refine seq_k fun N3 M3 hN3 hM3 => ?_
    refine region_k fun K4 hK4 => ?_
    simp only [go_sem, hk, cipherC]
    all_goals repeat' (first | apply And.intro | intro _)
    all_goals
      refine hK4 _ ?_
      refine hN3 _ ?_
      refine ret_k ?_
      simp only [go_sem, hk, cipherC]
      all_goals rfl
set_option maxHeartbeats 400000 in
theorem cipher_check (has : Bool) (key : List UInt8) (hk : key.length = 32) (n : UInt64) :
    Ct Try.prog 13 [.w (.agg (cipherC has key n))] (fun v m => v = .w (.one (.pl (.i (cipherFault has key n))))) := by
  refine Ct.k Try.func13 rfl Try.ntmps13 (congrArg Array.toList Try.results13) (by simp) fun w0 ro => ?_
  refine seq_k fun N1 M1 hN1 hM1 => ?_
  refine region_k fun K2 hK2 => ?_
  simp only [go_sem, hk, cipherC]
  all_goals repeat' (first | apply And.intro | intro _)
  all_goals
    refine hK2 _ ?_
    refine hN1 _ ?_
    refine seq_k fun N3 M3 hN3 hM3 => ?_
    refine seq_k fun N4 M4 hN4 hM4 => ?_
    refine region_k fun K5 hK5 => ?_
    simp only [go_sem, hk, cipherC]
    all_goals repeat' (first | apply And.intro | intro _)
    all_goals
      refine hK5 _ ?_
      refine hN4 _ ?_
      refine cond_k rfl (fun hc => ?_) (fun hc => ?_)
      · try simp only [go_sem, hk, cipherC] at hc
        all_goals
          refine seq_k fun N6 M6 hN6 hM6 => ?_
          refine region_k fun K7 hK7 => ?_
          simp only [go_sem, hk, cipherC]
          all_goals repeat' (first | apply And.intro | intro _)
          all_goals
            refine hK7 _ ?_
            refine hN6 _ ?_
            refine ret_k ?_
            refine hM3 _ _ ?_
            simp only [go_sem, hk, cipherC]
            all_goals (refine congrArg (fun x => V.w (W.one (L.pl (PL.i x)))) ?_; unfold cipherFault; cases has <;> simp_all)
      · try simp only [go_sem, hk, cipherC] at hc
        all_goals
          refine skip_k ?_
          refine hN3 _ ?_
          refine seq_k fun N8 M8 hN8 hM8 => ?_
          refine region_k fun K9 hK9 => ?_
          simp only [go_sem, hk, cipherC]
          all_goals repeat' (first | apply And.intro | intro _)
          all_goals
            refine hK9 _ ?_
            refine hN8 _ ?_
            refine ret_k ?_
            simp only [go_sem, hk, cipherC]
            all_goals (refine congrArg (fun x => V.w (W.one (L.pl (PL.i x)))) ?_; unfold cipherFault; cases has <;> simp_all)
set_option maxHeartbeats 400000 in
theorem cipher_fault (has : Bool) (key : List UInt8) (hk : key.length = 32) (n : UInt64) :
    Ct Try.prog 14 [.w (.agg (cipherC has key n))] (fun v m => v = .w (.one (.pl (.i (cipherFault has key n))))) := by
  refine Ct.k Try.func14 rfl Try.ntmps14 (congrArg Array.toList Try.results14) (by simp) fun w0 ro => ?_
  refine seq_k fun N1 M1 hN1 hM1 => ?_
  refine region_k fun K2 hK2 => ?_
  simp only [go_sem, hk, cipherC]
  all_goals repeat' (first | apply And.intro | intro _)
  all_goals
    refine hK2 _ ?_
    refine hN1 _ ?_
    refine seq_k fun N3 M3 hN3 hM3 => ?_
    refine seq_k fun N4 M4 hN4 hM4 => ?_
    refine region_k fun K5 hK5 => ?_
    simp only [go_sem, hk, cipherC]
    all_goals repeat' (first | apply And.intro | intro _)
    all_goals
      refine hK5 _ ?_
      refine hN4 _ ?_
      refine cond_k rfl (fun hc => ?_) (fun hc => ?_)
      · try simp only [go_sem, hk, cipherC] at hc
        all_goals
          refine seq_k fun N6 M6 hN6 hM6 => ?_
          refine region_k fun K7 hK7 => ?_
          simp only [go_sem, hk, cipherC]
          all_goals repeat' (first | apply And.intro | intro _)
          all_goals
            refine hK7 _ ?_
            refine hN6 _ ?_
            refine ret_k ?_
            refine hM3 _ _ ?_
            simp only [go_sem, hk, cipherC]
            all_goals (refine congrArg (fun x => V.w (W.one (L.pl (PL.i x)))) ?_; unfold cipherFault; cases has <;> simp_all)
      · try simp only [go_sem, hk, cipherC] at hc
        all_goals
          refine skip_k ?_
          refine hN3 _ ?_
          refine seq_k fun N8 M8 hN8 hM8 => ?_
          refine region_k fun K9 hK9 => ?_
          simp only [go_sem, hk, cipherC]
          all_goals repeat' (first | apply And.intro | intro _)
          all_goals
            refine hK9 _ ?_
            refine hN8 _ ?_
            refine ret_k ?_
            simp only [go_sem, hk, cipherC]
            all_goals (refine congrArg (fun x => V.w (W.one (L.pl (PL.i x)))) ?_; unfold cipherFault; cases has <;> simp_all)
set_option maxHeartbeats 400000 in
theorem cipher_checks (k : List UInt8) (hk0 : k.length = 32) (has : Bool) (key : List UInt8) (hk : key.length = 32) (n : UInt64) :
    Ct Try.prog 3 [.w (.agg (bytesC k)), .w (.agg (cipherC has key n))] (fun v m => v = .w (.one (.pl (.b true)))) := by
  refine Ct.k Try.func3 rfl Try.ntmps3 (congrArg Array.toList Try.results3) (by simp) fun w0 ro => ?_
  refine seq_k fun N1 M1 hN1 hM1 => ?_
  refine region_k fun K2 hK2 => ?_
  simp only [go_sem, hk, cipherC, hk0]
  all_goals repeat' (first | apply And.intro | intro _)
  all_goals
    refine hK2 _ ?_
    refine hN1 _ ?_
    refine seq_k fun N3 M3 hN3 hM3 => ?_
    refine draw_k [8, 9, 10, 11, 5, 6] [0, 1, 0, 7, 0, 31, 63] [] mixed (by kernel_rfl) (by simp only [go_sem]) fun K4 hK4 => ?_
    simp only [go_sem, hk, cipherC, hk0]
    all_goals repeat' (first | apply And.intro | intro _)
    all_goals refine call_draw (fun k => k) _ [] (fun _ _ => rfl) (by first | rfl | (simp only [go_sem, hk, cipherC, hk0]; rfl) | simp only [go_sem, hk, cipherC, hk0]) ((cipher_begin k hk0).plain fun _ _ h => h) ?_ ?_
    all_goals try (refine And.intro ?_ (And.intro ?_ (And.intro ?_ ?_)) <;> first | rfl | simp only [go_sem])
    all_goals simp only [go_sem, hk, cipherC, hk0]
    all_goals repeat' (first | apply And.intro | intro _)
    all_goals refine call_draw (fun k => k) _ [] (fun _ _ => rfl) (by first | rfl | (simp only [go_sem, hk, cipherC, hk0]; rfl) | simp only [go_sem, hk, cipherC, hk0]) ((cipher_check has key hk n).plain fun _ _ h => h) ?_ ?_
    all_goals try (refine And.intro ?_ (And.intro ?_ (And.intro ?_ ?_)) <;> first | rfl | simp only [go_sem])
    all_goals simp only [go_sem, hk, cipherC, hk0]
    all_goals repeat' (first | apply And.intro | intro _)
    all_goals
      refine hK4 _ _ (by first | trivial | simp only [go_sem, chkD, atD, pairD, touchD]) ?_
      refine hN3 _ ?_
      refine seq_k fun N5 M5 hN5 hM5 => ?_
      refine region_k fun K6 hK6 => ?_
      simp only [go_sem, hk, cipherC, hk0]
      all_goals repeat' (first | apply And.intro | intro _)
      all_goals refine call_view (fun k => k) (fun _ _ => rfl) (by first | rfl | (simp only [go_sem, hk, cipherC, hk0]; rfl) | simp only [go_sem, hk, cipherC, hk0]) ((cipher_fault has key hk n).plain fun _ _ h => h) ?_
      all_goals (rintro v m ⟨hR, hm⟩; subst hR; subst hm)
      all_goals refine And.intro (by first | rfl | simp only [go_sem]) (And.intro (by first | rfl | simp only [go_sem]) ?_)
      all_goals simp only [go_sem, hk, cipherC, hk0]
      all_goals repeat' (first | apply And.intro | intro _)
      all_goals
        refine hK6 _ ?_
        refine hN5 _ ?_
        refine seq_k fun N7 M7 hN7 hM7 => ?_
        refine region_k fun K8 hK8 => ?_
        simp only [go_sem, hk, cipherC, hk0]
        all_goals repeat' (first | apply And.intro | intro _)
        all_goals
          refine hK8 _ ?_
          refine hN7 _ ?_
          refine ret_k ?_
          simp only [go_sem, hk, cipherC, hk0]
          all_goals (first | rfl | simp_all)
end Go.Sy
