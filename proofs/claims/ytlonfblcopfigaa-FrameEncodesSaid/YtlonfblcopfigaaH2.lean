/- Facts on the types of this seat's program, and the walks of frame.Check and frame.Encode. -/
import Derived.Test.YtlonfblcopfigaaProg
import Derived.Test.YtlonfblcopfigaaG2
import Derived.KernelRfl
set_option linter.unusedVariables false
set_option linter.unusedSimpArgs false
namespace Go.Sy
open Go.Proofs

attribute [local irreducible] atCall HT runOps
@[go_sem] theorem sz3 : Try.prog.cellsOf 3 = 1 := by kernel_rfl
@[go_sem] theorem sz34 : Try.prog.cellsOf 34 = 1 := by kernel_rfl
@[go_sem] theorem sz40 : Try.prog.cellsOf 40 = 3 := by kernel_rfl
attribute [go_sem] Try.underlying3 Try.underlying34 Try.underlying40 Try.underlying4 Try.underlying5 Try.underlying9 Try.underlying29
@[go_sem] theorem sz4 : Try.prog.cellsOf 4 = 1 := by kernel_rfl
@[go_sem] theorem sz5 : Try.prog.cellsOf 5 = 1 := by kernel_rfl
@[go_sem] theorem sz9 : Try.prog.cellsOf 9 = 1 := by kernel_rfl
@[go_sem] theorem sz29 : Try.prog.cellsOf 29 = 1 := by kernel_rfl

def byteRows (bs : List UInt8) : List (List PL) := bs.map fun b => [PL.u8 b]
@[go_sem] theorem bytesR_rows (bs : List UInt8) : bytesR (byteRows bs) = some bs := by
  induction bs with
  | nil => rfl
  | cons a l ih => simp only [byteRows, List.map_cons, bytesR] at ih ⊢; simp [ih]

def frameFault (kind id len : Int) : Int :=
  if kind < 1 ∨ 5 < kind then 2 else if id < 0 ∨ 255 < id then 6 else if 900 < len then 1 else if kind = 5 ∧ 0 < len then 3 else 0

set_option maxHeartbeats 400000 in
theorem frame_check (kind id : Int) (ex : Bool) (rows : List (List PL)) :
    Ct Try.prog 13 [.w (.agg [.pl (.i kind), .pl (.i id), .pl (.R ex 1 rows)])] (fun v m => v = .w (.one (.pl (.i (frameFault kind id rows.length))))) := by
  refine Ct.k Try.func13 rfl Try.ntmps13 (congrArg Array.toList Try.results13) (by simp) fun w0 ro => ?_
  refine seq_k fun N1 M1 hN1 hM1 => ?_
  refine region_k fun K2 hK2 => ?_
  simp only [go_sem]
  all_goals repeat' (first | apply And.intro | intro _)
  all_goals
    refine hK2 _ ?_
    refine hN1 _ ?_
    refine seq_k fun N3 M3 hN3 hM3 => ?_
    refine block_k fun B4 bn4 bx4 br4 bi4 => ?_
    refine seq_k fun N5 M5 hN5 hM5 => ?_
    refine region_k fun K6 hK6 => ?_
    simp only [go_sem]
    all_goals repeat' (first | apply And.intro | intro _)
    all_goals
      refine hK6 _ ?_
      refine hN5 _ ?_
      refine cond_k rfl (fun hc => ?_) (fun hc => ?_)
      · try simp only [go_sem] at hc
        all_goals
          refine seq_k fun N7 M7 hN7 hM7 => ?_
          refine region_k fun K8 hK8 => ?_
          simp only [go_sem]
          all_goals repeat' (first | apply And.intro | intro _)
          all_goals
            refine hK8 _ ?_
            refine hN7 _ ?_
            refine ret_k ?_
            refine br4 _ ?_
            refine hM3 _ _ ?_
            simp only [go_sem]
            all_goals (refine congrArg (fun x => V.w (W.one (L.pl (PL.i x)))) ?_; (try unfold RowKit.wrap64 at *); unfold frameFault; (repeat' split) <;> omega)
      · try simp only [go_sem] at hc
        all_goals
          refine seq_k fun N9 M9 hN9 hM9 => ?_
          refine region_k fun K10 hK10 => ?_
          simp only [go_sem]
          all_goals repeat' (first | apply And.intro | intro _)
          all_goals
            refine hK10 _ ?_
            refine hN9 _ ?_
            refine cond_k rfl (fun hc => ?_) (fun hc => ?_)
            · try simp only [go_sem] at hc
              all_goals
                refine seq_k fun N11 M11 hN11 hM11 => ?_
                refine region_k fun K12 hK12 => ?_
                simp only [go_sem]
                all_goals repeat' (first | apply And.intro | intro _)
                all_goals
                  refine hK12 _ ?_
                  refine hN11 _ ?_
                  refine ret_k ?_
                  refine br4 _ ?_
                  refine hM3 _ _ ?_
                  simp only [go_sem]
                  all_goals (refine congrArg (fun x => V.w (W.one (L.pl (PL.i x)))) ?_; (try unfold RowKit.wrap64 at *); unfold frameFault; (repeat' split) <;> omega)
            · try simp only [go_sem] at hc
              all_goals
                refine seq_k fun N13 M13 hN13 hM13 => ?_
                refine region_k fun K14 hK14 => ?_
                simp only [go_sem]
                all_goals repeat' (first | apply And.intro | intro _)
                all_goals
                  refine hK14 _ ?_
                  refine hN13 _ ?_
                  refine cond_k rfl (fun hc => ?_) (fun hc => ?_)
                  · try simp only [go_sem] at hc
                    all_goals
                      refine seq_k fun N15 M15 hN15 hM15 => ?_
                      refine region_k fun K16 hK16 => ?_
                      simp only [go_sem]
                      all_goals repeat' (first | apply And.intro | intro _)
                      all_goals
                        refine hK16 _ ?_
                        refine hN15 _ ?_
                        refine ret_k ?_
                        refine br4 _ ?_
                        refine hM3 _ _ ?_
                        simp only [go_sem]
                        all_goals (refine congrArg (fun x => V.w (W.one (L.pl (PL.i x)))) ?_; (try unfold RowKit.wrap64 at *); unfold frameFault; (repeat' split) <;> omega)
                  · try simp only [go_sem] at hc
                    all_goals
                      refine seq_k fun N17 M17 hN17 hM17 => ?_
                      refine region_k fun K18 hK18 => ?_
                      simp only [go_sem]
                      all_goals repeat' (first | apply And.intro | intro _)
                      all_goals
                        refine hK18 _ ?_
                        refine hN17 _ ?_
                        refine cond_k rfl (fun hc => ?_) (fun hc => ?_)
                        · try simp only [go_sem] at hc
                          all_goals
                            refine seq_k fun N19 M19 hN19 hM19 => ?_
                            refine region_k fun K20 hK20 => ?_
                            simp only [go_sem]
                            all_goals repeat' (first | apply And.intro | intro _)
                            all_goals
                              refine hK20 _ ?_
                              refine hN19 _ ?_
                              refine ret_k ?_
                              refine br4 _ ?_
                              refine hM3 _ _ ?_
                              simp only [go_sem]
                              all_goals (refine congrArg (fun x => V.w (W.one (L.pl (PL.i x)))) ?_; (try unfold RowKit.wrap64 at *); unfold frameFault; (repeat' split) <;> omega)
                        · try simp only [go_sem] at hc
                          all_goals
                            refine skip_k ?_
                            refine bn4 _ ?_
                            refine hN3 _ ?_
                            refine seq_k fun N21 M21 hN21 hM21 => ?_
                            refine region_k fun K22 hK22 => ?_
                            simp only [go_sem]
                            all_goals repeat' (first | apply And.intro | intro _)
                            all_goals
                              refine hK22 _ ?_
                              refine hN21 _ ?_
                              refine ret_k ?_
                              simp only [go_sem]
                              all_goals (refine congrArg (fun x => V.w (W.one (L.pl (PL.i x)))) ?_; (try unfold RowKit.wrap64 at *); unfold frameFault; (repeat' split) <;> omega)

set_option maxHeartbeats 400000 in
theorem upTo (a b : Int) :
    Ct Try.prog 17 [.w (.one (.pl (.i a))), .w (.one (.pl (.i b)))] (fun v m => v = .w (.one (.pl (.b (decide (0 ≤ a ∧ a ≤ b)))))) := by
  refine Ct.k Try.func17 rfl Try.ntmps17 (congrArg Array.toList Try.results17) (by simp) fun w0 ro => ?_
  refine seq_k fun N1 M1 hN1 hM1 => ?_
  refine region_k fun K2 hK2 => ?_
  simp only [go_sem]
  all_goals repeat' (first | apply And.intro | intro _)
  all_goals
    refine hK2 _ ?_
    refine hN1 _ ?_
    refine seq_k fun N3 M3 hN3 hM3 => ?_
    refine region_k fun K4 hK4 => ?_
    simp only [go_sem]
    all_goals repeat' (first | apply And.intro | intro _)
    all_goals
      refine hK4 _ ?_
      refine hN3 _ ?_
      refine ret_k ?_
      simp only [go_sem]
      all_goals (refine congrArg (fun x => V.w (W.one (L.pl (PL.b x)))) ?_; simp; omega)

set_option maxHeartbeats 400000 in
theorem frame_fault (kind id : Int) (hk : -9223372036854775808 ≤ kind ∧ kind ≤ 9223372036854775807) (ex : Bool) (rows : List (List PL)) :
    Ct Try.prog 15 [.w (.agg [.pl (.i kind), .pl (.i id), .pl (.R ex 1 rows)])] (fun v m => v = .w (.one (.pl (.i (frameFault kind id rows.length))))) := by
  refine Ct.k Try.func15 rfl Try.ntmps15 (congrArg Array.toList Try.results15) (by simp) fun w0 ro => ?_
  refine seq_k fun N1 M1 hN1 hM1 => ?_
  refine region_k fun K2 hK2 => ?_
  simp only [go_sem]
  all_goals repeat' (first | apply And.intro | intro _)
  all_goals
    refine hK2 _ ?_
    refine hN1 _ ?_
    refine seq_k fun N3 M3 hN3 hM3 => ?_
    refine seq_k fun N4 M4 hN4 hM4 => ?_
    refine region_k fun K5 hK5 => ?_
    simp only [go_sem]
    all_goals repeat' (first | apply And.intro | intro _)
    all_goals refine call_view (fun k => k) (fun _ _ => rfl) (by first | rfl | (simp only [go_sem]; rfl)) ((upTo _ _).plain fun _ _ h => h) ?_
    all_goals (rintro v m ⟨hR, hm⟩; subst hR; subst hm)
    all_goals refine And.intro rfl (And.intro rfl ?_)
    all_goals simp only [go_sem]
    all_goals repeat' (first | apply And.intro | intro _)
    all_goals
      refine hK5 _ ?_
      refine hN4 _ ?_
      refine cond_k rfl (fun hc => ?_) (fun hc => ?_)
      · try simp only [go_sem] at hc
        all_goals
          refine seq_k fun N6 M6 hN6 hM6 => ?_
          refine region_k fun K7 hK7 => ?_
          simp only [go_sem]
          all_goals repeat' (first | apply And.intro | intro _)
          all_goals
            refine hK7 _ ?_
            refine hN6 _ ?_
            refine ret_k ?_
            refine hM3 _ _ ?_
            simp only [go_sem]
            all_goals (refine congrArg (fun x => V.w (W.one (L.pl (PL.i x)))) ?_; (try unfold RowKit.wrap64 at *); unfold frameFault; (repeat' split) <;> omega)
      · try simp only [go_sem] at hc
        all_goals
          refine skip_k ?_
          refine hN3 _ ?_
          refine seq_k fun N8 M8 hN8 hM8 => ?_
          refine seq_k fun N9 M9 hN9 hM9 => ?_
          refine region_k fun K10 hK10 => ?_
          simp only [go_sem]
          all_goals repeat' (first | apply And.intro | intro _)
          all_goals refine call_view (fun k => k) (fun _ _ => rfl) (by first | rfl | (simp only [go_sem]; rfl)) ((upTo _ _).plain fun _ _ h => h) ?_
          all_goals (rintro v m ⟨hR, hm⟩; subst hR; subst hm)
          all_goals refine And.intro rfl (And.intro rfl ?_)
          all_goals simp only [go_sem]
          all_goals repeat' (first | apply And.intro | intro _)
          all_goals
            refine hK10 _ ?_
            refine hN9 _ ?_
            refine cond_k rfl (fun hc => ?_) (fun hc => ?_)
            · try simp only [go_sem] at hc
              all_goals
                refine seq_k fun N11 M11 hN11 hM11 => ?_
                refine region_k fun K12 hK12 => ?_
                simp only [go_sem]
                all_goals repeat' (first | apply And.intro | intro _)
                all_goals
                  refine hK12 _ ?_
                  refine hN11 _ ?_
                  refine ret_k ?_
                  refine hM8 _ _ ?_
                  simp only [go_sem]
                  all_goals (refine congrArg (fun x => V.w (W.one (L.pl (PL.i x)))) ?_; (try unfold RowKit.wrap64 at *); unfold frameFault; (repeat' split) <;> omega)
            · try simp only [go_sem] at hc
              all_goals
                refine skip_k ?_
                refine hN8 _ ?_
                refine seq_k fun N13 M13 hN13 hM13 => ?_
                refine seq_k fun N14 M14 hN14 hM14 => ?_
                refine region_k fun K15 hK15 => ?_
                simp only [go_sem]
                all_goals repeat' (first | apply And.intro | intro _)
                all_goals
                  refine hK15 _ ?_
                  refine hN14 _ ?_
                  refine cond_k rfl (fun hc => ?_) (fun hc => ?_)
                  · try simp only [go_sem] at hc
                    all_goals
                      refine seq_k fun N16 M16 hN16 hM16 => ?_
                      refine region_k fun K17 hK17 => ?_
                      simp only [go_sem]
                      all_goals repeat' (first | apply And.intro | intro _)
                      all_goals
                        refine hK17 _ ?_
                        refine hN16 _ ?_
                        refine ret_k ?_
                        refine hM13 _ _ ?_
                        simp only [go_sem]
                        all_goals (refine congrArg (fun x => V.w (W.one (L.pl (PL.i x)))) ?_; (try unfold RowKit.wrap64 at *); unfold frameFault; (repeat' split) <;> omega)
                  · try simp only [go_sem] at hc
                    all_goals
                      refine skip_k ?_
                      refine hN13 _ ?_
                      refine seq_k fun N18 M18 hN18 hM18 => ?_
                      refine seq_k fun N19 M19 hN19 hM19 => ?_
                      refine region_k fun K20 hK20 => ?_
                      simp only [go_sem]
                      all_goals repeat' (first | apply And.intro | intro _)
                      all_goals
                        refine hK20 _ ?_
                        refine hN19 _ ?_
                        refine cond_k rfl (fun hc => ?_) (fun hc => ?_)
                        · try simp only [go_sem] at hc
                          all_goals
                            refine seq_k fun N21 M21 hN21 hM21 => ?_
                            refine region_k fun K22 hK22 => ?_
                            simp only [go_sem]
                            all_goals repeat' (first | apply And.intro | intro _)
                            all_goals
                              refine hK22 _ ?_
                              refine hN21 _ ?_
                              refine ret_k ?_
                              refine hM18 _ _ ?_
                              simp only [go_sem]
                              all_goals (refine congrArg (fun x => V.w (W.one (L.pl (PL.i x)))) ?_; (try unfold RowKit.wrap64 at *); unfold frameFault; (repeat' split) <;> omega)
                        · try simp only [go_sem] at hc
                          all_goals
                            refine skip_k ?_
                            refine hN18 _ ?_
                            refine seq_k fun N23 M23 hN23 hM23 => ?_
                            refine region_k fun K24 hK24 => ?_
                            simp only [go_sem]
                            all_goals repeat' (first | apply And.intro | intro _)
                            all_goals
                              refine hK24 _ ?_
                              refine hN23 _ ?_
                              refine ret_k ?_
                              simp only [go_sem]
                              all_goals (refine congrArg (fun x => V.w (W.one (L.pl (PL.i x)))) ?_; (try unfold RowKit.wrap64 at *); unfold frameFault; (repeat' split) <;> omega)

set_option maxHeartbeats 400000 in
theorem same_bytes (e1 e2 : Bool) (r1 r2 : List UInt8) :
    Ct Try.prog 12 [.w (.one (.pl (.R e1 1 (byteRows r1)))), .w (.one (.pl (.R e2 1 (byteRows r2))))] (fun v m => v = .w (.one (.pl (.b (decide (r1 = r2)))))) := by
  refine Ct.k Try.func12 rfl Try.ntmps12 (congrArg Array.toList Try.results12) (by simp) fun w0 ro => ?_
  refine seq_k fun N1 M1 hN1 hM1 => ?_
  refine region_k fun K2 hK2 => ?_
  simp only [go_sem]
  all_goals repeat' (first | apply And.intro | intro _)
  all_goals
    refine hK2 _ ?_
    refine hN1 _ ?_
    refine seq_k fun N3 M3 hN3 hM3 => ?_
    refine region_k fun K4 hK4 => ?_
    simp only [go_sem]
    all_goals repeat' (first | apply And.intro | intro _)
    all_goals
      refine hK4 _ ?_
      refine hN3 _ ?_
      refine ret_k ?_
      simp only [go_sem]
      all_goals rfl


end Go.Sy
