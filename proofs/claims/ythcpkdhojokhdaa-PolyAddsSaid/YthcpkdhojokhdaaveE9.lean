/- Walks: sums with carry, products of words, three words and three words. -/
import Derived.Test.YthcpkdhojokhdaaveE3
import Derived.Test.YthcpkdhojokhdaavP5
import Derived.Laws.Externs
set_option linter.unusedVariables false
set_option linter.unusedSimpArgs false
namespace Go.Sy
open Go.Proofs
attribute [local irreducible] atCall HT runOps runD onC onE onO onG goV goA goS onSt onGuard
theorem now_add64 (x y c : UInt64) (hc : c.toNat ≤ 1) : Now Try.prog 46 [.w (.one (.pl (.u64 x))), .w (.one (.pl (.u64 y))), .w (.one (.pl (.u64 c)))] (.tup [.one (.pl (.u64 (adS x y c))), .one (.pl (.u64 (adC x y c)))]) := by
 refine ⟨fun k => rfl, fun w d vals h => ?_⟩
 have hv : vals = #[.int .u64 x.toNat, .int .u64 y.toNat, .int .u64 c.toNat] := by
  obtain ⟨l⟩ := vals
  simp only at h
  cases h with
  | cons h1 h =>
   cases h with
   | cons h2 h =>
    cases h with
    | cons h3 h =>
     cases h
     simp only [V.den, W.den, L.den] at h1 h2 h3
     rw [PL.den] at h1 h2 h3
     rw [h1, h2, h3]
 subst hv
 have hr := run_callFunc_extern (P := Try.prog) Try.func46 (by kernel_rfl) (by kernel_rfl) (by kernel_rfl) (e := add64Entry) (by kernel_rfl) #[.int .u64 x.toNat, .int .u64 y.toNat, .int .u64 c.toNat] w
 rw [run_add64 (x.toNat : Int) (y.toNat : Int) (c.toNat : Int) (by omega) (by omega) (by omega) (by omega)] at hr
 refine ⟨_, hr, fun d' => ⟨_, rfl, ?_⟩⟩
 have hx := x.toNat_lt
 have hy := y.toNat_lt
 refine .cons ?_ (.cons ?_ .nil)
 · simp only [W.den, L.den]
   rw [PL.den]
   simp only [adS, UInt64.toNat_ofNat']
   congr 1; omega
 · simp only [W.den, L.den]
   rw [PL.den]
   simp only [adC, UInt64.toNat_ofNat']
   congr 1; omega
set_option maxHeartbeats 400000 in
theorem mul64 (x y : UInt64) :
 Ct Try.prog 70 [.w (.one (.pl (.u64 x))), .w (.one (.pl (.u64 y)))] (fun v m => v = .tup [.one (.pl (.u64 (mulH x y))), .one (.pl (.u64 (x * y)))]) := by
 refine Ct.k Try.func70 rfl Try.ntmps70 (congrArg Array.toList Try.results70) (by simp) fun w0 ro => ?_
 refine seq_k fun N1 M1 hN1 hM1 => ?_
 refine region_k fun K2 hK2 => ?_
 simp only [go_sem]
 all_goals repeat' (first | apply And.intro | intro _)
 all_goals
  refine hK2 _ ?_
  refine hN1 _ ?_
  refine seq_k fun N3 M3 hN3 hM3 => ?_
  refine region_k fun K4 hK4 => ?_
  simp only [go_sem]
  all_goals repeat' (first | apply And.intro | intro _)
  all_goals
   refine hK4 _ ?_
   refine hN3 _ ?_
   refine seq_k fun N5 M5 hN5 hM5 => ?_
   refine region_k fun K6 hK6 => ?_
   simp only [go_sem]
   all_goals repeat' (first | apply And.intro | intro _)
   all_goals
    refine hK6 _ ?_
    refine hN5 _ ?_
    refine seq_k fun N7 M7 hN7 hM7 => ?_
    refine region_k fun K8 hK8 => ?_
    simp only [go_sem]
    all_goals repeat' (first | apply And.intro | intro _)
    all_goals
     refine hK8 _ ?_
     refine hN7 _ ?_
     refine seq_k fun N9 M9 hN9 hM9 => ?_
     refine region_k fun K10 hK10 => ?_
     simp only [go_sem]
     all_goals repeat' (first | apply And.intro | intro _)
     all_goals
      refine hK10 _ ?_
      refine hN9 _ ?_
      refine seq_k fun N11 M11 hN11 hM11 => ?_
      refine region_k fun K12 hK12 => ?_
      simp only [go_sem]
      all_goals repeat' (first | apply And.intro | intro _)
      all_goals
       refine hK12 _ ?_
       refine hN11 _ ?_
       refine seq_k fun N13 M13 hN13 hM13 => ?_
       refine region_k fun K14 hK14 => ?_
       simp only [go_sem]
       all_goals repeat' (first | apply And.intro | intro _)
       all_goals
        refine hK14 _ ?_
        refine hN13 _ ?_
        refine seq_k fun N15 M15 hN15 hM15 => ?_
        refine region_k fun K16 hK16 => ?_
        simp only [go_sem]
        all_goals repeat' (first | apply And.intro | intro _)
        all_goals
         refine hK16 _ ?_
         refine hN15 _ ?_
         refine seq_k fun N17 M17 hN17 hM17 => ?_
         refine region_k fun K18 hK18 => ?_
         simp only [go_sem]
         all_goals repeat' (first | apply And.intro | intro _)
         all_goals
          refine hK18 _ ?_
          refine hN17 _ ?_
          refine seq_k fun N19 M19 hN19 hM19 => ?_
          refine region_k fun K20 hK20 => ?_
          simp only [go_sem]
          all_goals repeat' (first | apply And.intro | intro _)
          all_goals
           refine hK20 _ ?_
           refine hN19 _ ?_
           refine seq_k fun N21 M21 hN21 hM21 => ?_
           refine region_k fun K22 hK22 => ?_
           simp only [go_sem]
           all_goals repeat' (first | apply And.intro | intro _)
           all_goals
            refine hK22 _ ?_
            refine hN21 _ ?_
            refine seq_k fun N23 M23 hN23 hM23 => ?_
            refine region_k fun K24 hK24 => ?_
            simp only [go_sem]
            all_goals repeat' (first | apply And.intro | intro _)
            all_goals
             refine hK24 _ ?_
             refine hN23 _ ?_
             refine ret_k ?_
             simp only [go_sem]
             all_goals (rfl)
def T3.ls (t : T3) : List L := W3 t.a t.b t.c
set_option maxHeartbeats 800000 in
theorem plus_ (x y : T3) :
 Ct Try.prog 62 [.w (.agg (W3 x.a x.b x.c)), .w (.agg (W3 y.a y.b y.c))] (fun v m => v = .w (.agg (W3 (x.plus y).a (x.plus y).b (x.plus y).c))) := by
 refine Ct.k Try.func62 rfl Try.ntmps62 (congrArg Array.toList Try.results62) (by simp) fun w0 ro => ?_
 refine seq_k fun N1 M1 hN1 hM1 => ?_
 refine region_k fun K2 hK2 => ?_
 simp only [go_sem, W3]
 all_goals repeat' (first | apply And.intro | intro _)
 all_goals
  refine hK2 _ ?_
  refine hN1 _ ?_
  refine seq_k fun N3 M3 hN3 hM3 => ?_
  refine region_k fun K4 hK4 => ?_
  simp only [go_sem, W3]
  all_goals repeat' (first | apply And.intro | intro _)
  all_goals
   refine hK4 _ ?_
   refine hN3 _ ?_
   refine seq_k fun N5 M5 hN5 hM5 => ?_
   refine seq_k fun N6 M6 hN6 hM6 => ?_
   refine region_k fun K7 hK7 => ?_
   simp only [go_sem, W3]
   all_goals repeat' (first | apply And.intro | intro _)
   all_goals
    refine hK7 _ ?_
    refine hN6 _ ?_
    refine block_k fun B8 bn8 bx8 br8 bi8 => ?_
    refine rounds_k 4 ?_
    refine rnd_k fun N10 M10 hN10 hM10 => ?_
    refine seq_k fun N11 M11 hN11 hM11 => ?_
    refine region_k fun K12 hK12 => ?_
    simp only [go_sem, W3]
    all_goals repeat' (first | apply And.intro | intro _)
    all_goals
     refine hK12 _ ?_
     refine hN11 _ ?_
     refine seq_k fun N13 M13 hN13 hM13 => ?_
     refine cond_k rfl (fun hc => ?_) (fun hc => ?_)
     · try simp only [go_sem, W3] at hc
       all_goals
        refine skip_k ?_
        refine hN13 _ ?_
        refine seq_k fun N14 M14 hN14 hM14 => ?_
        refine block_k fun B15 bn15 bx15 br15 bi15 => ?_
        refine seq_k fun N16 M16 hN16 hM16 => ?_
        refine region_k fun K17 hK17 => ?_
        simp only [go_sem, W3]
        all_goals repeat' (first | apply And.intro | intro _)
        all_goals
         refine hK17 _ ?_
         refine hN16 _ ?_
         refine draw_k [11, 12, 13, 14, 15, 16, 17, 18, 19, 10, 20, 21, 22, 5] [0, 0, 2, 6, 0, 16, 48, 0, 254, 510, 1022, 1022, 2047, 6143, 16383] [(11, 13)] mixed (by kernel_rfl) (by simp only [go_sem]) fun K18 hK18 => ?_
         simp only [go_sem, W3]
         all_goals repeat' (first | apply And.intro | intro _)
         all_goals refine call_drawnow (by first | rfl | (simp only [go_sem, W3]; rfl) | simp only [go_sem, W3]) (now_add64 _ _ _ (by first | decide | exact (ad_val _ _ (by decide)).2 | exact (ad_val _ _ ((ad_val _ _ (by decide)).2)).2)) ?_
         all_goals simp only [go_sem, W3]
         all_goals repeat' (first | apply And.intro | intro _)
         all_goals
          refine hK18 _ _ ?_ ?_
          · first | trivial | (simp only [go_sem]; done) | (simp only [go_sem]; simp; done) | (simp only [go_sem]; simp; simp only [go_sem])
          refine bn15 _ ?_
          refine hN14 _ ?_
          refine region_k fun K19 hK19 => ?_
          simp only [go_sem, W3]
          all_goals repeat' (first | apply And.intro | intro _)
          all_goals
           refine hK19 _ ?_
           refine hN10 _ ?_
           refine rnd_forget [6, 8, 9, 10, 11, 12, 13, 14, 15, 16, 17, 18, 19, 20, 21, 22, 23] ?_
           simp only [go_sem, St.forget, fgt]
           refine rnd_k fun N20 M20 hN20 hM20 => ?_
           refine seq_k fun N21 M21 hN21 hM21 => ?_
           refine region_k fun K22 hK22 => ?_
           simp only [go_sem, W3]
           all_goals repeat' (first | apply And.intro | intro _)
           all_goals
            refine hK22 _ ?_
            refine hN21 _ ?_
            refine seq_k fun N23 M23 hN23 hM23 => ?_
            refine cond_k rfl (fun hc => ?_) (fun hc => ?_)
            · try simp only [go_sem, W3] at hc
              all_goals
               refine skip_k ?_
               refine hN23 _ ?_
               refine seq_k fun N24 M24 hN24 hM24 => ?_
               refine block_k fun B25 bn25 bx25 br25 bi25 => ?_
               refine seq_k fun N26 M26 hN26 hM26 => ?_
               refine region_k fun K27 hK27 => ?_
               simp only [go_sem, W3]
               all_goals repeat' (first | apply And.intro | intro _)
               all_goals
                refine hK27 _ ?_
                refine hN26 _ ?_
                refine draw_k [11, 12, 13, 14, 15, 16, 17, 18, 19, 10, 20, 21, 22, 5] [0, 0, 2, 6, 0, 16, 48, 0, 254, 510, 1022, 1022, 2047, 6143, 16383] [(11, 13)] mixed (by kernel_rfl) (by simp only [go_sem]) fun K28 hK28 => ?_
                simp only [go_sem, W3]
                all_goals repeat' (first | apply And.intro | intro _)
                all_goals refine call_drawnow (by first | rfl | (simp only [go_sem, W3]; rfl) | simp only [go_sem, W3]) (now_add64 _ _ _ (by first | decide | exact (ad_val _ _ (by decide)).2 | exact (ad_val _ _ ((ad_val _ _ (by decide)).2)).2)) ?_
                all_goals simp only [go_sem, W3]
                all_goals repeat' (first | apply And.intro | intro _)
                all_goals
                 refine hK28 _ _ ?_ ?_
                 · first | trivial | (simp only [go_sem]; done) | (simp only [go_sem]; simp; done) | (simp only [go_sem]; simp; simp only [go_sem])
                 refine bn25 _ ?_
                 refine hN24 _ ?_
                 refine region_k fun K29 hK29 => ?_
                 simp only [go_sem, W3]
                 all_goals repeat' (first | apply And.intro | intro _)
                 all_goals
                  refine hK29 _ ?_
                  refine hN20 _ ?_
                  refine rnd_forget [6, 8, 9, 10, 11, 12, 13, 14, 15, 16, 17, 18, 19, 20, 21, 22, 23] ?_
                  simp only [go_sem, St.forget, fgt]
                  refine rnd_k fun N30 M30 hN30 hM30 => ?_
                  refine seq_k fun N31 M31 hN31 hM31 => ?_
                  refine region_k fun K32 hK32 => ?_
                  simp only [go_sem, W3]
                  all_goals repeat' (first | apply And.intro | intro _)
                  all_goals
                   refine hK32 _ ?_
                   refine hN31 _ ?_
                   refine seq_k fun N33 M33 hN33 hM33 => ?_
                   refine cond_k rfl (fun hc => ?_) (fun hc => ?_)
                   · try simp only [go_sem, W3] at hc
                     all_goals
                      refine skip_k ?_
                      refine hN33 _ ?_
                      refine seq_k fun N34 M34 hN34 hM34 => ?_
                      refine block_k fun B35 bn35 bx35 br35 bi35 => ?_
                      refine seq_k fun N36 M36 hN36 hM36 => ?_
                      refine region_k fun K37 hK37 => ?_
                      simp only [go_sem, W3]
                      all_goals repeat' (first | apply And.intro | intro _)
                      all_goals
                       refine hK37 _ ?_
                       refine hN36 _ ?_
                       refine draw_k [11, 12, 13, 14, 15, 16, 17, 18, 19, 10, 20, 21, 22, 5] [0, 0, 2, 6, 0, 16, 48, 0, 254, 510, 1022, 1022, 2047, 6143, 16383] [(11, 13)] mixed (by kernel_rfl) (by simp only [go_sem]) fun K38 hK38 => ?_
                       simp only [go_sem, W3]
                       all_goals repeat' (first | apply And.intro | intro _)
                       all_goals refine call_drawnow (by first | rfl | (simp only [go_sem, W3]; rfl) | simp only [go_sem, W3]) (now_add64 _ _ _ (by first | decide | exact (ad_val _ _ (by decide)).2 | exact (ad_val _ _ ((ad_val _ _ (by decide)).2)).2)) ?_
                       all_goals simp only [go_sem, W3]
                       all_goals repeat' (first | apply And.intro | intro _)
                       all_goals
                        refine hK38 _ _ ?_ ?_
                        · first | trivial | (simp only [go_sem]; done) | (simp only [go_sem]; simp; done) | (simp only [go_sem]; simp; simp only [go_sem])
                        refine bn35 _ ?_
                        refine hN34 _ ?_
                        refine region_k fun K39 hK39 => ?_
                        simp only [go_sem, W3]
                        all_goals repeat' (first | apply And.intro | intro _)
                        all_goals
                         refine hK39 _ ?_
                         refine hN30 _ ?_
                         refine rnd_forget [6, 8, 9, 10, 11, 12, 13, 14, 15, 16, 17, 18, 19, 20, 21, 22, 23] ?_
                         simp only [go_sem, St.forget, fgt]
                         refine rnd_k fun N40 M40 hN40 hM40 => ?_
                         refine seq_k fun N41 M41 hN41 hM41 => ?_
                         refine region_k fun K42 hK42 => ?_
                         simp only [go_sem, W3]
                         all_goals repeat' (first | apply And.intro | intro _)
                         all_goals
                          refine hK42 _ ?_
                          refine hN41 _ ?_
                          refine seq_k fun N43 M43 hN43 hM43 => ?_
                          refine cond_k rfl (fun hc => ?_) (fun hc => ?_)
                          · exfalso; revert hc; simp
                          · try simp only [go_sem, W3] at hc
                            all_goals
                             refine exit_k ?_
                             refine hM43 _ _ ?_
                             refine hM40 _ _ ?_
                             refine bx8 _ ?_
                             refine hN5 _ ?_
                             refine seq_k fun N44 M44 hN44 hM44 => ?_
                             refine region_k fun K45 hK45 => ?_
                             simp only [go_sem, W3]
                             all_goals repeat' (first | apply And.intro | intro _)
                             all_goals
                              refine hK45 _ ?_
                              refine hN44 _ ?_
                              refine ret_k ?_
                              simp only [go_sem, W3]
                              all_goals rfl
                   · exfalso; revert hc; simp
            · exfalso; revert hc; simp
     · exfalso; revert hc; simp
end Go.Sy
