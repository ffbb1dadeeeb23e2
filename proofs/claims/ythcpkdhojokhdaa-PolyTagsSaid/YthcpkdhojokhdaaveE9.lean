/- Walks: sums with carry, products of words, three words and three words. -/
import Derived.Test.YthcpkdhojokhdaaveE3
import Derived.Test.YthcpkdhojokhdaavP5
import Derived.Laws.Externs
set_option linter.unusedVariables false
set_option linter.unusedSimpArgs false
namespace Go.Sy
open Go.Proofs
attribute [local irreducible] atCall HT runOps runD onC onE onO onG goV goA goS onSt onGuard
theorem now_add64 (x y c : UInt64) (hc : c.toNat ≤ 1) : Now Try.prog 46 [.w (.one (.pl (.u64 x))), .w (.one (.pl (.u64 y))), .w (.one (.pl (.u64 c)))] (.tup [.one (.pl (.u64 (adS x y c))), .one (.pl (.u64 (adC x y c)))]) := by
 refine ⟨fun k => rfl, fun w d vals h => ?_⟩
 have hv : vals = #[.int .u64 x.toNat, .int .u64 y.toNat, .int .u64 c.toNat] := by
  obtain ⟨l⟩ := vals
  simp only at h
  cases h with
  | cons h1 h =>
   cases h with
   | cons h2 h =>
    cases h with
    | cons h3 h =>
     cases h
     simp only [V.den, W.den, L.den] at h1 h2 h3
     rw [PL.den] at h1 h2 h3
     rw [h1, h2, h3]
 subst hv
 have hr := run_callFunc_extern (P := Try.prog) Try.func46 (by kernel_rfl) (by kernel_rfl) (by kernel_rfl) (e := add64Entry) (by kernel_rfl) #[.int .u64 x.toNat, .int .u64 y.toNat, .int .u64 c.toNat] w
 rw [run_add64 (x.toNat : Int) (y.toNat : Int) (c.toNat : Int) (by omega) (by omega) (by omega) (by omega)] at hr
 refine ⟨_, hr, fun d' => ⟨_, rfl, ?_⟩⟩
 have hx := x.toNat_lt
 have hy := y.toNat_lt
 refine .cons ?_ (.cons ?_ .nil)
 · simp only [W.den, L.den]
   rw [PL.den]
   simp only [adS, UInt64.toNat_ofNat']
   congr 1; omega
 · simp only [W.den, L.den]
   rw [PL.den]
   simp only [adC, UInt64.toNat_ofNat']
   congr 1; omega
set_option maxHeartbeats 400000 in
theorem mul64 (x y : UInt64) :
 Ct Try.prog 70 [.w (.one (.pl (.u64 x))), .w (.one (.pl (.u64 y)))] (fun v m => v = .tup [.one (.pl (.u64 (mulH x y))), .one (.pl (.u64 (x * y)))]) := by
 refine Ct.k Try.func70 rfl Try.ntmps70 (congrArg Array.toList Try.results70) (by simp) fun w0 ro => ?_
 refine sr_k fun K1 hK1 => ?_
 simp only [go_sem]
 all_goals repeat' (first | apply And.intro | intro _)
 refine hK1 _ ?_
 refine sr_k fun K2 hK2 => ?_
 simp only [go_sem]
 all_goals repeat' (first | apply And.intro | intro _)
 refine hK2 _ ?_
 refine sr_k fun K3 hK3 => ?_
 simp only [go_sem]
 all_goals repeat' (first | apply And.intro | intro _)
 refine hK3 _ ?_
 refine sr_k fun K4 hK4 => ?_
 simp only [go_sem]
 all_goals repeat' (first | apply And.intro | intro _)
 refine hK4 _ ?_
 refine sr_k fun K5 hK5 => ?_
 simp only [go_sem]
 all_goals repeat' (first | apply And.intro | intro _)
 refine hK5 _ ?_
 refine sr_k fun K6 hK6 => ?_
 simp only [go_sem]
 all_goals repeat' (first | apply And.intro | intro _)
 refine hK6 _ ?_
 refine sr_k fun K7 hK7 => ?_
 simp only [go_sem]
 all_goals repeat' (first | apply And.intro | intro _)
 refine hK7 _ ?_
 refine sr_k fun K8 hK8 => ?_
 simp only [go_sem]
 all_goals repeat' (first | apply And.intro | intro _)
 refine hK8 _ ?_
 refine sr_k fun K9 hK9 => ?_
 simp only [go_sem]
 all_goals repeat' (first | apply And.intro | intro _)
 refine hK9 _ ?_
 refine sr_k fun K10 hK10 => ?_
 simp only [go_sem]
 all_goals repeat' (first | apply And.intro | intro _)
 refine hK10 _ ?_
 refine sr_k fun K11 hK11 => ?_
 simp only [go_sem]
 all_goals repeat' (first | apply And.intro | intro _)
 refine hK11 _ ?_
 refine sr_k fun K12 hK12 => ?_
 simp only [go_sem]
 all_goals repeat' (first | apply And.intro | intro _)
 refine hK12 _ ?_
 refine ret_k ?_
 simp only [go_sem]
 all_goals (rfl)
def T3.ls (t : T3) : List L := W3 t.a t.b t.c
set_option maxHeartbeats 800000 in
theorem plus_ (x y : T3) :
 Ct Try.prog 62 [.w (.agg (W3 x.a x.b x.c)), .w (.agg (W3 y.a y.b y.c))] (fun v m => v = .w (.agg (W3 (x.plus y).a (x.plus y).b (x.plus y).c))) := by
 refine Ct.k Try.func62 rfl Try.ntmps62 (congrArg Array.toList Try.results62) (by simp) fun w0 ro => ?_
 refine sr_k fun K1 hK1 => ?_
 simp only [go_sem, W3]
 all_goals repeat' (first | apply And.intro | intro _)
 refine hK1 _ ?_
 refine sr_k fun K2 hK2 => ?_
 simp only [go_sem, W3]
 all_goals repeat' (first | apply And.intro | intro _)
 refine hK2 _ ?_
 refine seq_k fun N3 M3 hN3 hM3 => ?_
 refine sr_k fun K4 hK4 => ?_
 simp only [go_sem, W3]
 all_goals repeat' (first | apply And.intro | intro _)
 refine hK4 _ ?_
 refine block_k fun B5 bn5 bx5 br5 bi5 => ?_
 refine rounds_k 4 ?_
 refine rnd_k fun N7 M7 hN7 hM7 => ?_
 refine sr_k fun K8 hK8 => ?_
 simp only [go_sem, W3]
 all_goals repeat' (first | apply And.intro | intro _)
 refine hK8 _ ?_
 refine seq_k fun N9 M9 hN9 hM9 => ?_
 refine condT_k (by first | rfl | (simp [go_sem, W3]; done)) ?_
 refine skip_k ?_
 refine hN9 _ ?_
 refine seq_k fun N10 M10 hN10 hM10 => ?_
 refine block_k fun B11 bn11 bx11 br11 bi11 => ?_
 refine sr_k fun K12 hK12 => ?_
 simp only [go_sem, W3]
 all_goals repeat' (first | apply And.intro | intro _)
 refine hK12 _ ?_
 refine draw_k [11, 12, 13, 14, 15, 16, 17, 18, 19, 10, 20, 21, 22, 5] [0, 0, 2, 6, 0, 16, 48, 0, 254, 510, 1022, 1022, 2047, 6143, 16383] [(11, 13)] mixed (by kernel_rfl) (by simp only [go_sem]) fun K13 hK13 => ?_
 simp only [go_sem, W3]
 all_goals repeat' (first | apply And.intro | intro _)
 all_goals refine call_drawnow (by first | rfl | (simp only [go_sem, W3]; rfl) | simp only [go_sem, W3]) (now_add64 _ _ _ (by first | decide | exact (ad_val _ _ (by decide)).2 | exact (ad_val _ _ ((ad_val _ _ (by decide)).2)).2)) ?_
 all_goals simp only [go_sem, W3]
 all_goals repeat' (first | apply And.intro | intro _)
 refine hK13 _ _ ?_ ?_
 · first | trivial | (simp only [go_sem]; done) | (simp only [go_sem]; simp; done) | (simp only [go_sem]; simp; simp only [go_sem])
 refine bn11 _ ?_
 refine hN10 _ ?_
 refine region_k fun K14 hK14 => ?_
 simp only [go_sem, W3]
 all_goals repeat' (first | apply And.intro | intro _)
 refine hK14 _ ?_
 refine hN7 _ ?_
 refine rnd_forget [6, 8, 9, 10, 11, 12, 13, 14, 15, 16, 17, 18, 19, 20, 21, 22, 23] ?_
 simp only [go_sem, St.forget, fgt]
 refine rnd_k fun N15 M15 hN15 hM15 => ?_
 refine sr_k fun K16 hK16 => ?_
 simp only [go_sem, W3]
 all_goals repeat' (first | apply And.intro | intro _)
 refine hK16 _ ?_
 refine seq_k fun N17 M17 hN17 hM17 => ?_
 refine condT_k (by first | rfl | (simp [go_sem, W3]; done)) ?_
 refine skip_k ?_
 refine hN17 _ ?_
 refine seq_k fun N18 M18 hN18 hM18 => ?_
 refine block_k fun B19 bn19 bx19 br19 bi19 => ?_
 refine sr_k fun K20 hK20 => ?_
 simp only [go_sem, W3]
 all_goals repeat' (first | apply And.intro | intro _)
 refine hK20 _ ?_
 refine draw_k [11, 12, 13, 14, 15, 16, 17, 18, 19, 10, 20, 21, 22, 5] [0, 0, 2, 6, 0, 16, 48, 0, 254, 510, 1022, 1022, 2047, 6143, 16383] [(11, 13)] mixed (by kernel_rfl) (by simp only [go_sem]) fun K21 hK21 => ?_
 simp only [go_sem, W3]
 all_goals repeat' (first | apply And.intro | intro _)
 all_goals refine call_drawnow (by first | rfl | (simp only [go_sem, W3]; rfl) | simp only [go_sem, W3]) (now_add64 _ _ _ (by first | decide | exact (ad_val _ _ (by decide)).2 | exact (ad_val _ _ ((ad_val _ _ (by decide)).2)).2)) ?_
 all_goals simp only [go_sem, W3]
 all_goals repeat' (first | apply And.intro | intro _)
 refine hK21 _ _ ?_ ?_
 · first | trivial | (simp only [go_sem]; done) | (simp only [go_sem]; simp; done) | (simp only [go_sem]; simp; simp only [go_sem])
 refine bn19 _ ?_
 refine hN18 _ ?_
 refine region_k fun K22 hK22 => ?_
 simp only [go_sem, W3]
 all_goals repeat' (first | apply And.intro | intro _)
 refine hK22 _ ?_
 refine hN15 _ ?_
 refine rnd_forget [6, 8, 9, 10, 11, 12, 13, 14, 15, 16, 17, 18, 19, 20, 21, 22, 23] ?_
 simp only [go_sem, St.forget, fgt]
 refine rnd_k fun N23 M23 hN23 hM23 => ?_
 refine sr_k fun K24 hK24 => ?_
 simp only [go_sem, W3]
 all_goals repeat' (first | apply And.intro | intro _)
 refine hK24 _ ?_
 refine seq_k fun N25 M25 hN25 hM25 => ?_
 refine condT_k (by first | rfl | (simp [go_sem, W3]; done)) ?_
 refine skip_k ?_
 refine hN25 _ ?_
 refine seq_k fun N26 M26 hN26 hM26 => ?_
 refine block_k fun B27 bn27 bx27 br27 bi27 => ?_
 refine sr_k fun K28 hK28 => ?_
 simp only [go_sem, W3]
 all_goals repeat' (first | apply And.intro | intro _)
 refine hK28 _ ?_
 refine draw_k [11, 12, 13, 14, 15, 16, 17, 18, 19, 10, 20, 21, 22, 5] [0, 0, 2, 6, 0, 16, 48, 0, 254, 510, 1022, 1022, 2047, 6143, 16383] [(11, 13)] mixed (by kernel_rfl) (by simp only [go_sem]) fun K29 hK29 => ?_
 simp only [go_sem, W3]
 all_goals repeat' (first | apply And.intro | intro _)
 all_goals refine call_drawnow (by first | rfl | (simp only [go_sem, W3]; rfl) | simp only [go_sem, W3]) (now_add64 _ _ _ (by first | decide | exact (ad_val _ _ (by decide)).2 | exact (ad_val _ _ ((ad_val _ _ (by decide)).2)).2)) ?_
 all_goals simp only [go_sem, W3]
 all_goals repeat' (first | apply And.intro | intro _)
 refine hK29 _ _ ?_ ?_
 · first | trivial | (simp only [go_sem]; done) | (simp only [go_sem]; simp; done) | (simp only [go_sem]; simp; simp only [go_sem])
 refine bn27 _ ?_
 refine hN26 _ ?_
 refine region_k fun K30 hK30 => ?_
 simp only [go_sem, W3]
 all_goals repeat' (first | apply And.intro | intro _)
 refine hK30 _ ?_
 refine hN23 _ ?_
 refine rnd_forget [6, 8, 9, 10, 11, 12, 13, 14, 15, 16, 17, 18, 19, 20, 21, 22, 23] ?_
 simp only [go_sem, St.forget, fgt]
 refine rnd_k fun N31 M31 hN31 hM31 => ?_
 refine sr_k fun K32 hK32 => ?_
 simp only [go_sem, W3]
 all_goals repeat' (first | apply And.intro | intro _)
 refine hK32 _ ?_
 refine seq_k fun N33 M33 hN33 hM33 => ?_
 refine condF_k (by first | rfl | (simp [go_sem, W3]; done)) ?_
 refine exit_k ?_
 refine hM33 _ _ ?_
 refine hM31 _ _ ?_
 refine bx5 _ ?_
 refine hN3 _ ?_
 refine sr_k fun K34 hK34 => ?_
 simp only [go_sem, W3]
 all_goals repeat' (first | apply And.intro | intro _)
 refine hK34 _ ?_
 refine ret_k ?_
 simp only [go_sem, W3]
 all_goals rfl
end Go.Sy
