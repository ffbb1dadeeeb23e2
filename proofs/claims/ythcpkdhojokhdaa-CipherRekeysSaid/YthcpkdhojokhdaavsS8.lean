/- Walks: ciphers: whether they may be, the number of a text, a cipher used. -/
import Derived.Test.YthcpkdhojokhdaavsS6
set_option linter.unusedVariables false
set_option linter.unusedSimpArgs false
namespace Go.Sy
open Go.Proofs
attribute [local irreducible] atCall HT runOps runD onC onE onO onG goV goA goS onSt onGuard
def cipherC (has : Bool) (key : List UInt8) (n : UInt64) : List L := .pl (.b has) :: (bytesC key ++ [.pl (.u64 n)])
def cipherFault (has : Bool) (key : List UInt8) (n : UInt64) : Int := if has = false ∧ ¬ (key = List.replicate 32 0 ∧ n = 0) then 9 else 0
def nonceB (n : UInt64) : List UInt8 := List.replicate 4 0 ++ lowB n 8
theorem z12 : bytesC (List.replicate 12 0) = [.pl (.u8 0), .pl (.u8 0), .pl (.u8 0), .pl (.u8 0), .pl (.u8 0), .pl (.u8 0), .pl (.u8 0), .pl (.u8 0), .pl (.u8 0), .pl (.u8 0), .pl (.u8 0), .pl (.u8 0)] := rfl
theorem nonceB_length (n : UInt64) : (nonceB n).length = 12 := by simp [nonceB, lowB_length]
abbrev z32 : List UInt8 := List.replicate 32 0
def cipV (has : Bool) (key : List UInt8) (n : UInt64) (bs : List UInt8) (e : Int) (v : V) (m : List (Nat × Ob)) : Prop := v = .tup [.agg (cipherC has key n), .one (.pl (.R false 1 (byteRows bs))), .one (.pl (.i e))] ∧ m = []
theorem tup3_mid {x : W} {a a' : L} {b : W} (h : ∀ d y, a.den d y → a'.den d y) (d : Va) (y : Value) (hv : (V.tup [x, .one a, b]).den d y) : (V.tup [x, .one a', b]).den d y := by
 obtain ⟨vs, rfl, hv⟩ := hv
 refine ⟨vs, rfl, ?_⟩
 generalize vs.toList = l at hv
 cases hv with
 | cons h0 hv => cases hv with
  | cons h1 h2 => exact .cons h0 (.cons (h d _ h1) h2)
theorem plain_cipher {has : Bool} {key : List UInt8} {n : UInt64} {bs : List UInt8} {e : Int} : plainV (.tup [.agg (cipherC has key n), .one (.pl (.R false 1 (byteRows bs))), .one (.pl (.i e))]) = true := by
 simp [plainV, plainW, cipherC, bytesC]
theorem cip_nil {has : Bool} {key : List UInt8} {n : UInt64} {e : Int} {m : List (Nat × Ob)} {sz : Nat} {ex : Bool} : Told (cipV has key n [] e) (.tup [.agg (cipherC has key n), .one (.pl (.R ex sz [])), .one (.pl (.i e))]) m :=
 told_weak (tup3_mid (a' := .pl (.R false 1 (byteRows []))) fun d y h => byR_weak d y (R_nil_den h)) (told_plain plain_cipher ⟨rfl, rfl⟩)
theorem cip_same {has : Bool} {key : List UInt8} {n : UInt64} {e : Int} {m : List (Nat × Ob)} {ex : Bool} {l : List UInt8} : Told (cipV has key n l e) (.tup [.agg (cipherC has key n), .one (.pl (.R ex 1 (byteRows l))), .one (.pl (.i e))]) m :=
 told_weak (tup3_mid fun d y h => byR_weak d y h) (told_plain plain_cipher ⟨rfl, rfl⟩)
theorem seal_cipher {k : Nat} {c : List PL} {has : Bool} {key : List UInt8} {n : UInt64} : sealW k c (.agg (cipherC has key n)) = .agg (cipherC has key n) := by
 simp [sealW, cipherC, bytesC, sealL]
theorem cip_obj {has : Bool} {key : List UInt8} {n : UInt64} {k j : Nat} {e : Int} {m : List (Nat × Ob)} {b : Bool} {l : List UInt8} (hk : look m k = some ⟨b, bytesC l⟩) (hn : j = l.length) (hlt : k < 500000 := by decide) : Told (cipV has key n l e) (.tup [.agg (cipherC has key n), .one (.s k [] j 1), .one (.pl (.i e))]) m := by
 refine told_seal k (l.map .u8) (by rw [hk, pls_bytes]) hlt ?_
 simp only [sealV, List.map_cons, List.map_nil, seal_cipher]
 simp only [sealW, seal_bytes hn, sealL_pl]
 exact told_plain plain_cipher ⟨rfl, rfl⟩
set_option maxHeartbeats 400000 in
theorem cipher_check (has : Bool) (key : List UInt8) (hk : key.length = 32) (n : UInt64) :
 Ct Try.prog 54 [.w (.agg (cipherC has key n))] (fun v m => v = .w (.one (.pl (.i (cipherFault has key n))))) := by
 refine Ct.k Try.func54 rfl Try.ntmps54 (congrArg Array.toList Try.results54) (by simp) fun w0 ro => ?_
 refine seq_k fun zN1 zM1 zhN1 zhM1 => ?_
 refine region_k fun zK2 zhK2 => ?_
 simp only [go_sem, hk, cipherC]
 repeat' (first | apply And.intro | intro _)
 all_goals
  refine zhK2 _ ?_
  refine zhN1 _ ?_
  refine seq_k fun zN3 zM3 zhN3 zhM3 => ?_
  refine seq_k fun zN4 zM4 zhN4 zhM4 => ?_
  refine region_k fun zK5 zhK5 => ?_
  simp only [go_sem, hk, cipherC]
  repeat' (first | apply And.intro | intro _)
  all_goals
   refine zhK5 _ ?_
   refine zhN4 _ ?_
   refine cond_k rfl (fun hc => ?_) (fun hc => ?_)
   · try simp only [go_sem, hk, cipherC] at hc
     all_goals
      refine seq_k fun zN6 zM6 zhN6 zhM6 => ?_
      refine region_k fun zK7 zhK7 => ?_
      simp only [go_sem, hk, cipherC]
      repeat' (first | apply And.intro | intro _)
      all_goals
       refine zhK7 _ ?_
       refine zhN6 _ ?_
       refine ret_k ?_
       refine zhM3 _ _ ?_
       simp only [go_sem, hk, cipherC]
       all_goals (refine congrArg (fun x => V.w (W.one (L.pl (PL.i x)))) ?_; unfold cipherFault; cases has <;> simp_all)
   · try simp only [go_sem, hk, cipherC] at hc
     all_goals
      refine skip_k ?_
      refine zhN3 _ ?_
      refine seq_k fun zN8 zM8 zhN8 zhM8 => ?_
      refine region_k fun zK9 zhK9 => ?_
      simp only [go_sem, hk, cipherC]
      repeat' (first | apply And.intro | intro _)
      all_goals
       refine zhK9 _ ?_
       refine zhN8 _ ?_
       refine ret_k ?_
       simp only [go_sem, hk, cipherC]
       all_goals (refine congrArg (fun x => V.w (W.one (L.pl (PL.i x)))) ?_; unfold cipherFault; cases has <;> simp_all)
set_option maxHeartbeats 400000 in
theorem cipher_fault (has : Bool) (key : List UInt8) (hk : key.length = 32) (n : UInt64) :
 Ct Try.prog 56 [.w (.agg (cipherC has key n))] (fun v m => v = .w (.one (.pl (.i (cipherFault has key n))))) := by
 refine Ct.k Try.func56 rfl Try.ntmps56 (congrArg Array.toList Try.results56) (by simp) fun w0 ro => ?_
 refine seq_k fun zN1 zM1 zhN1 zhM1 => ?_
 refine region_k fun zK2 zhK2 => ?_
 simp only [go_sem, hk, cipherC]
 repeat' (first | apply And.intro | intro _)
 all_goals
  refine zhK2 _ ?_
  refine zhN1 _ ?_
  refine seq_k fun zN3 zM3 zhN3 zhM3 => ?_
  refine seq_k fun zN4 zM4 zhN4 zhM4 => ?_
  refine region_k fun zK5 zhK5 => ?_
  simp only [go_sem, hk, cipherC]
  repeat' (first | apply And.intro | intro _)
  all_goals
   refine zhK5 _ ?_
   refine zhN4 _ ?_
   refine cond_k rfl (fun hc => ?_) (fun hc => ?_)
   · try simp only [go_sem, hk, cipherC] at hc
     all_goals
      refine seq_k fun zN6 zM6 zhN6 zhM6 => ?_
      refine region_k fun zK7 zhK7 => ?_
      simp only [go_sem, hk, cipherC]
      repeat' (first | apply And.intro | intro _)
      all_goals
       refine zhK7 _ ?_
       refine zhN6 _ ?_
       refine ret_k ?_
       refine zhM3 _ _ ?_
       simp only [go_sem, hk, cipherC]
       all_goals (refine congrArg (fun x => V.w (W.one (L.pl (PL.i x)))) ?_; unfold cipherFault; cases has <;> simp_all)
   · try simp only [go_sem, hk, cipherC] at hc
     all_goals
      refine skip_k ?_
      refine zhN3 _ ?_
      refine seq_k fun zN8 zM8 zhN8 zhM8 => ?_
      refine region_k fun zK9 zhK9 => ?_
      simp only [go_sem, hk, cipherC]
      repeat' (first | apply And.intro | intro _)
      all_goals
       refine zhK9 _ ?_
       refine zhN8 _ ?_
       refine ret_k ?_
       simp only [go_sem, hk, cipherC]
       all_goals (refine congrArg (fun x => V.w (W.one (L.pl (PL.i x)))) ?_; unfold cipherFault; cases has <;> simp_all)
set_option maxHeartbeats 1600000 in
set_option maxRecDepth 100000 in
theorem nonce_ (n : UInt64) :
 Ct Try.prog 55 [.w (.one (.pl (.u64 n)))] (fun v m => v = .w (.agg (bytesC (nonceB n)))) := by
 refine Ct.k Try.func55 rfl Try.ntmps55 (congrArg Array.toList Try.results55) (by simp) fun w0 ro => ?_
 refine top_k fun zZ zhZ => ?_
 iterate 167 first
  | (refine rnd_forget (x := .seq (.region 3 _ _) _) [4, 6, 7, 8, 9, 10, 11, 12, 13, 14, 15, 16] ?_; simp only [go_sem, St.forget, fgt]; refine rnd_k fun zN zM zhN zhM => ?_)
  | refine zhK _ ?_
  | (refine zhN _ ?_; clear zhN zhM)
  | (refine sr_k fun zK zhK => ?_; simp only [go_sem, Int.toNat_one, Int.reduceTMod, Int.reduceTDiv, Int.mul_zero, z12]; (repeat' (first | apply And.intro | intro _)))
  | (refine region_k fun zK zhK => ?_; simp only [go_sem, Int.toNat_one, Int.reduceTMod, Int.reduceTDiv, Int.mul_zero, z12]; (repeat' (first | apply And.intro | intro _)))
  | refine block_k fun zB zbn zbx zbr zbi => ?_
  | refine skip_k ?_
  | (refine zbn _ ?_; clear zbn zbx zbr zbi)
  | (refine zhM _ _ ?_; clear zhN zhM)
  | refine rounds_k (x := .seq (.region 3 _ _) _) 9 ?_
  | refine rnd_k fun zN zM zhN zhM => ?_
  | refine exit_k ?_
  | (refine zbx _ ?_; clear zbn zbx zbr zbi)
  | refine ret_k ?_
  | (refine zhZ _ _ ?_; simp only [go_sem, Int.toNat_one, Int.reduceTMod, Int.reduceTDiv, Int.mul_zero, z12]; (all_goals (rw [nonceB, lowB_shr]; rfl)))
  | refine seq_k fun zN zM zhN zhM => ?_
  | (refine condT_k ?_ ?_; focus (first | rfl | (simp [go_sem, Int.toNat_one, Int.reduceTMod, Int.reduceTDiv, Int.mul_zero, z12]; done)))
  | (refine condF_k ?_ ?_; focus (first | rfl | (simp [go_sem, Int.toNat_one, Int.reduceTMod, Int.reduceTDiv, Int.mul_zero, z12]; done)))
set_option maxHeartbeats 800000 in
theorem nonce_of (n : UInt64) :
 Ct Try.prog 57 [.w (.one (.pl (.u64 n)))] (fun v m => v = .w (.agg (bytesC (nonceB n)))) := by
 have hL := low_ n 8 (by omega)
 have hnn : nonceB n = List.replicate 4 0 ++ lowB n 8 := rfl
 obtain ⟨q, hq⟩ : ∃ q, lowB n 8 = q := ⟨_, rfl⟩
 have hql : q.length = 8 := by rw [← hq]; exact lowB_length _ _
 rw [hq] at hL hnn
 have hm : min 8 8 = 8 := rfl
 have htk : List.take 8 q = q := List.take_of_length_le (by omega)
 have ht4 : List.take 4 (List.replicate 12 (0 : UInt8)) = List.replicate 4 0 := rfl
 have hd4 : List.drop 4 (List.replicate 12 (0 : UInt8)) = List.replicate 8 0 := rfl
 have ht8 : List.take 8 (List.replicate 8 (0 : UInt8)) = List.replicate 8 0 := rfl
 have hd8 : List.drop 8 (List.replicate 8 (0 : UInt8)) = [] := rfl
 have F0 := And.intro hql <| And.intro hm <| And.intro htk <| And.intro ht4 <| And.intro hd4 <| And.intro ht8 <| hd8
 refine Ct.k Try.func57 rfl Try.ntmps57 (congrArg Array.toList Try.results57) (by simp) fun w0 ro => ?_
 refine top_k fun zZ zhZ => ?_
 iterate 13 first
  | (refine sr_k fun zK zhK => ?_; simp only [go_sem, F0]; (repeat' (first | apply And.intro | intro _)))
  | refine zhK _ ?_
  | (refine draw_k (id := 2) [4, 5, 6, 7] [0, 0, 2, 7] [] mixed (by kernel_rfl) (by simp only [go_sem]) fun zK zhK => ?_; simp only [go_sem, F0]; (repeat' (first | apply And.intro | intro _)))
  | refine zhK _ _ trivial ?_
  | (refine zhN _ ?_; clear zhN zhM)
  | refine ret_k ?_
  | (refine zhZ _ _ ?_; simp only [go_sem, F0]; (all_goals (rw [hnn])))
  | ((all_goals (refine call_draw (fun k => k) (.w (.one (.pl (.str q)))) [] (fun _ _ => rfl) ?_ (hL.plain fun _ _ h => h) ?_ ?_; focus (first | rfl | (simp only [go_sem, F0] <;> rfl)))); (all_goals try (refine And.intro ?_ (And.intro ?_ (And.intro ?_ ?_)) <;> first | rfl | simp only [go_sem])); (all_goals simp only [go_sem, F0]); (all_goals repeat' (first | apply And.intro | intro _)))
  | refine seq_k fun zN zM zhN zhM => ?_
end Go.Sy

