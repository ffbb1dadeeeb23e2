/- Walks and what they compute. CONDITIONS: those that each theorem names. -/
import Derived.Test.YtijngjidkdkmeaavS13
set_option linter.unusedVariables false
set_option linter.unusedSimpArgs false
set_option maxHeartbeats 400000
set_option maxRecDepth 100000
namespace Go.Sy
def k1u (n:Nat):UInt8:=48+UInt8.ofNat (n%10)
def d1e :Nat→Nat→List UInt8
 |0,_=>[]
 |k+1,n=>(if 10≤n then d1e k (n/10) else [])++[k1u n]
def a0u (n:Nat):List UInt8:=d1e (n+1) n
theorem q0k : ∀ (k j n:Nat),n<k→n<j→d1e k n=d1e j n
 |0,_,_,h,_=>by omega
 |_+1,0,_,_,h=>by omega
 |k+1,j+1,n,h1,h2=>by
  rw [d1e,d1e]
  by_cases h:10≤n
  ·rw [if_pos h,if_pos h,q0k k j (n/10) (by omega) (by omega)]
  ·rw [if_neg h,if_neg h]
theorem dec_lt {n:Nat} (h:¬10≤n):a0u n=[k1u n]:=by rw [a0u,d1e,if_neg h];rfl
theorem d1d {n:Nat} (h:10≤n):a0u n=a0u (n/10)++[k1u n]:=by
 rw [a0u,d1e,if_pos h,a0u,q0k n (n/10+1) (n/10) (by omega) (by omega)]
theorem v0j (n:Nat):48+UInt8.ofNat ((n:Int).tmod 10%256).toNat=k1u n:=by
 have h:((n:Int).tmod 10%256).toNat=n%10:=by
  have h1:(n:Int).tmod 10=((n%10:Nat):Int):=by rw [Int.ofNat_tmod n 10]<;>rfl
  rw [h1];omega
 rw [h];rfl
theorem q1c (n:Nat):(n:Int).tdiv 10=((n/10:Nat):Int):=by
 rw [Int.tdiv_eq_ediv_of_nonneg (by omega)];omega
theorem d1c : ∀ (k n:Nat),n<10 ^ (k+1)→(a0u n).length≤k+1
 |0,n,h=>by rw [dec_lt (by simpa using h)];simp
 |k+1,n,h=>by
  by_cases hn:10≤n
  ·have:=d1c k (n/10) (by rw [Nat.pow_succ] at h;omega)
   rw [d1d hn];simp;omega
  ·rw [dec_lt hn];simp
theorem j0x (n:Nat) (h:n≤9223372036854775807):(a0u n).length≤20:=d1c 19 n (by omega)
mutual
def Cw :Aw→List UInt8
 | .mk k i o l=>[40]++a0u k.toNat++[46]++a0u i.toNat++[46]++a0u o.toNat++c0y l++[41]
def c0y :List Aw→List UInt8
 | []=>[]
 |a::l=>Cw a++c0y l
end
mutual
def Hz :Aw→List Aw
 | .mk k i o l=>.mk k i o l::Hq l
def Hq :List Aw→List Aw
 | []=>[]
 |a::l=>Hz a++Hq l
end
end Go.Sy
namespace Go.Sy
open Go.Proofs
attribute [local irreducible] Ey HT Bq Tk onC onE onO onG goV goA goS Wv Fx
theorem t1b (x:Nat) (hm:x≤9223372036854775807) (h:¬10≤x):
 Ct Try.prog 33 [.w (.one (.pl (.i (x:Int))))] (fun v m=>v=.w (.one (.pl (.str (a0u x))))):=by
 have hb:¬(10:Int)≤(x:Int):=by omega
 have zE:V.w (W.one (L.pl (PL.str [48+UInt8.ofNat ((x:Int).tmod 10%256).toNat])))=V.w (W.one (L.pl (PL.str (a0u x)))):=by rw [v0j,dec_lt h]
 have F0:=hb
 exact Ct.w Try.func33 rfl Try.ntmps33 Try.results33
theorem t1c (x:Nat) (hm:x≤9223372036854775807) (h:10≤x) (ih:Ct Try.prog 33 [.w (.one (.pl (.i ((x/10:Nat):Int))))] (fun v m=>v=.w (.one (.pl (.str (a0u (x/10))))))):
 Ct Try.prog 33 [.w (.one (.pl (.i (x:Int))))] (fun v m=>v=.w (.one (.pl (.str (a0u x))))):=by
 have hb:(10:Int)≤(x:Int):=by omega
 have hq:Go.RowKit.wrap64 ((x:Int).tdiv 10)=((x/10:Nat):Int):=by rw [q1c];exact w64 (by omega)
 have hlen:=d0t Try.prog 9 (a0u (x/10)) [k1u x] (by have:=j0x (x/10) (by omega);simp only [List.length_cons,List.length_nil];show _≤9223372036854775807;omega)
 have zE:V.w (W.one (L.pl (PL.str (a0u (x/10)++[k1u x]))))=V.w (W.one (L.pl (PL.str (a0u x)))):=by rw [d1d h]
 have F0:=And.intro hb<|And.intro hq<|And.intro hlen<|v0j
 have cv0:=Ct.cv (ih)
 refine Ct.k Try.func33 rfl Try.ntmps33 (congrArg Array.toList Try.results33) (by simp) fun w0 ro=>?_
 refine Ck fun zZ zhZ=>?_
 iterate 14 first
  |(refine Dw fun zK zhK=>?_;simp only [go_sem,F0];(repeat' (first|apply And.intro|intro _)))
  |refine zhK _ ?_
  |refine Cq ?_
  |(refine zhM _ _ ?_;clear zhN zhM)
  |(refine zhZ _ _ ?_;simp only [go_sem,F0];(all_goals (first|rfl|exact zE|(rw [zE];done))))
  |((all_goals (refine Cz (fun k=>k) (fun _ _=>rfl) ?_ ((ih).plain fun _ _ h=>h) ?_;focus (first|rfl|(simp only [go_sem,F0]<;>rfl))));(all_goals (rintro v m ⟨hR,hm⟩;subst hR;subst hm));(all_goals refine And.intro (by first|rfl|simp only [go_sem,F0]) (And.intro (by first|rfl|simp only [go_sem,F0]) ?_));(all_goals simp only [go_sem,F0]);(all_goals repeat' (first|apply And.intro|intro _)))
  |refine Bj fun zN zM zhN zhM=>?_
  |(refine Aj ?_ ?_;focus (first|rfl|(simp [go_sem,F0];done)))
theorem t1v : ∀ (x:Nat),x≤9223372036854775807→Ct Try.prog 33 [.w (.one (.pl (.i (x:Int))))] (fun v m=>v=.w (.one (.pl (.str (a0u x)))))
 |x,hx=>by
  by_cases h:10≤x
  · exact t1c x hx h (t1v (x/10) (by omega))
  · exact t1b x hx h
termination_by x=>x
decreasing_by omega
end Go.Sy
