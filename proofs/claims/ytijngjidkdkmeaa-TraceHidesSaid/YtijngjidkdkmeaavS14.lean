/- Walks and what they compute. CONDITIONS: those that each theorem names. -/
import Derived.Test.YtijngjidkdkmeaavS13
import Derived.Test.YtijngjidkdkmeaavE3
set_option linter.unusedVariables false
set_option linter.unusedSimpArgs false
set_option maxHeartbeats 400000
set_option maxRecDepth 100000
namespace Go.Sy
def c2p (n:Nat):UInt8:=48+UInt8.ofNat (n%10)
def q1p :Nat→Nat→List UInt8
 |0,_=>[]
 |k+1,n=>(if 10≤n then q1p k (n/10) else [])++[c2p n]
def f0g (n:Nat):List UInt8:=q1p (n+1) n
theorem z0u : ∀ (k j n:Nat),n<k→n<j→q1p k n=q1p j n
 |0,_,_,h,_=>by omega
 |_+1,0,_,_,h=>by omega
 |k+1,j+1,n,h1,h2=>by
   rw [q1p,q1p]
   by_cases h:10≤n
   ·rw [if_pos h,if_pos h,z0u k j (n/10) (by omega) (by omega)]
   rw [if_neg h,if_neg h]
theorem dec_lt {n:Nat} (h:¬10≤n):f0g n=[c2p n]:=by rw [f0g,q1p,if_neg h];rfl
theorem q1o {n:Nat} (h:10≤n):f0g n=f0g (n/10)++[c2p n]:=by
 rw [f0g,q1p,if_pos h,f0g,z0u n (n/10+1) (n/10) (by omega) (by omega)]
theorem g1s (n:Nat):48+UInt8.ofNat ((n:Int).tmod 10%256).toNat=c2p n:=by
 have h:((n:Int).tmod 10%256).toNat=n%10:=by
  have h1:(n:Int).tmod 10=((n%10:Nat):Int):=by rw [Int.ofNat_tmod n 10]<;>rfl
  rw [h1];omega
 rw [h];rfl
theorem j2x (n:Nat):(n:Int).tdiv 10=((n/10:Nat):Int):=by
 rw [Int.tdiv_eq_ediv_of_nonneg (by omega)];omega
theorem q1n : ∀ (k n:Nat),n<10 ^ (k+1)→(f0g n).length≤k+1
 |0,n,h=>by rw [dec_lt (by simpa using h)];simp
 |k+1,n,h=>by
   by_cases hn:10≤n
   ·have:=q1n k (n/10) (by rw [Nat.pow_succ] at h;omega)
    rw [q1o hn];simp;omega
   rw [dec_lt hn];simp
theorem r0p (n:Nat) (h:n≤9223372036854775807):(f0g n).length≤20:=q1n 19 n (by omega)
mutual
def Jq :Aw→List UInt8
 | .mk k i o l=>[40]++f0g k.toNat++[46]++f0g i.toNat++[46]++f0g o.toNat++i0b l++[41]
def i0b :List Aw→List UInt8
 | []=>[]
 |a::l=>Jq a++i0b l
end
mutual
def Lj :Aw→List Aw
 | .mk k i o l=>.mk k i o l::Nz l
def Nz :List Aw→List Aw
 | []=>[]
 |a::l=>Lj a++Nz l
end
end Go.Sy
namespace Go.Sy
open Go.Proofs
attribute [local irreducible] Cj HT Bv Rj onC onE onO onG goV goA goS Tj Ck
theorem n2w (x:Nat) (hm:x≤9223372036854775807) (h:¬10≤x):
 Ct Try.prog 33 [.w (.one (.pl (.i (x:Int))))] (fun v m=>v=.w (.one (.pl (.str (f0g x))))):=by
 have hb:¬(10:Int)≤(x:Int):=by omega
 have zE:V.w (W.one (L.pl (PL.str [48+UInt8.ofNat ((x:Int).tmod 10%256).toNat])))=V.w (W.one (L.pl (PL.str (f0g x)))):=by rw [g1s,dec_lt h]
 have F0:=hb
 exact Ct.go Try.func33 rfl Try.ntmps33 Try.results33
theorem n2x (x:Nat) (hm:x≤9223372036854775807) (h:10≤x) (ih:Ct Try.prog 33 [.w (.one (.pl (.i ((x/10:Nat):Int))))] (fun v m=>v=.w (.one (.pl (.str (f0g (x/10))))))):
 Ct Try.prog 33 [.w (.one (.pl (.i (x:Int))))] (fun v m=>v=.w (.one (.pl (.str (f0g x))))):=by
 have hb:(10:Int)≤(x:Int):=by omega
 have hq:Go.RowKit.wrap64 ((x:Int).tdiv 10)=((x/10:Nat):Int):=by rw [j2x];exact w64 (by omega)
 have hlen:=j0e Try.prog 9 (f0g (x/10)) [c2p x] (by have:=r0p (x/10) (by omega);simp only [yH,xE];show _≤9223372036854775807;omega)
 have zE:V.w (W.one (L.pl (PL.str (f0g (x/10)++[c2p x]))))=V.w (W.one (L.pl (PL.str (f0g x)))):=by rw [q1o h]
 have F0:=yA hb<|yA hq<|yA hlen<|g1s
 have cv0:=Ct.cv (ih)
 have cq:=yA (Ct.cv (ih))<|trivial
 exact Ct.go Try.func33 rfl Try.ntmps33 Try.results33
theorem o2t : ∀ (x:Nat),x≤9223372036854775807→Ct Try.prog 33 [.w (.one (.pl (.i (x:Int))))] (fun v m=>v=.w (.one (.pl (.str (f0g x)))))
 |x,hx=>by
  by_cases h:10≤x
  ·exact n2x x hx h (o2t (x/10) (by omega))
  exact n2w x hx h
termination_by x=>x
decreasing_by omega
end Go.Sy
