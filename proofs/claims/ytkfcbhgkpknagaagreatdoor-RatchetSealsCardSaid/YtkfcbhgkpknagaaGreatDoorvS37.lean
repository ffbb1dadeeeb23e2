/- A text sealed: the law, its globals and kept keys out of rows. -/
import Derived.Test.YtkfcbhgkpknagaaGreatDoorvS36
import Derived.Test.YtkfcbhgkpknagaaGreatDoorvE5
set_option linter.unusedVariables false
set_option linter.unusedSimpArgs false
namespace Go.Sy
namespace Rk
open Go.Proofs
attribute [local irreducible] Bw HT Aj Jk onC onE onO onG goV goA goS Lx Bz
def s0q :List UInt64:=[18446744073709551597,18446744073709551615,18446744073709551615,9223372036854775807]
theorem o0z (root own peer send:List UInt8) (out:Int) (recv:List UInt8) (inn last:Int) (can hear:Bool) (ks:List Gz) (hr:root.length=32) (hw:own.length=32) (hp:peer.length=32) (hs:send.length=32) (hv:recv.length=32) (hk: ∀ k∈ks,k.ok) (ad text:List UInt8) (ex1 ex2:Bool) (hlen:ks.length≤9223372036854775807):CtM Tryz.prog 3 [.w (.agg (rtC root own peer send out recv inn last can hear ks)),.w (.one (.pl (.R ex1 1 (Av ad)))),.w (.one (.pl (.R ex2 1 (Av text))))] (z0s [(1000000,Nw.map PL.u64),(1000001,s0q.map PL.u64),(1000002,Bk.h0h.map PL.u32),(1000003,Bk.h0h.map PL.u32),(1000004,Bk.i2v.flatten.map PL.i)]) (Told (fun v m=>v=.w (.one (.pl (.b true)))∧m=[])):=y0i root own peer send out recv inn last can hear ks hr hw hp hs hv hk ad text ex1 ex2 hlen
theorem m0q {m:Nat}: ∀ {rows:List (List PL)},(∀ r∈rows,Sh Tryz.prog m 50 r)→∃ ks:List Gz,rows=ks.map b0x∧∀ k∈ks,k.ok
 | [],_=>⟨[],rfl,fun k hk=>(by cases hk)⟩
 |r::rs,h=>by
  obtain ⟨ks,hks,hok⟩:=m0q (rows:=rs) fun q hq=>h q (by simp [hq])
  have hr:=h r (by simp)
  obtain ⟨pshr,mhr,rfl,hphr⟩:=x0q hr Tryz.underlying50
  rcases hphr with _|⟨hra0,_|⟨hra1,_|⟨hra2,_|_⟩⟩⟩
  obtain ⟨peer,hpeer,rfl⟩:=d0h hra0 Tryz.underlying23 Tryz.underlying5
  obtain ⟨n,rfl,hn⟩:=f1u hra1 Tryz.underlying3
  obtain ⟨key,hkey,rfl⟩:=d0h hra2 Tryz.underlying23 Tryz.underlying5
  refine ⟨⟨peer,n,key⟩::ks,by rw [hks];simp [b0x],fun k hk=>?_⟩
  rcases xK.mp hk with rfl|hk
  ·exact ⟨hpeer,hkey,hn⟩
  exact hok k hk
end Rk
end Go.Sy
