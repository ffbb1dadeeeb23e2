/- Two talks' states are the same; a talk begun: the law. -/
import Derived.Test.YtlmbdhfkdhjcfaaDoorvS27
import Derived.Test.YtlmbdhfkdhjcfaaDoorvE6
set_option linter.unusedVariables false
set_option linter.unusedSimpArgs false
set_option maxHeartbeats 3200000
set_option maxRecDepth 100000
namespace Go.Sy
open Go.Proofs
attribute [local irreducible] Dv HT Cz Px onC onE onO onG goV goA goS Qx Dw
@[go_sem] theorem p1x {P:Program} {t:TypeId} (ht:P.underlying t=some .bool) (a b:Bool):Ky P .eql t (.w (.one (.pl (.b a)))) (.w (.one (.pl (.b b))))=some (.w (.one (.pl (.b (a==b))))):=by simp [Ky,ht]
theorem sameKey {p:List UInt8} (h:p.length=32):f0j Tryd.prog 23 (Az p) (Az p)=some true:=by
 rw [n1k h h];simp
theorem r0w (root own peer send:List UInt8) (out:Int) (recv:List UInt8) (inn last:Int) (can hear:Bool) (hr:root.length=32) (hw:own.length=32) (hp:peer.length=32) (hs:send.length=32) (hv:recv.length=32):
 Ct Tryd.prog 9 [.w (.agg (rtN root own peer send out recv inn last can hear)),.w (.agg (rtN root own peer send out recv inn last can hear))] (fun v m=>v=.w (.one (.pl (.b true)))):=by
 have h1:=sameKey hr
 have h2:=sameKey hw
 have h3:=sameKey hp
 have h4:=sameKey hs
 have h5:=sameKey hv
 have hb:Tryd.prog.underlying 4=some .bool:=Tryd.underlying4
 have F0:=And.intro hr<|And.intro hw<|And.intro hp<|And.intro hs<|And.intro hv<|And.intro h1<|And.intro h2<|And.intro h3<|And.intro h4<|And.intro h5<|hb
 refine Ct.k Tryd.func9 rfl Tryd.ntmps9 (congrArg Array.toList Tryd.results9) (by simp) fun w0 ro=>?_
 refine Dj fun zZ zhZ=>?_
 iterate 27 first
  |refine Fq fun zN zM zhN zhM=>?_
  |(refine Cx fun zK zhK=>?_;simp only [go_sem,rtN,List.append_eq,beq_self_eq_true,F0];(repeat' (first|apply And.intro|intro _)))
  |refine zhK _ ?_
  |(refine zhN _ ?_;clear zhN zhM)
  |(refine zhM _ _ ?_;clear zhN zhM)
  |refine Cw ?_
  |refine Aj fun zB zbn zbx zbr zbi=>?_
  |refine Fx (x:=.seq (.region 4 _ _) _) 1 ?_
  |refine Ey ?_
  |(refine zbx _ ?_;clear zbn zbx zbr zbi)
  |refine Dx ?_
  |(refine zhZ _ _ ?_;simp only [go_sem,rtN,List.append_eq,beq_self_eq_true,F0];(all_goals (first|rfl|simp)))
  |refine Bz fun zN zM zhN zhM=>?_
  |(refine Cy ?_ ?_;focus (first|rfl|(simp [go_sem,rtN,List.append_eq,beq_self_eq_true,F0];done)))
theorem p0i (rt od oh:List UInt8) (hrt:rt.length=32) (hod:od.length=32) (hoh:oh.length=32) (root own peer send:List UInt8) (out:Int) (recv:List UInt8) (inn last:Int) (can hear:Bool) (ks:List Kz) (hr:root.length=32) (hw:own.length=32) (hp:peer.length=32) (hs:send.length=32) (hv:recv.length=32) (hk: ∀ k∈ks,k.ok) (hlen:ks.length≤9223372036854775807):
 CtM Tryd.prog 3 [.w (.agg (rtC root own peer send out recv inn last can hear ks)),.w (.agg (Az rt)),.w (.agg (Az od)),.w (.agg (Az oh))] [(1000000,⟨false,Aw Mk⟩),(1000001,⟨false,[.pl (.u64 18446744073709551597),.pl (.u64 18446744073709551615),.pl (.u64 18446744073709551615),.pl (.u64 9223372036854775807)]⟩),(1000002,⟨false,[.pl (.u32 1779033703),.pl (.u32 3144134277),.pl (.u32 1013904242),.pl (.u32 2773480762),.pl (.u32 1359893119),.pl (.u32 2600822924),.pl (.u32 528734635),.pl (.u32 1541459225)]⟩),(1000003,⟨false,[.pl (.u32 1779033703),.pl (.u32 3144134277),.pl (.u32 1013904242),.pl (.u32 2773480762),.pl (.u32 1359893119),.pl (.u32 2600822924),.pl (.u32 528734635),.pl (.u32 1541459225)]⟩),(1000004,⟨false,Bk.i0r⟩)] (Told (fun v m=>v=.w (.one (.pl (.b true)))∧m=[])):=by
 have hA:=r1t root own peer send out recv inn last can hear ks hr hw hp hs hv hk
 have hD:=r1m root own peer send out recv inn last can hear ks hr hw hp hs hv hk hlen
 have hF:=a2p rt od oh hrt hod hoh
 have hG:=q1k rt od oh hrt hod hoh
 have hS:=(r1b rt od hrt hod).told
 obtain ⟨m1,m2,m3,m4⟩:=b1d (root:=rt) hod hoh
 generalize e0b out inn last ks=te at hA hD
 generalize firstT rt od oh=r at hF hG m1 m2 m3 m4
 obtain ⟨⟨a1,a2,a3,a4,cn⟩,e⟩:=r
 simp only [Yv] at hF hG
 simp only at m1 m2 m3 m4
 obtain ⟨z,hz⟩: ∃ z,Z32=z:=⟨_,rfl⟩
 have hzl:z.length=32:=by rw [←hz];rfl
 rw [hz] at hF hG hS
 have hT1:=r0w a1 a2 a3 a4 0 z 0 0 cn false m1 m2 m3 m4 hzl
 have e2:(Az (rt++od)++(Az (List.replicate 32 0)++(Az (List.replicate 32 0)++(L.pl (.i 0)::(Az (List.replicate 32 0)++[.pl (.i 0),.pl (.i 0),.pl (.b false),.pl (.b false),.pl (.R true 1 [])])))))=rtN rt od z z 0 z 0 0 false false:=by rw [rtN,←hz,←g0x,List.append_assoc]
 have hT2:Ct Tryd.prog 9 [.w (.agg (rtN rt od z z 0 z 0 0 false false)),.w (.agg (Az (rt++od)++(Az (List.replicate 32 0)++(Az (List.replicate 32 0)++(L.pl (.i 0)::(Az (List.replicate 32 0)++[.pl (.i 0),.pl (.i 0),.pl (.b false),.pl (.b false),.pl (.R true 1 [])]))))))] (fun v m=>v=.w (.one (.pl (.b true)))):=by rw [e2];exact r0w rt od z z 0 z 0 0 false false hrt hod hzl hzl hzl
 clear e2
 simp only [rtN] at hT1 hT2
 have F0:=And.intro hr<|And.intro hw<|And.intro hp<|And.intro hs<|And.intro hv<|And.intro hrt<|And.intro hod<|And.intro hoh<|And.intro m1<|And.intro m2<|And.intro m3<|And.intro m4<|hzl
 refine CtM.k Tryd.func3 rfl Tryd.ntmps3 (congrArg Array.toList Tryd.results3) (by simp) fun w0 ro may fx=>?_
 refine Dj fun zZ zhZ=>?_
 refine Cx fun zK zhK=>?_
 simp only [go_sem,rtC,rtN,F0]
 repeat' (first|apply And.intro|intro _)
 refine zhK _ ?_
 refine Cx fun zK zhK=>?_
 simp only [go_sem,rtC,rtN,F0]
 repeat' (first|apply And.intro|intro _)
 all_goals (refine Cq (fun k=>k) (fun _ _=>rfl) ?_ (hA.plain fun _ _ h=>h) ?_;focus (first|rfl|(simp only [go_sem,rtC,rtN,F0]<;>rfl)))
 all_goals (rintro v m ⟨hR,hm⟩;subst hR;subst hm)
 all_goals refine And.intro (by first|rfl|simp only [go_sem,rtC,rtN,F0]) (And.intro (by first|rfl|simp only [go_sem,rtC,rtN,F0]) ?_)
 all_goals simp only [go_sem,rtC,rtN,F0]
 all_goals repeat' (first|apply And.intro|intro _)
 refine zhK _ ?_
 refine Cx fun zK zhK=>?_
 simp only [go_sem,rtC,rtN,F0]
 repeat' (first|apply And.intro|intro _)
 all_goals (refine Bq false [] (fun k=>k) (fun _ _=>rfl) ?_ (by decide) ?_ hF ?_;iterate 2 (focus (first|rfl|(simp only [go_sem,rtC,rtN,F0]<;>first|done|rfl|simp))))
 all_goals (rintro v m ⟨hR,hm⟩;subst hR;subst hm)
 all_goals (refine And.intro ?_ (And.intro ?_ (And.intro ?_ ?_));iterate 3 (focus (first|rfl|(simp only [go_sem,rtC,rtN,F0];done)|(simp [go_sem,look,rtC,rtN,F0];done))))
 all_goals (try simp only [go_sem,rtC,rtN,F0])
 all_goals (try simp only [go_sem,rtC,rtN,F0])
 all_goals repeat' (first|apply And.intro|intro _)
 refine zhK _ ?_
 refine Cx fun zK zhK=>?_
 simp only [go_sem,rtC,rtN,F0]
 repeat' (first|apply And.intro|intro _)
 all_goals (refine Bq false [] (fun k=>k) (fun _ _=>rfl) ?_ (by decide) ?_ hS.hands ?_;iterate 2 (focus (first|rfl|(simp only [go_sem,rtC,rtN,F0]<;>first|done|rfl|simp))))
 all_goals (rintro v m ⟨hR,hm⟩;subst hR;subst hm)
 all_goals (refine And.intro ?_ (And.intro ?_ (And.intro ?_ ?_));iterate 3 (focus (first|rfl|(simp only [go_sem,rtC,rtN,F0];done)|(simp [go_sem,look,rtC,rtN,F0];done))))
 all_goals (try simp only [go_sem,rtC,rtN,F0])
 all_goals (try simp only [go_sem,rtC,rtN,F0])
 all_goals repeat' (first|apply And.intro|intro _)
 refine zhK _ ?_
 refine Cx fun zK zhK=>?_
 simp only [go_sem,rtC,rtN,F0]
 repeat' (first|apply And.intro|intro _)
 all_goals (refine Cq (fun k=>k) (fun _ _=>rfl) ?_ (hD.plain fun _ _ h=>h) ?_;focus (first|rfl|(simp only [go_sem,rtC,rtN,F0]<;>rfl)))
 all_goals (rintro v m ⟨hR,hm⟩;subst hR;subst hm)
 all_goals refine And.intro (by first|rfl|simp only [go_sem,rtC,rtN,F0]) (And.intro (by first|rfl|simp only [go_sem,rtC,rtN,F0]) ?_)
 all_goals simp only [go_sem,rtC,rtN,F0]
 all_goals repeat' (first|apply And.intro|intro _)
 refine zhK _ ?_
 refine Cx fun zK zhK=>?_
 simp only [go_sem,rtC,rtN,F0]
 repeat' (first|apply And.intro|intro _)
 all_goals (refine Bq false [] (fun k=>k) (fun _ _=>rfl) ?_ (by decide) ?_ hG ?_;iterate 2 (focus (first|rfl|(simp only [go_sem,rtC,rtN,F0]<;>first|done|rfl|simp))))
 all_goals (rintro v m ⟨hR,hm⟩;subst hR;subst hm)
 all_goals (refine And.intro ?_ (And.intro ?_ (And.intro ?_ ?_));iterate 3 (focus (first|rfl|(simp only [go_sem,rtC,rtN,F0];done)|(simp [go_sem,look,rtC,rtN,F0];done))))
 all_goals (try simp only [go_sem,rtC,rtN,F0])
 all_goals (try simp only [go_sem,rtC,rtN,F0])
 all_goals repeat' (first|apply And.intro|intro _)
 refine zhK _ ?_
 refine Cx fun zK zhK=>?_
 simp only [go_sem,rtC,rtN,F0]
 repeat' (first|apply And.intro|intro _)
 all_goals (refine Cq (fun k=>k) (fun _ _=>rfl) ?_ (hT1.plain fun _ _ h=>h) ?_;focus (first|rfl|(simp only [go_sem,rtC,rtN,F0]<;>rfl)))
 all_goals (rintro v m ⟨hR,hm⟩;subst hR;subst hm)
 all_goals refine And.intro (by first|rfl|simp only [go_sem,rtC,rtN,F0]) (And.intro (by first|rfl|simp only [go_sem,rtC,rtN,F0]) ?_)
 all_goals simp only [go_sem,rtC,rtN,F0]
 all_goals repeat' (first|apply And.intro|intro _)
 all_goals (refine Cq (fun k=>k) (fun _ _=>rfl) ?_ (hT2.plain fun _ _ h=>h) ?_;focus (first|rfl|(simp only [go_sem,rtC,rtN,F0]<;>rfl)))
 all_goals (rintro v m ⟨hR,hm⟩;subst hR;subst hm)
 all_goals refine And.intro (by first|rfl|simp only [go_sem,rtC,rtN,F0]) (And.intro (by first|rfl|simp only [go_sem,rtC,rtN,F0]) ?_)
 all_goals simp only [go_sem,rtC,rtN,F0]
 all_goals repeat' (first|apply And.intro|intro _)
 refine zhK _ ?_
 refine Dx ?_
 refine zhZ _ _ ?_
 simp only [go_sem,rtC,rtN,F0]
 all_goals (exact told_plain rfl ⟨rfl,rfl⟩)
def s0h :List UInt64:=[18446744073709551597,18446744073709551615,18446744073709551615,9223372036854775807]
theorem j0j (rt od oh:List UInt8) (hrt:rt.length=32) (hod:od.length=32) (hoh:oh.length=32) (root own peer send:List UInt8) (out:Int) (recv:List UInt8) (inn last:Int) (can hear:Bool) (ks:List Kz) (hr:root.length=32) (hw:own.length=32) (hp:peer.length=32) (hs:send.length=32) (hv:recv.length=32) (hk: ∀ k∈ks,k.ok) (hlen:ks.length≤9223372036854775807):CtM Tryd.prog 3 [.w (.agg (rtC root own peer send out recv inn last can hear ks)),.w (.agg (Az rt)),.w (.agg (Az od)),.w (.agg (Az oh))] (t0f [(1000000,Mk.map PL.u64),(1000001,s0h.map PL.u64),(1000002,Bk.e0n.map PL.u32),(1000003,Bk.e0n.map PL.u32),(1000004,Bk.w1c.flatten.map PL.i)]) (Told (fun v m=>v=.w (.one (.pl (.b true)))∧m=[])):=p0i rt od oh hrt hod hoh root own peer send out recv inn last can hear ks hr hw hp hs hv hk hlen
theorem i0z {m:Nat}: ∀ {rows:List (List PL)},(∀ r∈rows,Sh Tryd.prog m 36 r)→∃ ks:List Kz,rows=ks.map c0w∧∀ k∈ks,k.ok
 | [],_=>⟨[],rfl,fun k hk=>(by cases hk)⟩
 |r::rs,h=>by
  obtain ⟨ks,hks,hok⟩:=i0z (rows:=rs) fun q hq=>h q (by simp [hq])
  have hr:=h r (by simp)
  obtain ⟨pshr,mhr,rfl,hphr⟩:=r0n hr Tryd.underlying36
  rcases hphr with _|⟨hra0,_|⟨hra1,_|⟨hra2,_|_⟩⟩⟩
  obtain ⟨peer,hpeer,rfl⟩:=Uk hra0 Tryd.underlying23 Tryd.underlying5
  obtain ⟨n,rfl,hn⟩:=y0g hra1 Tryd.underlying3
  obtain ⟨key,hkey,rfl⟩:=Uk hra2 Tryd.underlying23 Tryd.underlying5
  refine ⟨⟨peer,n,key⟩::ks,by rw [hks];simp [c0w],fun k hk=>?_⟩
  rcases List.mem_cons.mp hk with rfl|hk
  · exact ⟨hpeer,hkey,hn⟩
  · exact hok k hk
end Go.Sy
