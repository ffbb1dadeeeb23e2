/- Walks and what they compute. CONDITIONS: those that each theorem names. -/
import Derived.Test.YtlngaojnfcaagaaDoorvS11
set_option linter.unusedVariables false
set_option linter.unusedSimpArgs false
set_option maxHeartbeats 1600000
set_option maxRecDepth 100000
namespace Go.Sy
open Go.Proofs
attribute [local irreducible] Fz HT Cw Oj onC onE onO onG goV goA goS Qv Ey
def Az (has:Bool) (key:List UInt8) (n:UInt64):List L:=.pl (.b has)::(Aq key++[.pl (.u64 n)])
def Fv (has:Bool) (key:List UInt8) (n:UInt64):Int:=if has=false∧¬(key=List.replicate 32 0∧n=0) then 9 else 0
def Ej (n:UInt64):List UInt8:=List.replicate 4 0++Mk n 8
theorem z12 :Aq (List.replicate 12 0)=[.pl (.u8 0),.pl (.u8 0),.pl (.u8 0),.pl (.u8 0),.pl (.u8 0),.pl (.u8 0),.pl (.u8 0),.pl (.u8 0),.pl (.u8 0),.pl (.u8 0),.pl (.u8 0),.pl (.u8 0)]:=rfl
theorem Gy (n:UInt64):(Ej n).length=12:=by simp [Ej,Av]
abbrev z32 :List UInt8:=List.replicate 32 0
def n0p (has:Bool) (key:List UInt8) (n:UInt64) (bs:List UInt8) (e:Int) (v:V) (m:List (Nat×Ob)):Prop:=v=.tup [.agg (Az has key n),.one (.pl (.R false 1 (Aw bs))),.one (.pl (.i e))]∧m=[]
theorem e0s {x:W} {a a':L} {b:W} (h: ∀ d y,a.den d y→a'.den d y) (d:Va) (y:Value) (hv:(V.tup [x,.one a,b]).den d y):(V.tup [x,.one a',b]).den d y:=by
 obtain ⟨vs,rfl,hv⟩:=hv
 refine ⟨vs,rfl,?_⟩
 generalize vs.toList=l at hv
 cases hv with
 |cons h0 hv=>cases hv with
  |cons h1 h2=>exact .cons h0 (.cons (h d _ h1) h2)
theorem d0u {has:Bool} {key:List UInt8} {n:UInt64} {bs:List UInt8} {e:Int}:Pw (.tup [.agg (Az has key n),.one (.pl (.R false 1 (Aw bs))),.one (.pl (.i e))])=true:=by
 simp [Pw,Uw,Az,Aq]
theorem c0s {has:Bool} {key:List UInt8} {n:UInt64} {e:Int} {m:List (Nat×Ob)} {sz:Nat} {ex:Bool}:Told (n0p has key n [] e) (.tup [.agg (Az has key n),.one (.pl (.R ex sz [])),.one (.pl (.i e))]) m:=
 Vz (e0s (a':=.pl (.R false 1 (Aw []))) fun d y h=>a0a d y (e0n h)) (told_plain d0u ⟨rfl,rfl⟩)
theorem c0r {has:Bool} {key:List UInt8} {n:UInt64} {e:Int} {m:List (Nat×Ob)} {ex:Bool} {l:List UInt8}:Told (n0p has key n l e) (.tup [.agg (Az has key n),.one (.pl (.R ex 1 (Aw l))),.one (.pl (.i e))]) m:=
 Vz (e0s fun d y h=>a0a d y h) (told_plain d0u ⟨rfl,rfl⟩)
theorem m0c {k:Nat} {c:List PL} {has:Bool} {key:List UInt8} {n:UInt64}:k0s k c (.agg (Az has key n))=.agg (Az has key n):=by
 simp [k0s,Az,Aq,c0g]
theorem j1z {has:Bool} {key:List UInt8} {n:UInt64} {k j:Nat} {e:Int} {m:List (Nat×Ob)} {b:Bool} {l:List UInt8} (hk:look m k=some ⟨b,Aq l⟩) (hn:j=l.length) (hlt:k<500000:=by decide):Told (n0p has key n l e) (.tup [.agg (Az has key n),.one (.s k [] j 1),.one (.pl (.i e))]) m:=by
 refine b0f k (l.map .u8) (by rw [hk,Yy]) hlt ?_
 simp only [o0o,List.map_cons,List.map_nil,m0c]
 simp only [k0s,b0h hn,l0h]
 exact told_plain d0u ⟨rfl,rfl⟩
theorem Mv (has:Bool) (key:List UInt8) (hk:key.length=32) (n:UInt64):
 Ct Tryd.prog 23 [.w (.agg (Az has key n))] (fun v m=>v=.w (.one (.pl (.i (Fv has key n))))):=by
 refine Ct.k Tryd.func23 rfl Tryd.ntmps23 (congrArg Array.toList Tryd.results23) (by simp) fun w0 ro=>?_
 refine Bq fun zN1 zM1 zhN1 zhM1=>?_
 refine Cv fun zK2 zhK2=>?_
 simp only [go_sem,hk,Az]
 repeat' (first|apply And.intro|intro _)
 all_goals
  refine zhK2 _ ?_
  refine zhN1 _ ?_
  refine Bq fun zN3 zM3 zhN3 zhM3=>?_
  refine Bq fun zN4 zM4 zhN4 zhM4=>?_
  refine Cv fun zK5 zhK5=>?_
  simp only [go_sem,hk,Az]
  repeat' (first|apply And.intro|intro _)
  all_goals
   refine zhK5 _ ?_
   refine zhN4 _ ?_
   refine p0t rfl (fun hc=>?_) (fun hc=>?_)
   · try simp only [go_sem,hk,Az] at hc
     all_goals
      refine Bq fun zN6 zM6 zhN6 zhM6=>?_
      refine Cv fun zK7 zhK7=>?_
      simp only [go_sem,hk,Az]
      repeat' (first|apply And.intro|intro _)
      all_goals
       refine zhK7 _ ?_
       refine zhN6 _ ?_
       refine Ck ?_
       refine zhM3 _ _ ?_
       simp only [go_sem,hk,Az]
       all_goals (refine congrArg (fun x=>V.w (W.one (L.pl (PL.i x)))) ?_;unfold Fv;cases has<;>simp_all)
   · try simp only [go_sem,hk,Az] at hc
     all_goals
      refine Cq ?_
      refine zhN3 _ ?_
      refine Bq fun zN8 zM8 zhN8 zhM8=>?_
      refine Cv fun zK9 zhK9=>?_
      simp only [go_sem,hk,Az]
      repeat' (first|apply And.intro|intro _)
      all_goals
       refine zhK9 _ ?_
       refine zhN8 _ ?_
       refine Ck ?_
       simp only [go_sem,hk,Az]
       all_goals (refine congrArg (fun x=>V.w (W.one (L.pl (PL.i x)))) ?_;unfold Fv;cases has<;>simp_all)
theorem Jv (has:Bool) (key:List UInt8) (hk:key.length=32) (n:UInt64):
 Ct Tryd.prog 17 [.w (.agg (Az has key n))] (fun v m=>v=.w (.one (.pl (.i (Fv has key n))))):=by
 refine Ct.k Tryd.func17 rfl Tryd.ntmps17 (congrArg Array.toList Tryd.results17) (by simp) fun w0 ro=>?_
 refine Bq fun zN1 zM1 zhN1 zhM1=>?_
 refine Cv fun zK2 zhK2=>?_
 simp only [go_sem,hk,Az]
 repeat' (first|apply And.intro|intro _)
 all_goals
  refine zhK2 _ ?_
  refine zhN1 _ ?_
  refine Bq fun zN3 zM3 zhN3 zhM3=>?_
  refine Bq fun zN4 zM4 zhN4 zhM4=>?_
  refine Cv fun zK5 zhK5=>?_
  simp only [go_sem,hk,Az]
  repeat' (first|apply And.intro|intro _)
  all_goals
   refine zhK5 _ ?_
   refine zhN4 _ ?_
   refine p0t rfl (fun hc=>?_) (fun hc=>?_)
   · try simp only [go_sem,hk,Az] at hc
     all_goals
      refine Bq fun zN6 zM6 zhN6 zhM6=>?_
      refine Cv fun zK7 zhK7=>?_
      simp only [go_sem,hk,Az]
      repeat' (first|apply And.intro|intro _)
      all_goals
       refine zhK7 _ ?_
       refine zhN6 _ ?_
       refine Ck ?_
       refine zhM3 _ _ ?_
       simp only [go_sem,hk,Az]
       all_goals (refine congrArg (fun x=>V.w (W.one (L.pl (PL.i x)))) ?_;unfold Fv;cases has<;>simp_all)
   · try simp only [go_sem,hk,Az] at hc
     all_goals
      refine Cq ?_
      refine zhN3 _ ?_
      refine Bq fun zN8 zM8 zhN8 zhM8=>?_
      refine Cv fun zK9 zhK9=>?_
      simp only [go_sem,hk,Az]
      repeat' (first|apply And.intro|intro _)
      all_goals
       refine zhK9 _ ?_
       refine zhN8 _ ?_
       refine Ck ?_
       simp only [go_sem,hk,Az]
       all_goals (refine congrArg (fun x=>V.w (W.one (L.pl (PL.i x)))) ?_;unfold Fv;cases has<;>simp_all)
theorem h1i (n:UInt64):
 Ct Tryd.prog 24 [.w (.one (.pl (.u64 n)))] (fun v m=>v=.w (.agg (Aq (Ej n)))):=by
 refine Ct.k Tryd.func24 rfl Tryd.ntmps24 (congrArg Array.toList Tryd.results24) (by simp) fun w0 ro=>?_
 refine Dx fun zZ zhZ=>?_
 iterate 167 first
  |(refine Dj (x:=.seq (.region 3 _ _) _) [4,6,7,8,9,10,11,12,13,14,15,16] ?_;simp only [go_sem,St.forget,fgt];refine Hw fun zN zM zhN zhM=>?_)
  |refine Hw fun zN zM zhN zhM=>?_
  |refine zhK _ ?_
  |(refine zhN _ ?_;clear zhN zhM)
  |(refine Dz fun zK zhK=>?_;simp only [go_sem,Int.toNat_one,Int.reduceTMod,Int.reduceTDiv,Int.mul_zero,z12];(repeat' (first|apply And.intro|intro _)))
  |(refine Cv fun zK zhK=>?_;simp only [go_sem,Int.toNat_one,Int.reduceTMod,Int.reduceTDiv,Int.mul_zero,z12];(repeat' (first|apply And.intro|intro _)))
  |refine Cx fun zB zbn zbx zbr zbi=>?_
  |refine Cq ?_
  |(refine zbn _ ?_;clear zbn zbx zbr zbi)
  |(refine zhM _ _ ?_;clear zhN zhM)
  |refine Fw (x:=.seq (.region 3 _ _) _) 9 ?_
  |refine Fx ?_
  |(refine zbx _ ?_;clear zbn zbx zbr zbi)
  |refine Ck ?_
  |(refine zhZ _ _ ?_;simp only [go_sem,Int.toNat_one,Int.reduceTMod,Int.reduceTDiv,Int.mul_zero,z12];(all_goals (rw [Ej,h0e];rfl)))
  |refine Bq fun zN zM zhN zhM=>?_
  |(refine Bz ?_ ?_;focus (first|rfl|(simp [go_sem,Int.toNat_one,Int.reduceTMod,Int.reduceTDiv,Int.mul_zero,z12];done)))
  |(refine Bj ?_ ?_;focus (first|rfl|(simp [go_sem,Int.toNat_one,Int.reduceTMod,Int.reduceTDiv,Int.mul_zero,z12];done)))
theorem e0x (n:UInt64):
 Ct Tryd.prog 19 [.w (.one (.pl (.u64 n)))] (fun v m=>v=.w (.agg (Aq (Ej n)))):=by
 have hL:=e1e n 8 (by omega)
 have hnn:Ej n=List.replicate 4 0++Mk n 8:=rfl
 obtain ⟨q,hq⟩: ∃ q,Mk n 8=q:=⟨_,rfl⟩
 have hql:q.length=8:=by rw [←hq];exact Av _ _
 rw [hq] at hL hnn
 have hm:min 8 8=8:=rfl
 have htk:List.take 8 q=q:=List.take_of_length_le (by omega)
 have ht4:List.take 4 (List.replicate 12 (0:UInt8))=List.replicate 4 0:=rfl
 have hd4:List.drop 4 (List.replicate 12 (0:UInt8))=List.replicate 8 0:=rfl
 have ht8:List.take 8 (List.replicate 8 (0:UInt8))=List.replicate 8 0:=rfl
 have hd8:List.drop 8 (List.replicate 8 (0:UInt8))=[]:=rfl
 have F0:=And.intro hql<|And.intro hm<|And.intro htk<|And.intro ht4<|And.intro hd4<|And.intro ht8<|hd8
 refine Ct.k Tryd.func19 rfl Tryd.ntmps19 (congrArg Array.toList Tryd.results19) (by simp) fun w0 ro=>?_
 refine Dx fun zZ zhZ=>?_
 iterate 13 first
  |(refine Dz fun zK zhK=>?_;simp only [go_sem,F0];(repeat' (first|apply And.intro|intro _)))
  |refine zhK _ ?_
  |(refine Kk (id:=2) [4,5,6,7] [0,0,2,7] [] mixed (by kernel_rfl) (by simp only [go_sem]) fun zK zhK=>?_;simp only [go_sem,F0];(repeat' (first|apply And.intro|intro _)))
  |refine zhK _ _ trivial ?_
  |(refine zhN _ ?_;clear zhN zhM)
  |refine Ck ?_
  |(refine zhZ _ _ ?_;simp only [go_sem,F0];(all_goals (rw [hnn])))
  |((all_goals (refine Dv (fun k=>k) (.w (.one (.pl (.str q)))) [] (fun _ _=>rfl) ?_ (hL.plain fun _ _ h=>h) ?_ ?_;focus (first|rfl|(simp only [go_sem,F0]<;>rfl))));(all_goals try (refine And.intro ?_ (And.intro ?_ (And.intro ?_ ?_))<;>first|rfl|simp only [go_sem]));(all_goals simp only [go_sem,F0]);(all_goals repeat' (first|apply And.intro|intro _)))
  |refine Bq fun zN zM zhN zhM=>?_
end Go.Sy
namespace Go.Sy
open Go.Proofs
attribute [local irreducible] Fz HT Cw Oj onC onE onO onG goV goA goS Qv Ey
def c0e (has:Bool) (key:List UInt8) (n:UInt64) (b out:List UInt8) (e:Int):(Bool×List UInt8×UInt64)×List UInt8×Int:=
 if Fv has key n=9 then ((false,z32,0),[],9) else if has=false then (if 800<b.length then ((false,z32,0),[],1) else ((has,key,n),b,0)) else if n=18446744073709551615 then ((false,z32,0),[],11) else if e=0 then ((true,key,n+1),out,0) else ((false,z32,0),[],e)
abbrev l1z (r:(Bool×List UInt8×UInt64)×List UInt8×Int):V→List (Nat×Ob)→Prop:=n0p r.1.1 r.1.2.1 r.1.2.2 r.2.1 r.2.2
theorem Tk (has:Bool) (key:List UInt8) (n:UInt64):Fv has key n=9∨(has=false∧key=z32∧n=0)∨has=true:=by
 cases has with
 |true=>exact .inr (.inr rfl)
 |false=>
  by_cases h:key=z32∧n=0
  · exact .inr (.inl ⟨rfl,h⟩)
  · exact .inl (by unfold Fv;rw [if_pos ⟨rfl,h⟩])
theorem Aj (key:List UInt8) (n:UInt64):Fv true key n=0:=by unfold Fv;rw [if_neg (by simp)]
theorem Dk :Fv false z32 0=0:=by unfold Fv;rw [if_neg fun h=>h.2 ⟨rfl,rfl⟩]
theorem Ay :z32.length=32:=rfl
theorem Vv {n:UInt64}:n+1=0↔n=18446744073709551615:=by
 constructor
 · intro h
   have h2:=congrArg (· -1) h
   simp only [UInt64.add_sub_cancel] at h2
   exact h2
 · rintro rfl;rfl
theorem l1y (k:Nat) (hgo: ∀ vals w,(callFunc k vals).run Tryd.prog w=.ok (.enter k vals) w) (has:Bool) (key:List UInt8) (hk:key.length=32) (n:UInt64) (ad b:List UInt8) (ex1 ex2:Bool) (h:Fv has key n=9):
 CtM Tryd.prog 13 [.w (.agg (Az has key n)),.w (.one (.fn k [])),.w (.one (.pl (.R ex1 1 (Aw ad)))),.w (.one (.pl (.R ex2 1 (Aw b))))] [] (Told (n0p false z32 0 [] 9)):=by
 have zE:=@c0s
 have F0:=And.intro Az.eq_1<|And.intro hk<|h
 have cv0:=Ct.cv (Mv has key hk n)
 exact CtM.w Tryd.func13 rfl Tryd.ntmps13 Tryd.results13
theorem l1x (k:Nat) (hgo: ∀ vals w,(callFunc k vals).run Tryd.prog w=.ok (.enter k vals) w) (ad b:List UInt8) (ex1 ex2:Bool) (h:800<b.length):
 CtM Tryd.prog 13 [.w (.agg (Az false z32 0)),.w (.one (.fn k [])),.w (.one (.pl (.R ex1 1 (Aw ad)))),.w (.one (.pl (.R ex2 1 (Aw b))))] [] (Told (n0p false z32 0 [] 1)):=by
 have g:(800:Int)<((b.length:Nat):Int):=by omega
 have zE:=@c0s
 have F0:=And.intro Az.eq_1<|And.intro g<|And.intro Dk<|Ay
 have cv0:=Ct.cv (Mv false z32 Ay 0)
 exact CtM.w Tryd.func13 rfl Tryd.ntmps13 Tryd.results13
theorem e1k (k:Nat) (hgo: ∀ vals w,(callFunc k vals).run Tryd.prog w=.ok (.enter k vals) w) (ad b:List UInt8) (ex1 ex2:Bool) (h:¬800<b.length):
 CtM Tryd.prog 13 [.w (.agg (Az false z32 0)),.w (.one (.fn k [])),.w (.one (.pl (.R ex1 1 (Aw ad)))),.w (.one (.pl (.R ex2 1 (Aw b))))] [] (Told (n0p false z32 0 b 0)):=by
 have g:¬(800:Int)<((b.length:Nat):Int):=by omega
 have hq:b.length≤140737488355328:=by omega
 refine CtM.k Tryd.func13 rfl Tryd.ntmps13 (congrArg Array.toList Tryd.results13) (by simp) fun w0 ro may fx=>?_
 refine Dx fun zZ zhZ=>?_
 iterate 26 first
  |(refine Dz fun zK zhK=>?_;simp only [go_sem,Az,g,hq,Dk,Ay];(repeat' (first|apply And.intro|intro _)))
  |refine zhK _ ?_
  |refine Cq ?_
  |(refine zhN _ ?_;clear zhN zhM)
  |(refine d0c (id:=7) [27,28,29,30,9,10] [0,0,0,6,15,31,63] [(0,3)] mixed (by kernel_rfl) (by simp only [go_sem]) fun zK zhK=>?_;simp only [go_sem,Az,g,hq,Dk,Ay];(repeat' (first|apply And.intro|intro _)))
  |(refine zhK _ _ ?_ ?_;(focus (first|trivial|(simp only [go_sem];done)|(simp only [go_sem];simp;done)|(simp only [go_sem];simp;simp only [go_sem]))))
  |refine Ck ?_
  |(refine zhM _ _ ?_;clear zhN zhM)
  |(refine zhZ _ _ ?_;simp only [go_sem,Az,g,hq,Dk,Ay];(all_goals (first|exact c0r|exact j1z (b:=true) (by simp [look]) (by simp))))
  |((all_goals (refine Cy (fun k=>k) (fun _ _=>rfl) ?_ ((Mv false z32 Ay 0).plain fun _ _ h=>h) ?_;focus (first|rfl|(simp only [go_sem,Az,g,hq,Dk,Ay]<;>rfl))));(all_goals (rintro v m ⟨hR,hm⟩;subst hR;subst hm));(all_goals refine And.intro (by first|rfl|simp only [go_sem,Az,g,hq,Dk,Ay]) (And.intro (by first|rfl|simp only [go_sem,Az,g,hq,Dk,Ay]) ?_));(all_goals simp only [go_sem,Az,g,hq,Dk,Ay]);(all_goals repeat' (first|apply And.intro|intro _)))
  |refine Bq fun zN zM zhN zhM=>?_
  |(refine Bj ?_ ?_;focus (first|rfl|(simp [go_sem,Az,g,hq,Dk,Ay];done)))
  |(refine Bz ?_ ?_;focus (first|rfl|(simp [go_sem,Az,g,hq,Dk,Ay];done)))
theorem e1j (k:Nat) (hgo: ∀ vals w,(callFunc k vals).run Tryd.prog w=.ok (.enter k vals) w) (key:List UInt8) (hk:key.length=32) (n:UInt64) (ad b:List UInt8) (ex1 ex2:Bool) (h:n=18446744073709551615):
 CtM Tryd.prog 13 [.w (.agg (Az true key n)),.w (.one (.fn k [])),.w (.one (.pl (.R ex1 1 (Aw ad)))),.w (.one (.pl (.R ex2 1 (Aw b))))] [] (Told (n0p false z32 0 [] 11)):=by
 have h2:n+1=0:=Vv.mpr h
 have zE:=@c0s
 have F0:=And.intro Az.eq_1<|And.intro hk<|And.intro h<|Aj
 have cv0:=Ct.cv (Mv true key hk n)
 exact CtM.w Tryd.func13 rfl Tryd.ntmps13 Tryd.results13
theorem l1w (k:Nat) (hgo: ∀ vals w,(callFunc k vals).run Tryd.prog w=.ok (.enter k vals) w) (key:List UInt8) (hk:key.length=32) (n:UInt64) (ad b:List UInt8) (ex1 ex2:Bool) (h:¬n=18446744073709551615) (out:List UInt8) (e:Int) (he:¬e=0) (hop:CtM Tryd.prog k [.w (.agg (Aq key)),.w (.agg (Aq (Ej n))),.w (.one (.pl (.R ex1 1 (Aw ad)))),.w (.one (.pl (.R ex2 1 (Aw b))))] [] (byV out e)):
 CtM Tryd.prog 13 [.w (.agg (Az true key n)),.w (.one (.fn k [])),.w (.one (.pl (.R ex1 1 (Aw ad)))),.w (.one (.pl (.R ex2 1 (Aw b))))] [] (Told (n0p false z32 0 [] e)):=by
 have h2:¬n+1=0:=fun q=>h (Vv.mp q)
 have hnl:=Gy n
 obtain ⟨nb,hnb⟩: ∃ q,Ej n=q:=⟨_,rfl⟩
 rw [hnb] at hnl hop
 have hN:=h1i n
 rw [hnb] at hN
 have F0:=And.intro hk<|And.intro h<|And.intro h2<|And.intro hnl<|he
 refine CtM.k Tryd.func13 rfl Tryd.ntmps13 (congrArg Array.toList Tryd.results13) (by simp) fun w0 ro may fx=>?_
 refine Dx fun zZ zhZ=>?_
 iterate 35 first
  |(refine Dz fun zK zhK=>?_;simp only [go_sem,Az,Aj,F0];(repeat' (first|apply And.intro|intro _)))
  |refine zhK _ ?_
  |(refine zhN _ ?_;clear zhN zhM)
  |refine Cq ?_
  |refine Ck ?_
  |(refine zhM _ _ ?_;clear zhN zhM)
  |(refine zhZ _ _ ?_;simp only [go_sem,Az,Aj,F0];(all_goals (exact c0s)))
  |((all_goals (refine Cy (fun k=>k) (fun _ _=>rfl) ?_ ((Mv true key hk n).plain fun _ _ h=>h) ?_;focus (first|rfl|(simp only [go_sem,Az,Aj,F0]<;>rfl))));(all_goals (rintro v m ⟨hR,hm⟩;subst hR;subst hm));(all_goals refine And.intro (by first|rfl|simp only [go_sem,Az,Aj,F0]) (And.intro (by first|rfl|simp only [go_sem,Az,Aj,F0]) ?_));(all_goals simp only [go_sem,Az,Aj,F0]);(all_goals repeat' (first|apply And.intro|intro _)))
  |(refine Zj (id:=10) mixed fun zE zhE=>?_;refine Cj (p:=0) 8 [36,37,38,39,40,41,42,43] [0,0,2,0,8,24,0,0,255,511,1023,1023,2047,8191] [] rfl (by kernel_rfl) rfl (by simp only [go_sem]) fun zR zK zhR zhK=>?_;simp only [go_sem,Az,Aj,F0];(repeat' (first|apply And.intro|intro _));(all_goals (refine Dv (fun k=>k) (.w (.agg (Aq nb))) [] (fun _ _=>rfl) ?_ (hN.plain fun _ _ h=>h) ?_ ?_;focus (first|rfl|(simp only [go_sem,Az,Aj,F0]<;>rfl))));(all_goals try (refine And.intro ?_ (And.intro ?_ (And.intro ?_ ?_))<;>first|rfl|simp only [go_sem]));(all_goals simp only [go_sem,Az,Aj,F0]);(all_goals repeat' (first|apply And.intro|intro _));refine zhK _ _ trivial (zhR _ ?_);refine Dw 2 10 rfl (by kernel_rfl) rfl rfl fun zR zhR=>?_;simp only [go_sem,Az,Aj,F0];(repeat' (first|apply And.intro|intro _));(all_goals (refine g0q (caps:=[]) false [] (fun k=>k) ?_ ?_ hgo ?_ (by decide) ?_ (show CtM Tryd.prog k ([.w (.agg (Aq key)),.w (.agg (Aq nb)),.w (.one (.pl (.R ex1 1 (Aw ad)))),.w (.one (.pl (.R ex2 1 (Aw b))))]++([]:List Nat).map fun k=>V.w (.one (.p k []))) _ _ from hop) ?_;iterate 4 (focus (first|rfl|(simp only [go_sem,Az,Aj,F0]<;>first|done|rfl|simp)))));(all_goals (rintro v m ⟨hR,hm⟩;subst hR;subst hm));(all_goals (refine And.intro ?_ (And.intro ?_ (And.intro ?_ ?_));iterate 3 (focus (first|rfl|(simp only [go_sem,Az,Aj,F0];done)|(simp [go_sem,look,Az,Aj,F0];done)))));(all_goals (try simp only [go_sem,Az,Aj,F0]));(all_goals (try simp only [go_sem,Az,Aj,F0]));(all_goals repeat' (first|apply And.intro|intro _));refine zhR _ ?_;refine Cj (p:=10) 13 [45,46,12] [0,0,2,0,8,24,0,0,255,511,1023,1023,2047,8191] [] rfl (by kernel_rfl) rfl (by simp only [go_sem]) fun zR zK zhR zhK=>?_;simp only [go_sem,Az,Aj,F0];(repeat' (first|apply And.intro|intro _));refine zhK _ _ trivial (zhR _ ?_);refine Dw 1 14 rfl (by kernel_rfl) rfl rfl fun zR zhR=>?_;simp only [go_sem,Az,Aj,F0];(repeat' (first|apply And.intro|intro _));refine zhR _ ?_;refine Hq rfl (zhE _ ?_))
  |refine Bq fun zN zM zhN zhM=>?_
  |(refine Bj ?_ ?_;focus (first|rfl|(simp [go_sem,Az,Aj,F0];done)))
  |(refine Bz ?_ ?_;focus (first|rfl|(simp [go_sem,Az,Aj,F0];done)))
theorem s1k (k:Nat) (hgo: ∀ vals w,(callFunc k vals).run Tryd.prog w=.ok (.enter k vals) w) (key:List UInt8) (hk:key.length=32) (n:UInt64) (ad b:List UInt8) (ex1 ex2:Bool) (h:¬n=18446744073709551615) (out:List UInt8) (hop:CtM Tryd.prog k [.w (.agg (Aq key)),.w (.agg (Aq (Ej n))),.w (.one (.pl (.R ex1 1 (Aw ad)))),.w (.one (.pl (.R ex2 1 (Aw b))))] [] (byV out 0)):
 CtM Tryd.prog 13 [.w (.agg (Az true key n)),.w (.one (.fn k [])),.w (.one (.pl (.R ex1 1 (Aw ad)))),.w (.one (.pl (.R ex2 1 (Aw b))))] [] (Told (n0p true key (n+1) out 0)):=by
 have h2:¬n+1=0:=fun q=>h (Vv.mp q)
 have hnl:=Gy n
 obtain ⟨nb,hnb⟩: ∃ q,Ej n=q:=⟨_,rfl⟩
 rw [hnb] at hnl hop
 have hN:=h1i n
 rw [hnb] at hN
 have F0:=And.intro hk<|And.intro h<|And.intro h2<|hnl
 refine CtM.k Tryd.func13 rfl Tryd.ntmps13 (congrArg Array.toList Tryd.results13) (by simp) fun w0 ro may fx=>?_
 refine Dx fun zZ zhZ=>?_
 iterate 38 first
  |(refine Dz fun zK zhK=>?_;simp only [go_sem,Az,Aj,F0];(repeat' (first|apply And.intro|intro _)))
  |refine zhK _ ?_
  |(refine zhN _ ?_;clear zhN zhM)
  |refine Cq ?_
  |refine Ck ?_
  |(refine zhZ _ _ ?_;simp only [go_sem,Az,Aj,F0];(all_goals (exact c0r)))
  |((all_goals (refine Cy (fun k=>k) (fun _ _=>rfl) ?_ ((Mv true key hk n).plain fun _ _ h=>h) ?_;focus (first|rfl|(simp only [go_sem,Az,Aj,F0]<;>rfl))));(all_goals (rintro v m ⟨hR,hm⟩;subst hR;subst hm));(all_goals refine And.intro (by first|rfl|simp only [go_sem,Az,Aj,F0]) (And.intro (by first|rfl|simp only [go_sem,Az,Aj,F0]) ?_));(all_goals simp only [go_sem,Az,Aj,F0]);(all_goals repeat' (first|apply And.intro|intro _)))
  |(refine Zj (id:=10) mixed fun zE zhE=>?_;refine Cj (p:=0) 8 [36,37,38,39,40,41,42,43] [0,0,2,0,8,24,0,0,255,511,1023,1023,2047,8191] [] rfl (by kernel_rfl) rfl (by simp only [go_sem]) fun zR zK zhR zhK=>?_;simp only [go_sem,Az,Aj,F0];(repeat' (first|apply And.intro|intro _));(all_goals (refine Dv (fun k=>k) (.w (.agg (Aq nb))) [] (fun _ _=>rfl) ?_ (hN.plain fun _ _ h=>h) ?_ ?_;focus (first|rfl|(simp only [go_sem,Az,Aj,F0]<;>rfl))));(all_goals try (refine And.intro ?_ (And.intro ?_ (And.intro ?_ ?_))<;>first|rfl|simp only [go_sem]));(all_goals simp only [go_sem,Az,Aj,F0]);(all_goals repeat' (first|apply And.intro|intro _));refine zhK _ _ trivial (zhR _ ?_);refine Dw 2 10 rfl (by kernel_rfl) rfl rfl fun zR zhR=>?_;simp only [go_sem,Az,Aj,F0];(repeat' (first|apply And.intro|intro _));(all_goals (refine g0q (caps:=[]) false [] (fun k=>k) ?_ ?_ hgo ?_ (by decide) ?_ (show CtM Tryd.prog k ([.w (.agg (Aq key)),.w (.agg (Aq nb)),.w (.one (.pl (.R ex1 1 (Aw ad)))),.w (.one (.pl (.R ex2 1 (Aw b))))]++([]:List Nat).map fun k=>V.w (.one (.p k []))) _ _ from hop) ?_;iterate 4 (focus (first|rfl|(simp only [go_sem,Az,Aj,F0]<;>first|done|rfl|simp)))));(all_goals (rintro v m ⟨hR,hm⟩;subst hR;subst hm));(all_goals (refine And.intro ?_ (And.intro ?_ (And.intro ?_ ?_));iterate 3 (focus (first|rfl|(simp only [go_sem,Az,Aj,F0];done)|(simp [go_sem,look,Az,Aj,F0];done)))));(all_goals (try simp only [go_sem,Az,Aj,F0]));(all_goals (try simp only [go_sem,Az,Aj,F0]));(all_goals repeat' (first|apply And.intro|intro _));refine zhR _ ?_;refine Cj (p:=10) 13 [45,46,12] [0,0,2,0,8,24,0,0,255,511,1023,1023,2047,8191] [] rfl (by kernel_rfl) rfl (by simp only [go_sem]) fun zR zK zhR zhK=>?_;simp only [go_sem,Az,Aj,F0];(repeat' (first|apply And.intro|intro _));refine zhK _ _ trivial (zhR _ ?_);refine Dw 1 14 rfl (by kernel_rfl) rfl rfl fun zR zhR=>?_;simp only [go_sem,Az,Aj,F0];(repeat' (first|apply And.intro|intro _));refine zhR _ ?_;refine Hq rfl (zhE _ ?_))
  |refine Bq fun zN zM zhN zhM=>?_
  |(refine Bj ?_ ?_;focus (first|rfl|(simp [go_sem,Az,Aj,F0];done)))
theorem a1a (op:Bool) (has:Bool) (key:List UInt8) (hk:key.length=32) (n:UInt64) (ad b:List UInt8) (ex1 ex2:Bool) (h:Fv has key n=9):
 CtM Tryd.prog 11 [.w (.one (.pl (.b op))),.w (.agg (Az has key n)),.w (.one (.pl (.R ex1 1 (Aw ad)))),.w (.one (.pl (.R ex2 1 (Aw b))))] [] (Told (n0p false z32 0 [] 9)):=by
 have zE:=@c0s
 have F0:=And.intro Az.eq_1<|And.intro hk<|h
 have cv0:=Ct.cv (Jv has key hk n)
 exact CtM.w Tryd.func11 rfl Tryd.ntmps11 Tryd.results11
theorem z0z (op:Bool) (ad b:List UInt8) (ex1 ex2:Bool) (h:800<b.length):
 CtM Tryd.prog 11 [.w (.one (.pl (.b op))),.w (.agg (Az false z32 0)),.w (.one (.pl (.R ex1 1 (Aw ad)))),.w (.one (.pl (.R ex2 1 (Aw b))))] [] (Told (n0p false z32 0 [] 1)):=by
 have g:(800:Int)<((b.length:Nat):Int):=by omega
 have zE:=@c0s
 have F0:=And.intro Az.eq_1<|And.intro g<|And.intro Dk<|Ay
 have cv0:=Ct.cv (Jv false z32 Ay 0)
 exact CtM.w Tryd.func11 rfl Tryd.ntmps11 Tryd.results11
theorem t0k (op:Bool) (ad b:List UInt8) (ex1 ex2:Bool) (h:¬800<b.length):
 CtM Tryd.prog 11 [.w (.one (.pl (.b op))),.w (.agg (Az false z32 0)),.w (.one (.pl (.R ex1 1 (Aw ad)))),.w (.one (.pl (.R ex2 1 (Aw b))))] [] (Told (n0p false z32 0 b 0)):=by
 have g:¬(800:Int)<((b.length:Nat):Int):=by omega
 have hq:b.length≤140737488355328:=by omega
 refine CtM.k Tryd.func11 rfl Tryd.ntmps11 (congrArg Array.toList Tryd.results11) (by simp) fun w0 ro may fx=>?_
 refine Dx fun zZ zhZ=>?_
 iterate 26 first
  |(refine Dz fun zK zhK=>?_;simp only [go_sem,Az,g,hq,Dk,Ay];(repeat' (first|apply And.intro|intro _)))
  |refine zhK _ ?_
  |refine Cq ?_
  |(refine zhN _ ?_;clear zhN zhM)
  |refine Ck ?_
  |(refine zhM _ _ ?_;clear zhN zhM)
  |(refine zhZ _ _ ?_;simp only [go_sem,Az,g,hq,Dk,Ay];(all_goals (first|exact c0r|exact j1z (b:=true) (by simp [look]) (by simp))))
  |((all_goals (refine Cy (fun k=>k) (fun _ _=>rfl) ?_ ((Jv false z32 Ay 0).plain fun _ _ h=>h) ?_;focus (first|rfl|(simp only [go_sem,Az,g,hq,Dk,Ay]<;>rfl))));(all_goals (rintro v m ⟨hR,hm⟩;subst hR;subst hm));(all_goals refine And.intro (by first|rfl|simp only [go_sem,Az,g,hq,Dk,Ay]) (And.intro (by first|rfl|simp only [go_sem,Az,g,hq,Dk,Ay]) ?_));(all_goals simp only [go_sem,Az,g,hq,Dk,Ay]);(all_goals repeat' (first|apply And.intro|intro _)))
  |refine Bq fun zN zM zhN zhM=>?_
  |(refine Bj ?_ ?_;focus (first|rfl|(simp [go_sem,Az,g,hq,Dk,Ay];done)))
  |(refine Bz ?_ ?_;focus (first|rfl|(simp [go_sem,Az,g,hq,Dk,Ay];done)))
theorem t0j (op:Bool) (key:List UInt8) (hk:key.length=32) (n:UInt64) (ad b:List UInt8) (ex1 ex2:Bool) (h:n=18446744073709551615):
 CtM Tryd.prog 11 [.w (.one (.pl (.b op))),.w (.agg (Az true key n)),.w (.one (.pl (.R ex1 1 (Aw ad)))),.w (.one (.pl (.R ex2 1 (Aw b))))] [] (Told (n0p false z32 0 [] 11)):=by
 have h2:n+1=0:=Vv.mpr h
 have zE:=@c0s
 have F0:=And.intro Az.eq_1<|And.intro hk<|And.intro h<|And.intro Aj<|h2
 have cv0:=Ct.cv (Jv true key hk n)
 exact CtM.w Tryd.func11 rfl Tryd.ntmps11 Tryd.results11
theorem b1q (key:List UInt8) (hk:key.length=32) (n:UInt64) (ad b:List UInt8) (ex1 ex2:Bool) (h:¬n=18446744073709551615) (out:List UInt8) (e:Int) (he:¬e=0) (hop:CtM Tryd.prog 20 [.w (.agg (Aq key)),.w (.agg (Aq (Ej n))),.w (.one (.pl (.R ex1 1 (Aw ad)))),.w (.one (.pl (.R ex2 1 (Aw b))))] [] (byV out e)):
 CtM Tryd.prog 11 [.w (.one (.pl (.b false))),.w (.agg (Az true key n)),.w (.one (.pl (.R ex1 1 (Aw ad)))),.w (.one (.pl (.R ex2 1 (Aw b))))] [] (Told (n0p false z32 0 [] e)):=by
 have h2:¬n+1=0:=fun q=>h (Vv.mp q)
 have hnl:=Gy n
 obtain ⟨nb,hnb⟩: ∃ q,Ej n=q:=⟨_,rfl⟩
 rw [hnb] at hnl hop
 have hN:=e0x n
 rw [hnb] at hN
 have F0:=And.intro hk<|And.intro h<|And.intro h2<|And.intro hnl<|he
 refine CtM.k Tryd.func11 rfl Tryd.ntmps11 (congrArg Array.toList Tryd.results11) (by simp) fun w0 ro may fx=>?_
 refine Dx fun zZ zhZ=>?_
 iterate 42 first
  |(refine Dz fun zK zhK=>?_;simp only [go_sem,Az,Aj,F0];(repeat' (first|apply And.intro|intro _)))
  |refine zhK _ ?_
  |(refine zhN _ ?_;clear zhN zhM)
  |refine Cq ?_
  |refine Ck ?_
  |(refine zhM _ _ ?_;clear zhN zhM)
  |(refine zhZ _ _ ?_;simp only [go_sem,Az,Aj,F0];(all_goals (exact c0s)))
  |((all_goals (refine Cy (fun k=>k) (fun _ _=>rfl) ?_ ((Jv true key hk n).plain fun _ _ h=>h) ?_;focus (first|rfl|(simp only [go_sem,Az,Aj,F0]<;>rfl))));(all_goals (rintro v m ⟨hR,hm⟩;subst hR;subst hm));(all_goals refine And.intro (by first|rfl|simp only [go_sem,Az,Aj,F0]) (And.intro (by first|rfl|simp only [go_sem,Az,Aj,F0]) ?_));(all_goals simp only [go_sem,Az,Aj,F0]);(all_goals repeat' (first|apply And.intro|intro _)))
  |(refine Zj (id:=14) mixed fun zE zhE=>?_;refine Cj (p:=0) 7 [47,48,49,50,51,52,53] [0,1,0,4,12,0,0,127,255,511,511,1023,4095] [] rfl (by kernel_rfl) rfl (by simp only [go_sem]) fun zR zK zhR zhK=>?_;simp only [go_sem,Az,Aj,F0];(repeat' (first|apply And.intro|intro _));(all_goals (refine Dv (fun k=>k) (.w (.agg (Aq nb))) [] (fun _ _=>rfl) ?_ (hN.plain fun _ _ h=>h) ?_ ?_;focus (first|rfl|(simp only [go_sem,Az,Aj,F0]<;>rfl))));(all_goals try (refine And.intro ?_ (And.intro ?_ (And.intro ?_ ?_))<;>first|rfl|simp only [go_sem]));(all_goals simp only [go_sem,Az,Aj,F0]);(all_goals repeat' (first|apply And.intro|intro _));refine zhK _ _ trivial (zhR _ ?_);refine Dw 2 9 rfl (by kernel_rfl) rfl rfl fun zR zhR=>?_;simp only [go_sem,Az,Aj,F0];(repeat' (first|apply And.intro|intro _));(all_goals (refine Dy false [] (fun k=>k) (fun _ _=>rfl) ?_ (by decide) ?_ hop ?_;iterate 2 (focus (first|rfl|(simp only [go_sem,Az,Aj,F0]<;>first|done|rfl|simp)))));(all_goals (rintro v m ⟨hR,hm⟩;subst hR;subst hm));(all_goals (refine And.intro ?_ (And.intro ?_ (And.intro ?_ ?_));iterate 3 (focus (first|rfl|(simp only [go_sem,Az,Aj,F0];done)|(simp [go_sem,look,Az,Aj,F0];done)))));(all_goals (try simp only [go_sem,Az,Aj,F0]));(all_goals (try simp only [go_sem,Az,Aj,F0]));(all_goals repeat' (first|apply And.intro|intro _));refine zhR _ ?_;refine Cj (p:=9) 12 [55,56,12] [0,1,0,4,12,0,0,127,255,511,511,1023,4095] [] rfl (by kernel_rfl) rfl (by simp only [go_sem]) fun zR zK zhR zhK=>?_;simp only [go_sem,Az,Aj,F0];(repeat' (first|apply And.intro|intro _));refine zhK _ _ trivial (zhR _ ?_);refine Dw 1 13 rfl (by kernel_rfl) rfl rfl fun zR zhR=>?_;simp only [go_sem,Az,Aj,F0];(repeat' (first|apply And.intro|intro _));refine zhR _ ?_;refine Hq rfl (zhE _ ?_))
  |refine Bq fun zN zM zhN zhM=>?_
  |(refine Bj ?_ ?_;focus (first|rfl|(simp [go_sem,Az,Aj,F0];done)))
  |(refine Bz ?_ ?_;focus (first|rfl|(simp [go_sem,Az,Aj,F0];done)))
theorem b1r (key:List UInt8) (hk:key.length=32) (n:UInt64) (ad b:List UInt8) (ex1 ex2:Bool) (h:¬n=18446744073709551615) (out:List UInt8) (e:Int) (he:¬e=0) (hop:CtM Tryd.prog 18 [.w (.agg (Aq key)),.w (.agg (Aq (Ej n))),.w (.one (.pl (.R ex1 1 (Aw ad)))),.w (.one (.pl (.R ex2 1 (Aw b))))] [] (byV out e)):
 CtM Tryd.prog 11 [.w (.one (.pl (.b true))),.w (.agg (Az true key n)),.w (.one (.pl (.R ex1 1 (Aw ad)))),.w (.one (.pl (.R ex2 1 (Aw b))))] [] (Told (n0p false z32 0 [] e)):=by
 have h2:¬n+1=0:=fun q=>h (Vv.mp q)
 have hnl:=Gy n
 obtain ⟨nb,hnb⟩: ∃ q,Ej n=q:=⟨_,rfl⟩
 rw [hnb] at hnl hop
 have hN:=e0x n
 rw [hnb] at hN
 have F0:=And.intro hk<|And.intro h<|And.intro h2<|And.intro hnl<|he
 refine CtM.k Tryd.func11 rfl Tryd.ntmps11 (congrArg Array.toList Tryd.results11) (by simp) fun w0 ro may fx=>?_
 refine Dx fun zZ zhZ=>?_
 iterate 42 first
  |(refine Dz fun zK zhK=>?_;simp only [go_sem,Az,Aj,F0];(repeat' (first|apply And.intro|intro _)))
  |refine zhK _ ?_
  |(refine zhN _ ?_;clear zhN zhM)
  |refine Cq ?_
  |refine Ck ?_
  |(refine zhM _ _ ?_;clear zhN zhM)
  |(refine zhZ _ _ ?_;simp only [go_sem,Az,Aj,F0];(all_goals (exact c0s)))
  |((all_goals (refine Cy (fun k=>k) (fun _ _=>rfl) ?_ ((Jv true key hk n).plain fun _ _ h=>h) ?_;focus (first|rfl|(simp only [go_sem,Az,Aj,F0]<;>rfl))));(all_goals (rintro v m ⟨hR,hm⟩;subst hR;subst hm));(all_goals refine And.intro (by first|rfl|simp only [go_sem,Az,Aj,F0]) (And.intro (by first|rfl|simp only [go_sem,Az,Aj,F0]) ?_));(all_goals simp only [go_sem,Az,Aj,F0]);(all_goals repeat' (first|apply And.intro|intro _)))
  |(refine Zj (id:=13) mixed fun zE zhE=>?_;refine Cj (p:=0) 7 [36,37,38,39,40,41,42] [0,1,0,4,12,0,0,127,255,511,511,1023,4095] [] rfl (by kernel_rfl) rfl (by simp only [go_sem]) fun zR zK zhR zhK=>?_;simp only [go_sem,Az,Aj,F0];(repeat' (first|apply And.intro|intro _));(all_goals (refine Dv (fun k=>k) (.w (.agg (Aq nb))) [] (fun _ _=>rfl) ?_ (hN.plain fun _ _ h=>h) ?_ ?_;focus (first|rfl|(simp only [go_sem,Az,Aj,F0]<;>rfl))));(all_goals try (refine And.intro ?_ (And.intro ?_ (And.intro ?_ ?_))<;>first|rfl|simp only [go_sem]));(all_goals simp only [go_sem,Az,Aj,F0]);(all_goals repeat' (first|apply And.intro|intro _));refine zhK _ _ trivial (zhR _ ?_);refine Dw 2 9 rfl (by kernel_rfl) rfl rfl fun zR zhR=>?_;simp only [go_sem,Az,Aj,F0];(repeat' (first|apply And.intro|intro _));(all_goals (refine Dy false [] (fun k=>k) (fun _ _=>rfl) ?_ (by decide) ?_ hop ?_;iterate 2 (focus (first|rfl|(simp only [go_sem,Az,Aj,F0]<;>first|done|rfl|simp)))));(all_goals (rintro v m ⟨hR,hm⟩;subst hR;subst hm));(all_goals (refine And.intro ?_ (And.intro ?_ (And.intro ?_ ?_));iterate 3 (focus (first|rfl|(simp only [go_sem,Az,Aj,F0];done)|(simp [go_sem,look,Az,Aj,F0];done)))));(all_goals (try simp only [go_sem,Az,Aj,F0]));(all_goals (try simp only [go_sem,Az,Aj,F0]));(all_goals repeat' (first|apply And.intro|intro _));refine zhR _ ?_;refine Cj (p:=9) 12 [44,45,12] [0,1,0,4,12,0,0,127,255,511,511,1023,4095] [] rfl (by kernel_rfl) rfl (by simp only [go_sem]) fun zR zK zhR zhK=>?_;simp only [go_sem,Az,Aj,F0];(repeat' (first|apply And.intro|intro _));refine zhK _ _ trivial (zhR _ ?_);refine Dw 1 13 rfl (by kernel_rfl) rfl rfl fun zR zhR=>?_;simp only [go_sem,Az,Aj,F0];(repeat' (first|apply And.intro|intro _));refine zhR _ ?_;refine Hq rfl (zhE _ ?_))
  |refine Bq fun zN zM zhN zhM=>?_
  |(refine Bj ?_ ?_;focus (first|rfl|(simp [go_sem,Az,Aj,F0];done)))
  |(refine Bz ?_ ?_;focus (first|rfl|(simp [go_sem,Az,Aj,F0];done)))
theorem g1h (key:List UInt8) (hk:key.length=32) (n:UInt64) (ad b:List UInt8) (ex1 ex2:Bool) (h:¬n=18446744073709551615) (out:List UInt8) (hop:CtM Tryd.prog 20 [.w (.agg (Aq key)),.w (.agg (Aq (Ej n))),.w (.one (.pl (.R ex1 1 (Aw ad)))),.w (.one (.pl (.R ex2 1 (Aw b))))] [] (byV out 0)):
 CtM Tryd.prog 11 [.w (.one (.pl (.b false))),.w (.agg (Az true key n)),.w (.one (.pl (.R ex1 1 (Aw ad)))),.w (.one (.pl (.R ex2 1 (Aw b))))] [] (Told (n0p true key (n+1) out 0)):=by
 have h2:¬n+1=0:=fun q=>h (Vv.mp q)
 have hnl:=Gy n
 obtain ⟨nb,hnb⟩: ∃ q,Ej n=q:=⟨_,rfl⟩
 rw [hnb] at hnl hop
 have hN:=e0x n
 rw [hnb] at hN
 have F0:=And.intro hk<|And.intro h<|And.intro h2<|hnl
 refine CtM.k Tryd.func11 rfl Tryd.ntmps11 (congrArg Array.toList Tryd.results11) (by simp) fun w0 ro may fx=>?_
 refine Dx fun zZ zhZ=>?_
 iterate 43 first
  |(refine Dz fun zK zhK=>?_;simp only [go_sem,Az,Aj,F0];(repeat' (first|apply And.intro|intro _)))
  |refine zhK _ ?_
  |(refine zhN _ ?_;clear zhN zhM)
  |refine Cq ?_
  |refine Ck ?_
  |(refine zhZ _ _ ?_;simp only [go_sem,Az,Aj,F0];(all_goals (exact c0r)))
  |((all_goals (refine Cy (fun k=>k) (fun _ _=>rfl) ?_ ((Jv true key hk n).plain fun _ _ h=>h) ?_;focus (first|rfl|(simp only [go_sem,Az,Aj,F0]<;>rfl))));(all_goals (rintro v m ⟨hR,hm⟩;subst hR;subst hm));(all_goals refine And.intro (by first|rfl|simp only [go_sem,Az,Aj,F0]) (And.intro (by first|rfl|simp only [go_sem,Az,Aj,F0]) ?_));(all_goals simp only [go_sem,Az,Aj,F0]);(all_goals repeat' (first|apply And.intro|intro _)))
  |(refine Zj (id:=14) mixed fun zE zhE=>?_;refine Cj (p:=0) 7 [47,48,49,50,51,52,53] [0,1,0,4,12,0,0,127,255,511,511,1023,4095] [] rfl (by kernel_rfl) rfl (by simp only [go_sem]) fun zR zK zhR zhK=>?_;simp only [go_sem,Az,Aj,F0];(repeat' (first|apply And.intro|intro _));(all_goals (refine Dv (fun k=>k) (.w (.agg (Aq nb))) [] (fun _ _=>rfl) ?_ (hN.plain fun _ _ h=>h) ?_ ?_;focus (first|rfl|(simp only [go_sem,Az,Aj,F0]<;>rfl))));(all_goals try (refine And.intro ?_ (And.intro ?_ (And.intro ?_ ?_))<;>first|rfl|simp only [go_sem]));(all_goals simp only [go_sem,Az,Aj,F0]);(all_goals repeat' (first|apply And.intro|intro _));refine zhK _ _ trivial (zhR _ ?_);refine Dw 2 9 rfl (by kernel_rfl) rfl rfl fun zR zhR=>?_;simp only [go_sem,Az,Aj,F0];(repeat' (first|apply And.intro|intro _));(all_goals (refine Dy false [] (fun k=>k) (fun _ _=>rfl) ?_ (by decide) ?_ hop ?_;iterate 2 (focus (first|rfl|(simp only [go_sem,Az,Aj,F0]<;>first|done|rfl|simp)))));(all_goals (rintro v m ⟨hR,hm⟩;subst hR;subst hm));(all_goals (refine And.intro ?_ (And.intro ?_ (And.intro ?_ ?_));iterate 3 (focus (first|rfl|(simp only [go_sem,Az,Aj,F0];done)|(simp [go_sem,look,Az,Aj,F0];done)))));(all_goals (try simp only [go_sem,Az,Aj,F0]));(all_goals (try simp only [go_sem,Az,Aj,F0]));(all_goals repeat' (first|apply And.intro|intro _));refine zhR _ ?_;refine Cj (p:=9) 12 [55,56,12] [0,1,0,4,12,0,0,127,255,511,511,1023,4095] [] rfl (by kernel_rfl) rfl (by simp only [go_sem]) fun zR zK zhR zhK=>?_;simp only [go_sem,Az,Aj,F0];(repeat' (first|apply And.intro|intro _));refine zhK _ _ trivial (zhR _ ?_);refine Dw 1 13 rfl (by kernel_rfl) rfl rfl fun zR zhR=>?_;simp only [go_sem,Az,Aj,F0];(repeat' (first|apply And.intro|intro _));refine zhR _ ?_;refine Hq rfl (zhE _ ?_))
  |refine Bq fun zN zM zhN zhM=>?_
  |(refine Bj ?_ ?_;focus (first|rfl|(simp [go_sem,Az,Aj,F0];done)))
theorem g1i (key:List UInt8) (hk:key.length=32) (n:UInt64) (ad b:List UInt8) (ex1 ex2:Bool) (h:¬n=18446744073709551615) (out:List UInt8) (hop:CtM Tryd.prog 18 [.w (.agg (Aq key)),.w (.agg (Aq (Ej n))),.w (.one (.pl (.R ex1 1 (Aw ad)))),.w (.one (.pl (.R ex2 1 (Aw b))))] [] (byV out 0)):
 CtM Tryd.prog 11 [.w (.one (.pl (.b true))),.w (.agg (Az true key n)),.w (.one (.pl (.R ex1 1 (Aw ad)))),.w (.one (.pl (.R ex2 1 (Aw b))))] [] (Told (n0p true key (n+1) out 0)):=by
 have h2:¬n+1=0:=fun q=>h (Vv.mp q)
 have hnl:=Gy n
 obtain ⟨nb,hnb⟩: ∃ q,Ej n=q:=⟨_,rfl⟩
 rw [hnb] at hnl hop
 have hN:=e0x n
 rw [hnb] at hN
 have F0:=And.intro hk<|And.intro h<|And.intro h2<|hnl
 refine CtM.k Tryd.func11 rfl Tryd.ntmps11 (congrArg Array.toList Tryd.results11) (by simp) fun w0 ro may fx=>?_
 refine Dx fun zZ zhZ=>?_
 iterate 43 first
  |(refine Dz fun zK zhK=>?_;simp only [go_sem,Az,Aj,F0];(repeat' (first|apply And.intro|intro _)))
  |refine zhK _ ?_
  |(refine zhN _ ?_;clear zhN zhM)
  |refine Cq ?_
  |refine Ck ?_
  |(refine zhZ _ _ ?_;simp only [go_sem,Az,Aj,F0];(all_goals (exact c0r)))
  |((all_goals (refine Cy (fun k=>k) (fun _ _=>rfl) ?_ ((Jv true key hk n).plain fun _ _ h=>h) ?_;focus (first|rfl|(simp only [go_sem,Az,Aj,F0]<;>rfl))));(all_goals (rintro v m ⟨hR,hm⟩;subst hR;subst hm));(all_goals refine And.intro (by first|rfl|simp only [go_sem,Az,Aj,F0]) (And.intro (by first|rfl|simp only [go_sem,Az,Aj,F0]) ?_));(all_goals simp only [go_sem,Az,Aj,F0]);(all_goals repeat' (first|apply And.intro|intro _)))
  |(refine Zj (id:=13) mixed fun zE zhE=>?_;refine Cj (p:=0) 7 [36,37,38,39,40,41,42] [0,1,0,4,12,0,0,127,255,511,511,1023,4095] [] rfl (by kernel_rfl) rfl (by simp only [go_sem]) fun zR zK zhR zhK=>?_;simp only [go_sem,Az,Aj,F0];(repeat' (first|apply And.intro|intro _));(all_goals (refine Dv (fun k=>k) (.w (.agg (Aq nb))) [] (fun _ _=>rfl) ?_ (hN.plain fun _ _ h=>h) ?_ ?_;focus (first|rfl|(simp only [go_sem,Az,Aj,F0]<;>rfl))));(all_goals try (refine And.intro ?_ (And.intro ?_ (And.intro ?_ ?_))<;>first|rfl|simp only [go_sem]));(all_goals simp only [go_sem,Az,Aj,F0]);(all_goals repeat' (first|apply And.intro|intro _));refine zhK _ _ trivial (zhR _ ?_);refine Dw 2 9 rfl (by kernel_rfl) rfl rfl fun zR zhR=>?_;simp only [go_sem,Az,Aj,F0];(repeat' (first|apply And.intro|intro _));(all_goals (refine Dy false [] (fun k=>k) (fun _ _=>rfl) ?_ (by decide) ?_ hop ?_;iterate 2 (focus (first|rfl|(simp only [go_sem,Az,Aj,F0]<;>first|done|rfl|simp)))));(all_goals (rintro v m ⟨hR,hm⟩;subst hR;subst hm));(all_goals (refine And.intro ?_ (And.intro ?_ (And.intro ?_ ?_));iterate 3 (focus (first|rfl|(simp only [go_sem,Az,Aj,F0];done)|(simp [go_sem,look,Az,Aj,F0];done)))));(all_goals (try simp only [go_sem,Az,Aj,F0]));(all_goals (try simp only [go_sem,Az,Aj,F0]));(all_goals repeat' (first|apply And.intro|intro _));refine zhR _ ?_;refine Cj (p:=9) 12 [44,45,12] [0,1,0,4,12,0,0,127,255,511,511,1023,4095] [] rfl (by kernel_rfl) rfl (by simp only [go_sem]) fun zR zK zhR zhK=>?_;simp only [go_sem,Az,Aj,F0];(repeat' (first|apply And.intro|intro _));refine zhK _ _ trivial (zhR _ ?_);refine Dw 1 13 rfl (by kernel_rfl) rfl rfl fun zR zhR=>?_;simp only [go_sem,Az,Aj,F0];(repeat' (first|apply And.intro|intro _));refine zhR _ ?_;refine Hq rfl (zhE _ ?_))
  |refine Bq fun zN zM zhN zhM=>?_
  |(refine Bj ?_ ?_;focus (first|rfl|(simp [go_sem,Az,Aj,F0];done)))
  |(refine Bz ?_ ?_;focus (first|rfl|(simp [go_sem,Az,Aj,F0];done)))
theorem y1t (k:Nat) (hgo: ∀ vals w,(callFunc k vals).run Tryd.prog w=.ok (.enter k vals) w) (has:Bool) (key:List UInt8) (hk:key.length=32) (n:UInt64) (ad b:List UInt8) (ex1 ex2:Bool) (out:List UInt8) (e:Int) (hop:CtM Tryd.prog k [.w (.agg (Aq key)),.w (.agg (Aq (Ej n))),.w (.one (.pl (.R ex1 1 (Aw ad)))),.w (.one (.pl (.R ex2 1 (Aw b))))] [] (byV out e)):CtM Tryd.prog 13 [.w (.agg (Az has key n)),.w (.one (.fn k [])),.w (.one (.pl (.R ex1 1 (Aw ad)))),.w (.one (.pl (.R ex2 1 (Aw b))))] [] (l1z (c0e has key n b out e)):=by
 rcases Tk has key n with h|⟨rfl,rfl,rfl⟩|rfl
 · rw [c0e,if_pos h]
   exact (l1y k hgo has key hk n ad b ex1 ex2 h).told
 · rw [c0e,if_neg (by rw [Dk];decide),if_pos rfl]
   by_cases g:800<b.length
   · rw [if_pos g];exact (l1x k hgo ad b ex1 ex2 g).told
   · rw [if_neg g];exact (e1k k hgo ad b ex1 ex2 g).told
 · rw [c0e,if_neg (by rw [Aj];decide),if_neg (by decide)]
   by_cases g:n=18446744073709551615
   · rw [if_pos g];exact (e1j k hgo key hk n ad b ex1 ex2 g).told
   · rw [if_neg g]
     by_cases he:e=0
     · subst he;rw [if_pos rfl];exact (s1k k hgo key hk n ad b ex1 ex2 g out hop).told
     · rw [if_neg he];exact (l1w k hgo key hk n ad b ex1 ex2 g out e he hop).told
theorem a2p (has:Bool) (key:List UInt8) (hk:key.length=32) (n:UInt64) (ad b:List UInt8) (ex1 ex2:Bool) (out:List UInt8) (e:Int) (hop:CtM Tryd.prog 20 [.w (.agg (Aq key)),.w (.agg (Aq (Ej n))),.w (.one (.pl (.R ex1 1 (Aw ad)))),.w (.one (.pl (.R ex2 1 (Aw b))))] [] (byV out e)):CtM Tryd.prog 11 [.w (.one (.pl (.b false))),.w (.agg (Az has key n)),.w (.one (.pl (.R ex1 1 (Aw ad)))),.w (.one (.pl (.R ex2 1 (Aw b))))] [] (l1z (c0e has key n b out e)):=by
 rcases Tk has key n with h|⟨rfl,rfl,rfl⟩|rfl
 · rw [c0e,if_pos h]
   exact (a1a false has key hk n ad b ex1 ex2 h).told
 · rw [c0e,if_neg (by rw [Dk];decide),if_pos rfl]
   by_cases g:800<b.length
   · rw [if_pos g];exact (z0z false ad b ex1 ex2 g).told
   · rw [if_neg g];exact (t0k false ad b ex1 ex2 g).told
 · rw [c0e,if_neg (by rw [Aj];decide),if_neg (by decide)]
   by_cases g:n=18446744073709551615
   · rw [if_pos g];exact (t0j false key hk n ad b ex1 ex2 g).told
   · rw [if_neg g]
     by_cases he:e=0
     · subst he;rw [if_pos rfl];exact (g1h key hk n ad b ex1 ex2 g out hop).told
     · rw [if_neg he];exact (b1q key hk n ad b ex1 ex2 g out e he hop).told
theorem r1q (has:Bool) (key:List UInt8) (hk:key.length=32) (n:UInt64) (ad b:List UInt8) (ex1 ex2:Bool) (out:List UInt8) (e:Int) (hop:CtM Tryd.prog 18 [.w (.agg (Aq key)),.w (.agg (Aq (Ej n))),.w (.one (.pl (.R ex1 1 (Aw ad)))),.w (.one (.pl (.R ex2 1 (Aw b))))] [] (byV out e)):CtM Tryd.prog 11 [.w (.one (.pl (.b true))),.w (.agg (Az has key n)),.w (.one (.pl (.R ex1 1 (Aw ad)))),.w (.one (.pl (.R ex2 1 (Aw b))))] [] (l1z (c0e has key n b out e)):=by
 rcases Tk has key n with h|⟨rfl,rfl,rfl⟩|rfl
 · rw [c0e,if_pos h]
   exact (a1a true has key hk n ad b ex1 ex2 h).told
 · rw [c0e,if_neg (by rw [Dk];decide),if_pos rfl]
   by_cases g:800<b.length
   · rw [if_pos g];exact (z0z true ad b ex1 ex2 g).told
   · rw [if_neg g];exact (t0k true ad b ex1 ex2 g).told
 · rw [c0e,if_neg (by rw [Aj];decide),if_neg (by decide)]
   by_cases g:n=18446744073709551615
   · rw [if_pos g];exact (t0j true key hk n ad b ex1 ex2 g).told
   · rw [if_neg g]
     by_cases he:e=0
     · subst he;rw [if_pos rfl];exact (g1i key hk n ad b ex1 ex2 g out hop).told
     · rw [if_neg he];exact (b1r key hk n ad b ex1 ex2 g out e he hop).told
end Go.Sy
namespace Go.Sy
open Go.Proofs
attribute [local irreducible] Fz HT Cw Oj onC onE onO onG goV goA goS Qv Ey
theorem k0z {has:Bool} {key:List UInt8} {n:UInt64} {b out:List UInt8} {e:Int} (hk:key.length=32):(c0e has key n b out e).1.2.1.length=32:=by
 unfold c0e
 repeat' split
 all_goals first|exact Ay|exact hk
theorem Cz {has:Bool} {key:List UInt8} {n:UInt64} (hk:key.length=32):(Az has key n).length=34:=by simp [Az,Aq,hk]
theorem f1n {key nonce ad text:List UInt8}:(slV key nonce ad text).length=text.length+16:=by rw [slV,List.length_append,Ny,Ox]
theorem c2w (has:Bool) (key:List UInt8) (hk:key.length=32) (n:UInt64) (ad b:List UInt8) (ex1 ex2:Bool):
 CtM Tryd.prog 8 [.w (.agg (Az has key n)),.w (.one (.pl (.R ex1 1 (Aw ad)))),.w (.one (.pl (.R ex2 1 (Aw b))))] [] (Told (l1z (c0e has key n b (slB key (Ej n) ad b) (slE ad b)))):=by
 have hU:=y1t 14 (fun _ _=>rfl) has key hk n ad b ex1 ex2 _ _ (d2w key (Ej n) ad b hk (Gy n) ex1 ex2)
 have hl:(c0e has key n b (slB key (Ej n) ad b) (slE ad b)).1.2.1.length=32:=k0z hk
 obtain ⟨⟨⟨h2,k2,n2⟩,o2,e2⟩,hr⟩: ∃ r,c0e has key n b (slB key (Ej n) ad b) (slE ad b)=r:=⟨_,rfl⟩
 rw [hr] at hU hl
 rw [hr]
 simp only [l1z] at hU hl
 simp only [l1z]
 have hc1:=Cz (has:=has) (n:=n) hk
 have hc2:=Cz (has:=h2) (n:=n2) hl
 refine CtM.k Tryd.func8 rfl Tryd.ntmps8 (congrArg Array.toList Tryd.results8) (by simp) fun w0 ro may fx=>?_
 refine Dx fun zZ zhZ=>?_
 refine Dz fun zK zhK=>?_
 simp only [go_sem,hk,hl,Az]
 repeat' (first|apply And.intro|intro _)
 refine zhK _ ?_
 refine Dz fun zK zhK=>?_
 simp only [go_sem,hk,hl,Az]
 repeat' (first|apply And.intro|intro _)
 all_goals (refine Dy false [] (fun k=>k) (fun _ _=>rfl) ?_ (by decide) ?_ hU ?_;iterate 2 (focus (first|rfl|(simp only [go_sem,hk,hl,Az]<;>first|done|rfl|simp))))
 all_goals (rintro v m ⟨hR,hm⟩;subst hR;subst hm)
 all_goals (refine And.intro ?_ (And.intro ?_ (And.intro ?_ ?_));iterate 3 (focus (first|rfl|(simp only [go_sem,hk,hl,Az];done)|(simp [go_sem,look,hk,hl,Az];done))))
 all_goals (try simp only [go_sem,hk,hl,Az])
 all_goals (try simp only [go_sem,hk,hl,Az])
 all_goals repeat' (first|apply And.intro|intro _)
 refine zhK _ ?_
 refine Ck ?_
 refine zhZ _ _ ?_
 simp only [go_sem,hk,hl,Az]
 all_goals (exact c0r)
theorem c2x (has:Bool) (key:List UInt8) (hk:key.length=32) (n:UInt64) (ad b:List UInt8) (ex1 ex2:Bool) (hcap:b.length≤9223372036854775807):
 CtM Tryd.prog 10 [.w (.agg (Az has key n)),.w (.one (.pl (.R ex1 1 (Aw ad)))),.w (.one (.pl (.R ex2 1 (Aw b))))] [] (Told (l1z (c0e has key n b (Zq key (Ej n) ad b) (Rq key (Ej n) ad b)))):=by
 have hU:=y1t 16 (fun _ _=>rfl) has key hk n ad b ex1 ex2 _ _ (open_ key (Ej n) ad b hk (Gy n) ex1 ex2 hcap)
 have hl:(c0e has key n b (Zq key (Ej n) ad b) (Rq key (Ej n) ad b)).1.2.1.length=32:=k0z hk
 obtain ⟨⟨⟨h2,k2,n2⟩,o2,e2⟩,hr⟩: ∃ r,c0e has key n b (Zq key (Ej n) ad b) (Rq key (Ej n) ad b)=r:=⟨_,rfl⟩
 rw [hr] at hU hl
 rw [hr]
 simp only [l1z] at hU hl
 simp only [l1z]
 have hc1:=Cz (has:=has) (n:=n) hk
 have hc2:=Cz (has:=h2) (n:=n2) hl
 refine CtM.k Tryd.func10 rfl Tryd.ntmps10 (congrArg Array.toList Tryd.results10) (by simp) fun w0 ro may fx=>?_
 refine Dx fun zZ zhZ=>?_
 refine Dz fun zK zhK=>?_
 simp only [go_sem,hk,hl,Az]
 repeat' (first|apply And.intro|intro _)
 refine zhK _ ?_
 refine Dz fun zK zhK=>?_
 simp only [go_sem,hk,hl,Az]
 repeat' (first|apply And.intro|intro _)
 all_goals (refine Dy false [] (fun k=>k) (fun _ _=>rfl) ?_ (by decide) ?_ hU ?_;iterate 2 (focus (first|rfl|(simp only [go_sem,hk,hl,Az]<;>first|done|rfl|simp))))
 all_goals (rintro v m ⟨hR,hm⟩;subst hR;subst hm)
 all_goals (refine And.intro ?_ (And.intro ?_ (And.intro ?_ ?_));iterate 3 (focus (first|rfl|(simp only [go_sem,hk,hl,Az];done)|(simp [go_sem,look,hk,hl,Az];done))))
 all_goals (try simp only [go_sem,hk,hl,Az])
 all_goals (try simp only [go_sem,hk,hl,Az])
 all_goals repeat' (first|apply And.intro|intro _)
 refine zhK _ ?_
 refine Ck ?_
 refine zhZ _ _ ?_
 simp only [go_sem,hk,hl,Az]
 all_goals (exact c0r)
theorem f2f (s:List UInt8) (hs:s.length=32):
 Ct Tryd.prog 48 [.w (.one (.pl (.str s)))] (fun v m=>v=.w (.agg (Aq s))):=by
 have hm3:min 32 32=32:=rfl
 have htk:List.take 32 s=s:=List.take_of_length_le (by omega)
 have hd:List.drop 32 (List.replicate 32 (0:UInt8))=[]:=rfl
 have F0:=And.intro hs<|And.intro hm3<|And.intro htk<|hd
 refine Ct.k Tryd.func48 rfl Tryd.ntmps48 (congrArg Array.toList Tryd.results48) (by simp) fun w0 ro=>?_
 refine Dx fun zZ zhZ=>?_
 iterate 11 first
  |(refine Bq fun zN zM zhN zhM=>?_;refine s0n (id:=2) [4,5,6] (by simp only [go_sem]) fun zK zhK=>?_;simp only [go_sem,F0];(repeat' (first|apply And.intro|intro _)))
  |(refine Dz fun zK zhK=>?_;simp only [go_sem,F0];(repeat' (first|apply And.intro|intro _)))
  |refine zhK _ ?_
  |refine zhK _ _ ?_
  |(refine zhN _ ?_;clear zhN zhM)
  |refine Ck ?_
  |(refine zhZ _ _ ?_;simp only [go_sem,F0];(all_goals (rfl)))
end Go.Sy
