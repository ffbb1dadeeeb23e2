/- Walks and what they compute. CONDITIONS: those that each theorem names. -/
import Derived.Test.YtlmbdhfkdhjcfaaDoorvS5
import Derived.Test.YtlmbdhfkdhjcfaaDoorvS9
set_option linter.unusedVariables false
set_option linter.unusedSimpArgs false
set_option maxHeartbeats 3200000
set_option maxRecDepth 100000
namespace Go.Sy
namespace Bk
open Go.Proofs
attribute [local irreducible] Dv HT Cz Px onC onE onO onG goV goA goS Qx Dw
def nest (ls:List (Bool×List UInt8)):List (List PL):=ls.map fun x=>[PL.R x.1 1 (Ej x.2)]
def a0i (ls:List (Bool×List UInt8)):List UInt8:=ls.flatMap (·.2)
theorem Jv (ls:List (Bool×List UInt8)):(nest ls).length=ls.length:=by simp [nest]
theorem p0s {ls:List (Bool×List UInt8)} {i:Nat} (h:i<ls.length):(nest ls).getD i []=[PL.R (ls[i]).1 1 (Ej (ls[i]).2)]:=by
 simp [nest,List.getD,List.getElem?_eq_getElem h]
theorem i0f {ls:List (Bool×List UInt8)} {i:Nat} (h:i<ls.length):a0i (ls.take (i+1))=a0i (ls.take i)++(ls[i]).2:=by
 rw [List.take_succ_eq_append_getElem h,a0i,List.flatMap_append];simp [a0i]
theorem q0d {ls:List (Bool×List UInt8)} {i:Nat}:(a0i (ls.take i)).length≤(a0i ls).length:=by
 conv=>rhs;rw [←List.take_append_drop i ls]
 rw [a0i,a0i,List.flatMap_append,List.length_append];omega
def cV (j:Nat) (l:List UInt8):V:=if l=[] then .w (.one (.pl (.R true 1 []))) else .w (.one (.s j [] l.length 1))
def cM (j:Nat) (l:List UInt8):List (Nat×Ob):=if l=[] then [] else [(j,⟨true,Az l⟩)]
theorem t0u (j:Nat):cV j []=.w (.one (.pl (.R true 1 []))):=if_pos rfl
theorem t0v (j:Nat):cM j []=[]:=if_pos rfl
theorem o1k (j:Nat) {l:List UInt8} (h:l≠[]):cV j l=.w (.one (.s j [] l.length 1)):=if_neg h
theorem o1l (j:Nat) {l:List UInt8} (h:l≠[]):cM j l=[(j,⟨true,Az l⟩)]:=if_neg h
def ownB (l:List UInt8) (v:V) (m:List (Nat×Ob)):Prop:=v=.w (.one (.s 0 [] l.length 1))∧m=[(0,⟨true,Az l⟩)]
theorem l1g {m:List (Nat×Ob)} {j n:Nat} {l:List UInt8} (hn:n=l.length) (h:look m j=some ⟨true,Az l⟩) (hj:j<500000:=by decide):Told (ownB l) (.w (.one (.s j [] n 1))) m:=
 c0j ⟨only j,.w (.one (.s 0 [] l.length 1)),[(0,⟨true,Az l⟩)],by rw [hn];rfl,z0w h hj,rfl,rfl⟩
theorem len0 {l:List UInt8} (h:l≠[]):¬l.length=0:=fun e=>h (List.eq_nil_of_length_eq_zero e)
theorem w1m (ls:List (Bool×List UInt8)) (ex:Bool) (hne:a0i ls≠[]) (hl:(a0i ls).length≤140737488355328) (hn:ls.length≤4096):
 CtM Tryd.prog 45 [.w (.one (.pl (.R ex 1 (nest ls))))] [] (Told (ownB (a0i ls))):=by
 refine CtM.k Tryd.func45 rfl Tryd.ntmps45 (congrArg Array.toList Tryd.results45) (by simp) fun w0 ro may fx=>?_
 refine Dj fun zZ zhZ=>?_
 iterate 8 first
  |(refine Cx fun zK zhK=>?_;simp only [go_sem,Jv];(repeat' (first|apply And.intro|intro _)))
  |refine zhK _ ?_
  |refine Aj fun zB zbn zbx zbr zbi=>?_
  |refine Bz fun zN zM zhN zhM=>?_
 refine Gv [0] ?_
 simp only [Gj,Iq,Gq,List.contains_cons,List.contains_nil,Nat.reduceBEq,beq_self_eq_true,Bool.or_false,Bool.or_true,Bool.true_or,Bool.false_or,Bool.false_eq_true,reduceIte]
 refine Jz (fun y=>[(3,cV 14 y.1.2),(8,.w (.one (.pl (.i ((y.1.1:Nat):Int)))))]) (fun y=>cM 14 y.1.2) (fun y=>ls.length-y.1.1) (⟨(0,[]),Nat.zero_le _,rfl⟩:{y:Nat×List UInt8//y.1≤ls.length∧y.2=a0i (ls.take y.1)}) ?_ ?_ ?_
 · (simp only [t0u,t0v,go_sem,leX,List.cons_append,List.nil_append];try simp)
 · (simp only [t0u,t0v,go_sem,leX,List.cons_append,List.nil_append];try simp)
 intro yy zN zM zhN zhM
 simp only [List.cons_append,List.nil_append]
 obtain ⟨⟨i,q⟩,hi,hq⟩:=yy
 simp only at hi hq
 have hd:(∃ (h:i<ls.length),q=[]∧(ls[i]).2=[])∨(∃ (h:i<ls.length),q=[]∧(ls[i]).2≠[])∨(i<ls.length∧q≠[])∨i=ls.length:=by
  by_cases e1:i=ls.length
  · exact .inr (.inr (.inr e1))
  · have e3:i<ls.length:=by omega
    by_cases e2:q=[]
    · by_cases e4:(ls[i]).2=[]
      · exact .inl ⟨e3,e2,e4⟩
      · exact .inr (.inl ⟨e3,e2,e4⟩)
    · exact .inr (.inr (.inl ⟨e3,e2⟩))
 rcases hd with ⟨hlt,rfl,hb0⟩|⟨hlt,rfl,hb0⟩|⟨hlt,hq0⟩|rfl
 · have hcq:((i:Nat):Int)<((ls.length:Nat):Int):=by omega
   have hc0:(0:Int)≤((i:Nat):Int):=by omega
   have hg0:=p0s hlt
   have hsn:=i0f hlt
   have hle:=q0d (ls:=ls) (i:=i+1)
   obtain ⟨⟨ex1,b⟩,hb⟩: ∃ x,ls[i]=x:=⟨_,rfl⟩
   rw [hb] at hg0 hsn
   simp only at hg0 hsn
   rw [hsn,List.length_append] at hle
   rw [←hq] at hsn hle
   rw [hb] at hb0
   simp only at hb0
   subst hb0
   simp only [t0u,t0v]
   have hs1:Go.RowKit.wrap64 (((i:Nat):Int)+1)=((i+1:Nat):Int):=Ny (by omega) (by omega)
   have F6:=And.intro hcq<|And.intro hc0<|And.intro hg0<|hs1
   iterate 16 first
    |refine zhK _ ?_
    |(refine Cx fun zK zhK=>?_;simp only [go_sem,Jv,F6];(repeat' (first|apply And.intro|intro _)))
    |(refine zhN _ ?_;clear zhN zhM)
    |(refine Av fun zK zhK=>?_;simp only [go_sem,Jv,F6];(repeat' (first|apply And.intro|intro _)))
    |refine Cw ?_
    |refine Aj fun zB zbn zbx zbr zbi=>?_
    |(refine zbn _ ?_;clear zbn zbx zbr zbi)
    |refine Bz fun zN zM zhN zhM=>?_
    |(refine Bv ?_ ?_;focus (first|rfl|(simp [go_sem,Jv,F6];done)))
   refine zhN ⟨(i+1,[]),hlt,by rw [hsn];rfl⟩ _ ?_ ?_ ?_
   · (exact Nat.sub_lt_sub_left hlt (Nat.lt_succ_self i))
   · (simp only [t0u,List.length_append,go_sem,leX,List.cons_append,List.nil_append];(try simp);try rfl)
   · (simp only [t0v,List.length_append,go_sem,leX,List.cons_append,List.nil_append];(try simp);try rfl)
 · have hcq:((i:Nat):Int)<((ls.length:Nat):Int):=by omega
   have hc0:(0:Int)≤((i:Nat):Int):=by omega
   have hg0:=p0s hlt
   have hsn:=i0f hlt
   have hle:=q0d (ls:=ls) (i:=i+1)
   obtain ⟨⟨ex1,b⟩,hb⟩: ∃ x,ls[i]=x:=⟨_,rfl⟩
   rw [hb] at hg0 hsn
   simp only at hg0 hsn
   rw [hsn,List.length_append] at hle
   rw [←hq] at hsn hle
   rw [hb] at hb0
   simp only at hb0
   simp only [t0u,t0v]
   have hbl:=len0 hb0
   have hle2:b.length≤140737488355328:=by clear hcq;simp only [List.length_nil] at hle;omega
   have hs1:Go.RowKit.wrap64 (((i:Nat):Int)+1)=((i+1:Nat):Int):=Ny (by omega) (by omega)
   have F13:=And.intro hcq<|And.intro hc0<|And.intro hg0<|And.intro hs1<|And.intro hbl<|hle2
   iterate 16 first
    |refine zhK _ ?_
    |(refine Cx fun zK zhK=>?_;simp only [go_sem,Jv,F13];(repeat' (first|apply And.intro|intro _)))
    |(refine zhN _ ?_;clear zhN zhM)
    |(refine Av fun zK zhK=>?_;simp only [go_sem,Jv,F13];(repeat' (first|apply And.intro|intro _)))
    |refine Cw ?_
    |refine Aj fun zB zbn zbx zbr zbi=>?_
    |(refine zbn _ ?_;clear zbn zbx zbr zbi)
    |refine Bz fun zN zM zhN zhM=>?_
    |(refine Bv ?_ ?_;focus (first|rfl|(simp [go_sem,Jv,F13];done)))
   refine zhN ⟨(i+1,b),hlt,by rw [hsn];rfl⟩ _ ?_ ?_ ?_
   · (exact Nat.sub_lt_sub_left hlt (Nat.lt_succ_self i))
   · (simp only [o1k 14 hb0,List.length_append,go_sem,leX,List.cons_append,List.nil_append];(try simp);try rfl)
   · (simp only [o1l 14 hb0,List.length_append,go_sem,leX,List.cons_append,List.nil_append];(try simp);try rfl)
 · have hcq:((i:Nat):Int)<((ls.length:Nat):Int):=by omega
   have hc0:(0:Int)≤((i:Nat):Int):=by omega
   have hg0:=p0s hlt
   have hsn:=i0f hlt
   have hle:=q0d (ls:=ls) (i:=i+1)
   obtain ⟨⟨ex1,b⟩,hb⟩: ∃ x,ls[i]=x:=⟨_,rfl⟩
   rw [hb] at hg0 hsn
   simp only at hg0 hsn
   rw [hsn,List.length_append] at hle
   rw [←hq] at hsn hle
   simp only [o1k 14 hq0,o1l 14 hq0]
   have hqb:q++b≠[]:=fun e=>hq0 (List.append_eq_nil_iff.mp e).1
   have hle2:q.length+b.length≤140737488355328:=by omega
   have hs1:Go.RowKit.wrap64 (((i:Nat):Int)+1)=((i+1:Nat):Int):=Ny (by omega) (by omega)
   have F20:=And.intro hcq<|And.intro hc0<|And.intro hg0<|And.intro hs1<|hle2
   iterate 16 first
    |refine zhK _ ?_
    |(refine Cx fun zK zhK=>?_;simp only [go_sem,Jv,F20];(repeat' (first|apply And.intro|intro _)))
    |(refine zhN _ ?_;clear zhN zhM)
    |(refine Av fun zK zhK=>?_;simp only [go_sem,Jv,F20];(repeat' (first|apply And.intro|intro _)))
    |refine Cw ?_
    |refine Aj fun zB zbn zbx zbr zbi=>?_
    |(refine zbn _ ?_;clear zbn zbx zbr zbi)
    |refine Bz fun zN zM zhN zhM=>?_
    |(refine Bv ?_ ?_;focus (first|rfl|(simp [go_sem,Jv,F20];done)))
   refine zhN ⟨(i+1,q++b),hlt,hsn.symm⟩ _ ?_ ?_ ?_
   · (exact Nat.sub_lt_sub_left hlt (Nat.lt_succ_self i))
   · (simp only [o1k 14 hqb,List.length_append,go_sem,leX,List.cons_append,List.nil_append];(try simp);try rfl)
   · (simp only [o1l 14 hqb,List.length_append,go_sem,leX,List.cons_append,List.nil_append];(try simp);try rfl)
 · rw [List.take_length] at hq
   subst hq
   simp only [o1k 14 hne,o1l 14 hne]
   have hcq:¬((ls.length:Nat):Int)<((ls.length:Nat):Int):=by omega
   iterate 13 first
    |(refine Cx fun zK zhK=>?_;simp only [go_sem,Jv,hcq];(repeat' (first|apply And.intro|intro _)))
    |refine zhK _ ?_
    |(refine zhM _ _ ?_;clear zhN zhM)
    |refine Ey ?_
    |(refine zbx _ ?_;clear zbn zbx zbr zbi)
    |(refine zhN _ ?_;clear zhN zhM)
    |refine Dx ?_
    |(refine zhZ _ _ ?_;simp only [go_sem,Jv,hcq];(all_goals (exact l1g rfl rfl)))
    |refine Bz fun zN zM zhN zhM=>?_
    |(refine Cy ?_ ?_;focus (first|rfl|(simp [go_sem,Jv,hcq];done)))
end Bk
end Go.Sy
namespace Go.Sy
namespace Bk
open Go.Proofs
attribute [local irreducible] Dv HT Cz Px onC onE onO onG goV goA goS Qx Dw
def d2z (l:List UInt8) (v:V) (m:List (Nat×Ob)):Prop:=v=.w (.one (.s 0 [(0,32)] 32 1))∧m=[(0,⟨false,Az l⟩)]
theorem e1x {m:List (Nat×Ob)} {j:Nat} {l:List UInt8} (h:look m j=some ⟨false,Az l⟩) (hj:j<500000:=by decide):Told (d2z l) (.w (.one (.s j [(0,32)] 32 1))) m:=
 c0j ⟨only j,.w (.one (.s 0 [(0,32)] 32 1)),[(0,⟨false,pls (l.map .u8)⟩)],rfl,z0x (by rw [Xv];exact h) hj,rfl,by rw [Xv]⟩
theorem b1o {l:List UInt8} {n:Nat} (h:l.length=n):chunks 1 n (l.map PL.u8)=Ej l:=by subst h;exact d0g l
theorem b1m (x y:PL):chunks 1 2 [x,y]=[[x],[y]]:=rfl
theorem b1n (x:PL):chunks 1 1 [x]=[[x]]:=rfl
attribute [go_sem] b1o b1m b1n
theorem k0t (n:Nat):(List.replicate n [L.pl (PL.u8 0)]).flatten=Az (List.replicate n 0):=by
 induction n with
 |zero=>rfl
 |succ n ih=>rw [List.replicate_succ,List.flatten_cons,ih,List.replicate_succ];rfl
theorem t1l (ls:List (Bool×List UInt8)) (ex:Bool) (hne:a0i ls≠[]) (hl:(a0i ls).length≤140737488355328) (hn:ls.length≤4096):
 CtM Tryd.prog 60 [.w (.one (.pl (.R ex 1 (nest ls))))] [(1000003,⟨false,[.pl (.u32 1779033703),.pl (.u32 3144134277),.pl (.u32 1013904242),.pl (.u32 2773480762),.pl (.u32 1359893119),.pl (.u32 2600822924),.pl (.u32 528734635),.pl (.u32 1541459225)]⟩),(1000004,⟨false,i0r⟩)] (Told (d2z (Yk (a0i ls)))):=by
 have hkl:=Iz (a0i ls)
 refine CtM.k Tryd.func60 rfl Tryd.ntmps60 (congrArg Array.toList Tryd.results60) (by simp) fun w0 ro may fx=>?_
 refine Dj fun zZ zhZ=>?_
 refine Cx fun zK zhK=>?_
 simp only [go_sem,hkl]
 repeat' (first|apply And.intro|intro _)
 refine zhK _ ?_
 refine Cx fun zK zhK=>?_
 simp only [go_sem,hkl]
 repeat' (first|apply And.intro|intro _)
 all_goals (refine Bq false [] (fun _=>5) (fun _ _=>rfl) ?_ (by decide) ?_ (w1m ls ex hne hl hn).told ?_;iterate 2 (focus (first|rfl|(simp only [go_sem,hkl]<;>first|done|rfl|simp))))
 all_goals (rintro v m ⟨hR,hm⟩;subst hR;subst hm)
 all_goals (refine And.intro ?_ (And.intro ?_ (And.intro ?_ ?_));iterate 3 (focus (first|rfl|(simp only [go_sem,hkl];done)|(simp [go_sem,look,hkl];done))))
 all_goals (try simp only [go_sem,hkl])
 all_goals (try simp only [go_sem,hkl])
 all_goals repeat' (first|apply And.intro|intro _)
 all_goals (refine Bq true [] (fun k=>k) (fun _ _=>rfl) ?_ (by decide) ?_ (y0b (a0i ls) (Nat.le_trans hl (by decide)) false).told ?_;iterate 2 (focus (first|rfl|(simp only [go_sem,hkl]<;>first|done|rfl|simp))))
 all_goals (rintro v m ⟨hR,hm⟩;subst hR;subst hm)
 all_goals (refine And.intro ?_ (And.intro ?_ (And.intro ?_ ?_));iterate 3 (focus (first|rfl|(simp only [go_sem,hkl];done)|(simp [go_sem,look,hkl];done))))
 all_goals (try simp only [go_sem,hkl])
 all_goals (try simp only [go_sem,hkl])
 all_goals repeat' (first|apply And.intro|intro _)
 refine zhK _ ?_
 refine Cx fun zK zhK=>?_
 simp only [go_sem,hkl]
 repeat' (first|apply And.intro|intro _)
 refine zhK _ ?_
 refine Dx ?_
 refine zhZ _ _ ?_
 simp only [go_sem,hkl]
 all_goals (exact e1x rfl)
theorem y0r (n:Nat) (hn:n≤4096):
 Ct Tryd.prog 52 [.w (.one (.pl (.i ((n:Nat):Int))))] (fun v m=>v=.w (.one (.pl (.str (List.replicate n 0))))):=by
 have h1:(0:Int)≤((n:Nat):Int)∧((n:Nat):Int)≤281474976710656:=by omega
 have h2:((n:Nat):Int).toNat=n:=Int.toNat_natCast n
 refine Ct.k Tryd.func52 rfl Tryd.ntmps52 (congrArg Array.toList Tryd.results52) (by simp) fun w0 ro=>?_
 refine Dj fun zZ zhZ=>?_
 iterate 6 first
  |(refine Cx fun zK zhK=>?_;simp only [go_sem,h1,h2,k0t,Int.one_mul];(repeat' (first|apply And.intro|intro _)))
  |refine zhK _ ?_
  |refine Dx ?_
  |(refine zhZ _ _ ?_;simp only [go_sem,h1,h2,k0t,Int.one_mul];(all_goals rfl))
end Bk
end Go.Sy
namespace Go.Sy
namespace Bk
open Go.Proofs
attribute [local irreducible] Dv HT Cz Px onC onE onO onG goV goA goS Qx Dw
def e0f (c:UInt8) (l:List UInt8) (i:Nat):List UInt8:=(l.take i).map (· ^^^c)++l.drop i
section
variable {c:UInt8} {l:List UInt8} {i:Nat}
theorem Ox :(e0f c l i).length=l.length:=by simp [e0f];omega
theorem f0m :e0f c l 0=l:=rfl
theorem f0n (h:i<l.length):(e0f c l i).getD i 0=l.getD i 0:=by
 rw [e0f,List.getD,List.getElem?_append_right (by rw [List.length_map,List.length_take];omega),List.getD]
 simp only [List.length_map,List.length_take,List.getElem?_drop]
 congr 2;omega
theorem c1t :(e0f c l i).take i=(l.take i).map (· ^^^c):=by
 by_cases h:i≤l.length
 · rw [e0f,List.take_append_of_le_length (by rw [List.length_map,List.length_take];omega),List.take_of_length_le (by rw [List.length_map,List.length_take];omega)]
 · rw [e0f,List.drop_of_length_le (by omega),List.append_nil,List.take_of_length_le (by rw [List.length_map,List.length_take];omega)]
theorem c1u :(e0f c l i).drop (i+1)=l.drop (i+1):=by
 by_cases h:i≤l.length
 · have hl:((l.take i).map (· ^^^c)).length=i:=by simp;omega
   rw [e0f,List.drop_append,List.drop_of_length_le (by omega),List.nil_append,List.drop_drop,hl]
   congr 1;omega
 · rw [List.drop_of_length_le (by rw [Ox];omega),List.drop_of_length_le (by omega)]
theorem Vz (h:i<l.length):Az ((e0f c l i).take i)++[L.pl (PL.u8 (l.getD i 0^^^c))]++Az ((e0f c l i).drop (i+1))=Az (e0f c l (i+1)):=by
 have e:l.take (i+1)=l.take i++[l.getD i 0]:=by
  rw [List.take_succ_eq_append_getElem h];simp [List.getD,List.getElem?_eq_getElem h]
 rw [c1t,c1u,e0f,e]
 simp [Az]
theorem Zw (h:l.length=i):e0f c l i=l.map (· ^^^c):=by rw [e0f,List.take_of_length_le (by omega),List.drop_of_length_le (by omega),List.append_nil]
end
def u0l (k:List UInt8):List UInt8:=if 64<k.length then Yk k else k
theorem h0y (k:List UInt8):(u0l k).length≤64:=by
 unfold u0l
 split
 · rw [Iz];omega
 · omega
def f0k (k b:List UInt8):List UInt8:=Yk ((Ov (u0l k)).map (· ^^^92)++Yk ((Ov (u0l k)).map (· ^^^54)++b))
theorem Xq (k b:List UInt8):(f0k k b).length=32:=Iz _
theorem Jq (e1 e2:Bool) (x y:List UInt8):a0i [(e1,x),(e2,y)]=x++y:=by simp [a0i]
theorem q0c (e1:Bool) (x:List UInt8):a0i [(e1,x)]=x:=by simp [a0i]
theorem f1l (k b:List UInt8) (exk ex:Bool) (hk:k.length≤140737488351232) (hb:b.length≤140737488351232) (h64:¬64<k.length):
 CtM Tryd.prog 44 [.w (.one (.pl (.R exk 1 (Ej k)))),.w (.one (.pl (.R ex 1 (Ej b))))] [(1000003,⟨false,[.pl (.u32 1779033703),.pl (.u32 3144134277),.pl (.u32 1013904242),.pl (.u32 2773480762),.pl (.u32 1359893119),.pl (.u32 2600822924),.pl (.u32 528734635),.pl (.u32 1541459225)]⟩),(1000004,⟨false,i0r⟩)] (Told (fun v m=>v=.w (.agg (Az (f0k k b)))∧m=[])):=by
 have hlk:¬(64:Int)<((k.length:Nat):Int):=by omega
 obtain ⟨p,hpk⟩: ∃ p,Ov (u0l k)=p:=⟨_,rfl⟩
 have hmk:u0l k=k:=by rw [u0l,if_neg h64]
 have hp:p.length=64:=by rw [←hpk];exact Gx (h0y k)
 have hbp:Az k++Az (List.replicate (64-k.length) 0)=Az p:=by rw [←hpk,hmk,Ov];simp [Az]
 have hmi:min k.length 64=k.length:=by omega
 have hmi2:min 64 k.length=k.length:=by omega
 have htk:List.take k.length k=k:=List.take_length
 have hdz:List.drop k.length (List.replicate 64 (0:UInt8))=List.replicate (64-k.length) 0:=List.drop_replicate
 have hk64:k.length≤64:=by omega
 have F0:=And.intro hlk<|And.intro hp<|And.intro hbp<|And.intro hmi<|And.intro hmi2<|And.intro htk<|And.intro hdz<|hk64
 refine CtM.k Tryd.func44 rfl Tryd.ntmps44 (congrArg Array.toList Tryd.results44) (by simp) fun w0 ro may fx=>?_
 refine Dj fun zZ zhZ=>?_
 refine Cx fun zK zhK=>?_
 simp only [go_sem,F0]
 repeat' (first|apply And.intro|intro _)
 refine zhK _ ?_
 refine Bz fun zN zM zhN zhM=>?_
 iterate 7 first
  |(refine Cx fun zK zhK=>?_;simp only [go_sem,F0];(repeat' (first|apply And.intro|intro _)))
  |refine zhK _ ?_
  |refine Cw ?_
  |(refine zhN _ ?_;clear zhN zhM)
  |(refine Cy ?_ ?_;focus (first|rfl|(simp [go_sem,F0];done)))
 refine Bz fun zN zM zhN zhM=>?_
 refine n0o (id:=4) [14,15,16] (by simp only [go_sem]) fun zK zhK=>?_
 simp only [go_sem,F0]
 repeat' (first|apply And.intro|intro _)
 refine zhK _ _ ?_
 refine zhN _ ?_;clear zhN zhM
 refine Bz fun zN zM zhN zhM=>?_
 refine n0o (id:=5) [17,18,19] (by simp only [go_sem]) fun zK zhK=>?_
 simp only [go_sem,F0]
 repeat' (first|apply And.intro|intro _)
 refine zhK _ _ ?_
 refine zhN _ ?_;clear zhN zhM
 refine Bz fun zN zM zhN zhM=>?_
 refine Cx fun zK zhK=>?_
 simp only [go_sem,F0]
 repeat' (first|apply And.intro|intro _)
 refine zhK _ ?_
 refine Aj fun zB zbn zbx zbr zbi=>?_
 refine Gv [0,8,9,10,11,12,13,14,15,16,17,18,19] ?_
 simp only [Gj,Iq,Gq,List.contains_cons,List.contains_nil,Nat.reduceBEq,beq_self_eq_true,Bool.or_false,Bool.or_true,Bool.true_or,Bool.false_or,Bool.false_eq_true,reduceIte]
 refine Jz (fun y=>[(20,.w (.one (.pl (.i ((y.1:Nat):Int)))))]) (fun y=>[(6,⟨false,Az (e0f 92 p y.1)⟩),(5,⟨false,Az (e0f 54 p y.1)⟩)]) (fun y=>64-y.1) (⟨0,Nat.zero_le _⟩:{y:Nat//y≤64}) ?_ ?_ ?_
 · (simp only [go_sem,leX,List.cons_append,List.nil_append];try simp)
 · (simp only [f0m,go_sem,leX,List.cons_append,List.nil_append];try simp)
 intro ⟨i,hi⟩ zN zM zhN zhM
 simp only [List.cons_append,List.nil_append]
 rcases Nat.lt_or_ge i 64 with hlt|hge
 · have hcq:((i:Nat):Int)<64:=by omega
   have hc0:(0:Int)≤((i:Nat):Int)∧i+1≤64:=by omega
   have hxl:=Ox (c:=54) (l:=p) (i:=i)
   have hyl:=Ox (c:=92) (l:=p) (i:=i)
   rw [hp] at hxl hyl
   have hx1:=Mj (q:=e0f 54 p i) (i:=i) (by omega)
   have hy1:=Mj (q:=e0f 92 p i) (i:=i) (by omega)
   rw [f0n (by omega)] at hx1 hy1
   have hxs:=Vz (c:=54) (l:=p) (i:=i) (by omega)
   have hys:=Vz (c:=92) (l:=p) (i:=i) (by omega)
   have hs1:Go.RowKit.wrap64 (((i:Nat):Int)+1)=((i+1:Nat):Int):=Ny (by omega) (by omega)
   have F12:=And.intro hcq<|And.intro hc0<|And.intro hxl<|And.intro hyl<|And.intro hx1<|And.intro hy1<|And.intro hxs<|And.intro hys<|hs1
   iterate 18 first
    |refine zhK _ ?_
    |(refine Cx fun zK zhK=>?_;simp only [go_sem,F0,Ay,F12];(repeat' (first|apply And.intro|intro _)))
    |(refine zhN _ ?_;clear zhN zhM)
    |(refine Av fun zK zhK=>?_;simp only [go_sem,F0,Ay,F12];(repeat' (first|apply And.intro|intro _)))
    |refine Cw ?_
    |refine Aj fun zB zbn zbx zbr zbi=>?_
    |(refine zbn _ ?_;clear zbn zbx zbr zbi)
    |refine Bz fun zN zM zhN zhM=>?_
    |(refine Bv ?_ ?_;focus (first|rfl|(simp [go_sem,F0,Ay,F12];done)))
   refine zhN ⟨i+1,hlt⟩ _ ?_ ?_ ?_
   · (exact Nat.sub_lt_sub_left hlt (Nat.lt_succ_self i))
   · (simp only [go_sem,leX,List.cons_append,List.nil_append];try simp)
   · (simp only [go_sem,leX,List.cons_append,List.nil_append];try simp)
 · obtain rfl:i=64:=by omega
   have hcq:¬((64:Nat):Int)<64:=by omega
   have hx:=Zw (c:=54) hp
   have hy:=Zw (c:=92) hp
   obtain ⟨px,hpx⟩: ∃ q,p.map (· ^^^(54:UInt8))=q:=⟨_,rfl⟩
   obtain ⟨py,hpy⟩: ∃ q,p.map (· ^^^(92:UInt8))=q:=⟨_,rfl⟩
   have hpxl:px.length=64:=by rw [←hpx,List.length_map,hp]
   have hpyl:py.length=64:=by rw [←hpy,List.length_map,hp]
   rw [hpx] at hx
   rw [hpy] at hy
   have hmac:f0k k b=Yk (py++Yk (px++b)):=by rw [f0k,hpk,hpx,hpy]
   simp only [hx,hy]
   have hkl:=Iz (px++b)
   have hS1:=t1l [(false,px),(ex,b)] false (by rw [Jq];intro e;have:=congrArg List.length e;rw [List.length_append,hpxl,List.length_nil] at this;omega) (by rw [Jq,List.length_append];omega) (by simp)
   rw [Jq] at hS1
   have hC1:=w1m [(false,py),(false,Yk (px++b))] false (by rw [Jq];intro e;have:=congrArg List.length e;rw [List.length_append,hpyl,List.length_nil] at this;omega) (by rw [Jq,List.length_append,hkl];omega) (by simp)
   rw [Jq] at hC1
   have hF1:=y0b (py++Yk (px++b)) (by rw [List.length_append,hkl];omega) false
   have hal:(py++Yk (px++b)).length=96:=by rw [List.length_append,hkl,hpyl]
   obtain ⟨z,hz⟩: ∃ z,py++Yk (px++b)=z:=⟨_,rfl⟩
   rw [hz] at hC1 hF1 hal hmac
   have hkz:=Iz z
   have F20:=And.intro hcq<|And.intro hpxl<|And.intro hpyl<|And.intro hkl<|And.intro hal<|hkz
   refine Cx fun zK zhK=>?_
   simp only [go_sem,F0,nest,F20]
   repeat' (first|apply And.intro|intro _)
   refine zhK _ ?_
   refine Bz fun zN zM zhN zhM=>?_
   (refine Cy ?_ ?_;focus (first|rfl|(simp [go_sem,F0,nest,F20];done)))
   refine Ey ?_
   refine zhM _ _ ?_;clear zhN zhM
   refine zhM _ _ ?_;clear zhN zhM
   refine zbx _ ?_;clear zbn zbx zbr zbi
   refine zhN _ ?_;clear zhN zhM
   refine Bz fun zN zM zhN zhM=>?_
   refine b0s (id:=12) mixed fun zE zhE=>?_
   refine Ck (p:=0) 5 [34,35,36,37,38] [0,0,0,6,14,31,63,127,255] [] rfl (by kernel_rfl) rfl (by simp only [go_sem]) fun zR zK zhR zhK=>?_
   simp only [go_sem,F0,nest,F20]
   repeat' (first|apply And.intro|intro _)
   all_goals (refine Tv rfl (fun _=>38) (.w (.one (.s 0 [(0,32)] 32 1))) [(0,⟨false,Az (Yk (px++b))⟩)] (fun _ _=>rfl) ?_ ?_ ?_ hS1.told ?_ ?_;(iterate 2 (focus (first|rfl|(simp only [go_sem,F0,nest,F20]<;>first|done|rfl|simp))));(first|kernel_rfl|rfl|simp [Qv,Qk,pls]))
   all_goals try (refine And.intro ?_ (And.intro ?_ (And.intro ?_ ?_))<;>(first|rfl|(simp only [go_sem,F0,nest,F20];done)|(simp [go_sem,look,F0,nest,F20];done)))
   all_goals (try simp only [go_sem,F0,nest,F20])
   all_goals (try simp only [go_sem,F0,nest,F20])
   all_goals repeat' (first|apply And.intro|intro _)
   refine zhK _ _ trivial (zhR _ ?_)
   refine Dk 4 9 rfl (by kernel_rfl) rfl rfl fun zR zhR=>?_
   simp only [go_sem,F0,nest,F20]
   repeat' (first|apply And.intro|intro _)
   all_goals (refine g0w (fun _=>40) (fun _ _=>rfl) ?_ ?_ hC1.told ?_;iterate 2 (focus (first|rfl|(simp only [go_sem,F0,nest,F20]<;>first|done|rfl|simp))))
   all_goals (rintro v m ⟨hR,hm⟩;subst hR;subst hm)
   all_goals (refine And.intro ?_ (And.intro ?_ ?_);iterate 2 (focus (first|rfl|(simp only [go_sem,F0,nest,F20];done)|(simp [go_sem,look,F0,nest,F20];done))))
   all_goals (try simp only [go_sem,F0,nest,F20])
   all_goals (try simp only [go_sem,F0,nest,F20])
   all_goals repeat' (first|apply And.intro|intro _)
   all_goals (refine Bq true [] (fun k=>k) (fun _ _=>rfl) ?_ (by decide) ?_ hF1.told ?_;iterate 2 (focus (first|rfl|(simp only [go_sem,F0,nest,F20]<;>first|done|rfl|simp))))
   all_goals (rintro v m ⟨hR,hm⟩;subst hR;subst hm)
   all_goals (refine And.intro ?_ (And.intro ?_ (And.intro ?_ ?_));iterate 3 (focus (first|rfl|(simp only [go_sem,F0,nest,F20];done)|(simp [go_sem,look,F0,nest,F20];done))))
   all_goals (try simp only [go_sem,F0,nest,F20])
   all_goals (try simp only [go_sem,F0,nest,F20])
   all_goals repeat' (first|apply And.intro|intro _)
   refine zhR _ ?_
   refine Jy rfl (zhE _ ?_)
   refine zhN _ ?_;clear zhN zhM
   refine Dx ?_
   refine zhZ _ _ ?_
   simp only [go_sem,F0,nest,F20]
   all_goals (rw [hmac];exact told_plain (Sv _) ⟨rfl,rfl⟩)
theorem m1a (k b:List UInt8) (exk ex:Bool) (hk:k.length≤140737488351232) (hb:b.length≤140737488351232) (h64:64<k.length):
 CtM Tryd.prog 44 [.w (.one (.pl (.R exk 1 (Ej k)))),.w (.one (.pl (.R ex 1 (Ej b))))] [(1000003,⟨false,[.pl (.u32 1779033703),.pl (.u32 3144134277),.pl (.u32 1013904242),.pl (.u32 2773480762),.pl (.u32 1359893119),.pl (.u32 2600822924),.pl (.u32 528734635),.pl (.u32 1541459225)]⟩),(1000004,⟨false,i0r⟩)] (Told (fun v m=>v=.w (.agg (Az (f0k k b)))∧m=[])):=by
 have hlk:(64:Int)<((k.length:Nat):Int):=by omega
 obtain ⟨p,hpk⟩: ∃ p,Ov (u0l k)=p:=⟨_,rfl⟩
 have hmk:u0l k=Yk k:=by rw [u0l,if_pos h64]
 have hp:p.length=64:=by rw [←hpk];exact Gx (h0y k)
 have hskl:=Iz k
 have hpp:Yk k++List.replicate 32 0=p:=by rw [←hpk,hmk,Ov,hskl]
 have hbp:Az (Yk k)++Az (List.replicate 32 0)=Az p:=by rw [←hpp];simp [Az]
 have hS0:=t1l [(exk,k)] false (by rw [q0c];intro e;rw [e] at h64;simp at h64) (by rw [q0c];omega) (by simp)
 rw [q0c] at hS0
 have htk:List.take 32 (Yk k)=Yk k:=List.take_of_length_le (by omega)
 have hdz:List.drop 32 (List.replicate 64 (0:UInt8))=List.replicate 32 0:=rfl
 have F0:=And.intro hlk<|And.intro hp<|And.intro hskl<|And.intro hbp<|And.intro htk<|hdz
 refine CtM.k Tryd.func44 rfl Tryd.ntmps44 (congrArg Array.toList Tryd.results44) (by simp) fun w0 ro may fx=>?_
 refine Dj fun zZ zhZ=>?_
 refine Cx fun zK zhK=>?_
 simp only [go_sem,nest,F0]
 repeat' (first|apply And.intro|intro _)
 refine zhK _ ?_
 refine Bz fun zN zM zhN zhM=>?_
 refine Cx fun zK zhK=>?_
 simp only [go_sem,nest,F0]
 repeat' (first|apply And.intro|intro _)
 refine zhK _ ?_
 (refine Bv ?_ ?_;focus (first|rfl|(simp [go_sem,nest,F0];done)))
 refine Av fun zK zhK=>?_
 simp only [go_sem,nest,F0]
 repeat' (first|apply And.intro|intro _)
 all_goals (refine g0w (fun _=>13) (fun _ _=>rfl) ?_ ?_ hS0.told ?_;iterate 2 (focus (first|rfl|(simp only [go_sem,nest,F0]<;>first|done|rfl|simp))))
 all_goals (rintro v m ⟨hR,hm⟩;subst hR;subst hm)
 all_goals (refine And.intro ?_ (And.intro ?_ ?_);iterate 2 (focus (first|rfl|(simp only [go_sem,nest,F0];done)|(simp [go_sem,look,nest,F0];done))))
 all_goals (try simp only [go_sem,nest,F0])
 all_goals (try simp only [go_sem,nest,F0])
 all_goals repeat' (first|apply And.intro|intro _)
 refine zhK _ ?_
 refine zhN _ ?_;clear zhN zhM
 refine Cx fun zK zhK=>?_
 simp only [go_sem,nest,F0]
 repeat' (first|apply And.intro|intro _)
 refine zhK _ ?_
 refine Bz fun zN zM zhN zhM=>?_
 refine n0o (id:=4) [14,15,16] (by simp only [go_sem]) fun zK zhK=>?_
 simp only [go_sem,nest,F0]
 repeat' (first|apply And.intro|intro _)
 refine zhK _ _ ?_
 refine zhN _ ?_;clear zhN zhM
 refine Bz fun zN zM zhN zhM=>?_
 refine n0o (id:=5) [17,18,19] (by simp only [go_sem]) fun zK zhK=>?_
 simp only [go_sem,nest,F0]
 repeat' (first|apply And.intro|intro _)
 refine zhK _ _ ?_
 refine zhN _ ?_;clear zhN zhM
 refine Bz fun zN zM zhN zhM=>?_
 refine Cx fun zK zhK=>?_
 simp only [go_sem,nest,F0]
 repeat' (first|apply And.intro|intro _)
 refine zhK _ ?_
 refine Aj fun zB zbn zbx zbr zbi=>?_
 refine Gv [0,8,9,10,11,12,13,14,15,16,17,18,19] ?_
 simp only [Gj,Iq,Gq,List.contains_cons,List.contains_nil,Nat.reduceBEq,beq_self_eq_true,Bool.or_false,Bool.or_true,Bool.true_or,Bool.false_or,Bool.false_eq_true,reduceIte]
 refine Jz (fun y=>[(20,.w (.one (.pl (.i ((y.1:Nat):Int)))))]) (fun y=>[(6,⟨false,Az (e0f 92 p y.1)⟩),(5,⟨false,Az (e0f 54 p y.1)⟩)]) (fun y=>64-y.1) (⟨0,Nat.zero_le _⟩:{y:Nat//y≤64}) ?_ ?_ ?_
 · (simp only [go_sem,leX,List.cons_append,List.nil_append];try simp)
 · (simp only [f0m,go_sem,leX,List.cons_append,List.nil_append];(try simp);try (rw [htk];exact congrArg Az hpp))
 intro ⟨i,hi⟩ zN zM zhN zhM
 simp only [List.cons_append,List.nil_append]
 rcases Nat.lt_or_ge i 64 with hlt|hge
 · have hcq:((i:Nat):Int)<64:=by omega
   have hc0:(0:Int)≤((i:Nat):Int)∧i+1≤64:=by omega
   have hxl:=Ox (c:=54) (l:=p) (i:=i)
   have hyl:=Ox (c:=92) (l:=p) (i:=i)
   rw [hp] at hxl hyl
   have hx1:=Mj (q:=e0f 54 p i) (i:=i) (by omega)
   have hy1:=Mj (q:=e0f 92 p i) (i:=i) (by omega)
   rw [f0n (by omega)] at hx1 hy1
   have hxs:=Vz (c:=54) (l:=p) (i:=i) (by omega)
   have hys:=Vz (c:=92) (l:=p) (i:=i) (by omega)
   have hs1:Go.RowKit.wrap64 (((i:Nat):Int)+1)=((i+1:Nat):Int):=Ny (by omega) (by omega)
   have F13:=And.intro hcq<|And.intro hc0<|And.intro hxl<|And.intro hyl<|And.intro hx1<|And.intro hy1<|And.intro hxs<|And.intro hys<|hs1
   iterate 18 first
    |refine zhK _ ?_
    |(refine Cx fun zK zhK=>?_;simp only [go_sem,nest,F0,Ay,F13];(repeat' (first|apply And.intro|intro _)))
    |(refine zhN _ ?_;clear zhN zhM)
    |(refine Av fun zK zhK=>?_;simp only [go_sem,nest,F0,Ay,F13];(repeat' (first|apply And.intro|intro _)))
    |refine Cw ?_
    |refine Aj fun zB zbn zbx zbr zbi=>?_
    |(refine zbn _ ?_;clear zbn zbx zbr zbi)
    |refine Bz fun zN zM zhN zhM=>?_
    |(refine Bv ?_ ?_;focus (first|rfl|(simp [go_sem,nest,F0,Ay,F13];done)))
   refine zhN ⟨i+1,hlt⟩ _ ?_ ?_ ?_
   · (exact Nat.sub_lt_sub_left hlt (Nat.lt_succ_self i))
   · (simp only [go_sem,leX,List.cons_append,List.nil_append];try simp)
   · (simp only [go_sem,leX,List.cons_append,List.nil_append];try simp)
 · obtain rfl:i=64:=by omega
   have hcq:¬((64:Nat):Int)<64:=by omega
   have hx:=Zw (c:=54) hp
   have hy:=Zw (c:=92) hp
   obtain ⟨px,hpx⟩: ∃ q,p.map (· ^^^(54:UInt8))=q:=⟨_,rfl⟩
   obtain ⟨py,hpy⟩: ∃ q,p.map (· ^^^(92:UInt8))=q:=⟨_,rfl⟩
   have hpxl:px.length=64:=by rw [←hpx,List.length_map,hp]
   have hpyl:py.length=64:=by rw [←hpy,List.length_map,hp]
   rw [hpx] at hx
   rw [hpy] at hy
   have hmac:f0k k b=Yk (py++Yk (px++b)):=by rw [f0k,hpk,hpx,hpy]
   simp only [hx,hy]
   have hkl:=Iz (px++b)
   have hS1:=t1l [(false,px),(ex,b)] false (by rw [Jq];intro e;have:=congrArg List.length e;rw [List.length_append,hpxl,List.length_nil] at this;omega) (by rw [Jq,List.length_append];omega) (by simp)
   rw [Jq] at hS1
   have hC1:=w1m [(false,py),(false,Yk (px++b))] false (by rw [Jq];intro e;have:=congrArg List.length e;rw [List.length_append,hpyl,List.length_nil] at this;omega) (by rw [Jq,List.length_append,hkl];omega) (by simp)
   rw [Jq] at hC1
   have hF1:=y0b (py++Yk (px++b)) (by rw [List.length_append,hkl];omega) false
   have hal:(py++Yk (px++b)).length=96:=by rw [List.length_append,hkl,hpyl]
   obtain ⟨z,hz⟩: ∃ z,py++Yk (px++b)=z:=⟨_,rfl⟩
   rw [hz] at hC1 hF1 hal hmac
   have hkz:=Iz z
   have F21:=And.intro hcq<|And.intro hpxl<|And.intro hpyl<|And.intro hkl<|And.intro hal<|hkz
   refine Cx fun zK zhK=>?_
   simp only [go_sem,nest,F0,F21]
   repeat' (first|apply And.intro|intro _)
   refine zhK _ ?_
   refine Bz fun zN zM zhN zhM=>?_
   (refine Cy ?_ ?_;focus (first|rfl|(simp [go_sem,nest,F0,F21];done)))
   refine Ey ?_
   refine zhM _ _ ?_;clear zhN zhM
   refine zhM _ _ ?_;clear zhN zhM
   refine zbx _ ?_;clear zbn zbx zbr zbi
   refine zhN _ ?_;clear zhN zhM
   refine Bz fun zN zM zhN zhM=>?_
   refine b0s (id:=12) mixed fun zE zhE=>?_
   refine Ck (p:=0) 5 [34,35,36,37,38] [0,0,0,6,14,31,63,127,255] [] rfl (by kernel_rfl) rfl (by simp only [go_sem]) fun zR zK zhR zhK=>?_
   simp only [go_sem,nest,F0,F21]
   repeat' (first|apply And.intro|intro _)
   all_goals (refine Tv rfl (fun _=>38) (.w (.one (.s 0 [(0,32)] 32 1))) [(0,⟨false,Az (Yk (px++b))⟩)] (fun _ _=>rfl) ?_ ?_ ?_ hS1.told ?_ ?_;(iterate 2 (focus (first|rfl|(simp only [go_sem,nest,F0,F21]<;>first|done|rfl|simp))));(first|kernel_rfl|rfl|simp [Qv,Qk,pls]))
   all_goals try (refine And.intro ?_ (And.intro ?_ (And.intro ?_ ?_))<;>(first|rfl|(simp only [go_sem,nest,F0,F21];done)|(simp [go_sem,look,nest,F0,F21];done)))
   all_goals (try simp only [go_sem,nest,F0,F21])
   all_goals (try simp only [go_sem,nest,F0,F21])
   all_goals repeat' (first|apply And.intro|intro _)
   refine zhK _ _ trivial (zhR _ ?_)
   refine Dk 4 9 rfl (by kernel_rfl) rfl rfl fun zR zhR=>?_
   simp only [go_sem,nest,F0,F21]
   repeat' (first|apply And.intro|intro _)
   all_goals (refine g0w (fun _=>40) (fun _ _=>rfl) ?_ ?_ hC1.told ?_;iterate 2 (focus (first|rfl|(simp only [go_sem,nest,F0,F21]<;>first|done|rfl|simp))))
   all_goals (rintro v m ⟨hR,hm⟩;subst hR;subst hm)
   all_goals (refine And.intro ?_ (And.intro ?_ ?_);iterate 2 (focus (first|rfl|(simp only [go_sem,nest,F0,F21];done)|(simp [go_sem,look,nest,F0,F21];done))))
   all_goals (try simp only [go_sem,nest,F0,F21])
   all_goals (try simp only [go_sem,nest,F0,F21])
   all_goals repeat' (first|apply And.intro|intro _)
   all_goals (refine Bq true [] (fun k=>k) (fun _ _=>rfl) ?_ (by decide) ?_ hF1.told ?_;iterate 2 (focus (first|rfl|(simp only [go_sem,nest,F0,F21]<;>first|done|rfl|simp))))
   all_goals (rintro v m ⟨hR,hm⟩;subst hR;subst hm)
   all_goals (refine And.intro ?_ (And.intro ?_ (And.intro ?_ ?_));iterate 3 (focus (first|rfl|(simp only [go_sem,nest,F0,F21];done)|(simp [go_sem,look,nest,F0,F21];done))))
   all_goals (try simp only [go_sem,nest,F0,F21])
   all_goals (try simp only [go_sem,nest,F0,F21])
   all_goals repeat' (first|apply And.intro|intro _)
   refine zhR _ ?_
   refine Jy rfl (zhE _ ?_)
   refine zhN _ ?_;clear zhN zhM
   refine Dx ?_
   refine zhZ _ _ ?_
   simp only [go_sem,nest,F0,F21]
   all_goals (rw [hmac];exact told_plain (Sv _) ⟨rfl,rfl⟩)
end Bk
end Go.Sy
namespace Go.Sy
namespace Bk
open Go.Proofs
attribute [local irreducible] Dv HT Cz Px onC onE onO onG goV goA goS Qx Dw
theorem v0f (k b:List UInt8) (hk:k.length≤140737488351232) (hb:b.length≤140737488351232) (h64:¬64<k.length):
 CtM Tryd.prog 36 [.w (.one (.pl (.str k))),.w (.one (.pl (.str b)))] [(1000002,⟨false,[.pl (.u32 1779033703),.pl (.u32 3144134277),.pl (.u32 1013904242),.pl (.u32 2773480762),.pl (.u32 1359893119),.pl (.u32 2600822924),.pl (.u32 528734635),.pl (.u32 1541459225)]⟩)] (Told (fun v m=>v=.w (.agg (Az (f0k k b)))∧m=[])):=by
 have hlk:¬(64:Int)<((k.length:Nat):Int):=by omega
 have hmk:u0l k=k:=by rw [u0l,if_neg h64]
 obtain ⟨w,hw⟩: ∃ w,k=w:=⟨_,rfl⟩
 rw [hw] at hlk hmk
 have hwl:=h0y k
 obtain ⟨p,hpk⟩: ∃ p,Ov (u0l k)=p:=⟨_,rfl⟩
 have hp:p.length=64:=by rw [←hpk];exact Gx (h0y k)
 subst hw
 rw [hmk] at hwl
 have hpd:k++List.replicate (64-k.length) 0=p:=by rw [←hpk,hmk,Ov]
 have hml0:k.length+(64-k.length)≤9223372036854775807:=by omega
 have hN9:=y0r (64-k.length) (by omega)
 have hw1:Go.RowKit.wrap64 (64-((k.length:Nat):Int))=((64-k.length:Nat):Int):=Ny (by omega) (by omega)
 have F0:=And.intro hlk<|And.intro hp<|And.intro hpd<|And.intro hml0<|hw1
 refine CtM.k Tryd.func36 rfl Tryd.ntmps36 (congrArg Array.toList Tryd.results36) (by simp) fun w0 ro may fx=>?_
 refine Dj fun zZ zhZ=>?_
 iterate 17 first
  |(refine Cx fun zK zhK=>?_;simp only [go_sem,F0];(repeat' (first|apply And.intro|intro _)))
  |refine zhK _ ?_
  |refine Cw ?_
  |(refine zhN _ ?_;clear zhN zhM)
  |refine Aj fun zB zbn zbx zbr zbi=>?_
  |((all_goals (refine Cq (fun k=>k) (fun _ _=>rfl) ?_ (hN9.plain fun _ _ h=>h) ?_;focus (first|rfl|(simp only [go_sem,F0]<;>rfl))));(all_goals (rintro v m ⟨hR,hm⟩;subst hR;subst hm));(all_goals refine And.intro (by first|rfl|simp only [go_sem,F0]) (And.intro (by first|rfl|simp only [go_sem,F0]) ?_));(all_goals simp only [go_sem,F0]);(all_goals repeat' (first|apply And.intro|intro _)))
  |refine Bz fun zN zM zhN zhM=>?_
  |(refine Cy ?_ ?_;focus (first|rfl|(simp [go_sem,F0];done)))
 refine Gv [0,8,9,10,11,12,13,14,15,16,17,18,19,20,21,22,23,24] ?_
 simp only [Gj,Iq,Gq,List.contains_cons,List.contains_nil,Nat.reduceBEq,beq_self_eq_true,Bool.or_false,Bool.or_true,Bool.true_or,Bool.false_or,Bool.false_eq_true,reduceIte]
 refine Jz (fun y=>[(26,.w (.one (.pl (.i ((y.1:Nat):Int)))))]) (fun y=>[(23,⟨true,Az (e0f 92 p y.1)⟩),(21,⟨true,Az (e0f 54 p y.1)⟩)]) (fun y=>64-y.1) (⟨0,Nat.zero_le _⟩:{y:Nat//y≤64}) ?_ ?_ ?_
 · (simp only [go_sem,leX,List.cons_append,List.nil_append];try simp)
 · (simp only [f0m,go_sem,leX,List.cons_append,List.nil_append];try simp)
 intro ⟨i,hi⟩ zN zM zhN zhM
 simp only [List.cons_append,List.nil_append]
 rcases Nat.lt_or_ge i 64 with hlt|hge
 · have hcq:((i:Nat):Int)<64:=by omega
   have hc0:(0:Int)≤((i:Nat):Int)∧i+1≤64:=by omega
   have hxl:=Ox (c:=54) (l:=p) (i:=i)
   have hyl:=Ox (c:=92) (l:=p) (i:=i)
   rw [hp] at hxl hyl
   have hx1:=Mj (q:=e0f 54 p i) (i:=i) (by omega)
   have hy1:=Mj (q:=e0f 92 p i) (i:=i) (by omega)
   rw [f0n (by omega)] at hx1 hy1
   have hxs:=Vz (c:=54) (l:=p) (i:=i) (by omega)
   have hys:=Vz (c:=92) (l:=p) (i:=i) (by omega)
   have hs1:Go.RowKit.wrap64 (((i:Nat):Int)+1)=((i+1:Nat):Int):=Ny (by omega) (by omega)
   have F9:=And.intro hcq<|And.intro hc0<|And.intro hxl<|And.intro hyl<|And.intro hx1<|And.intro hy1<|And.intro hxs<|And.intro hys<|hs1
   iterate 18 first
    |refine zhK _ ?_
    |(refine Cx fun zK zhK=>?_;simp only [go_sem,F0,Ay,F9];(repeat' (first|apply And.intro|intro _)))
    |(refine zhN _ ?_;clear zhN zhM)
    |(refine Av fun zK zhK=>?_;simp only [go_sem,F0,Ay,F9];(repeat' (first|apply And.intro|intro _)))
    |refine Cw ?_
    |refine Aj fun zB zbn zbx zbr zbi=>?_
    |(refine zbn _ ?_;clear zbn zbx zbr zbi)
    |refine Bz fun zN zM zhN zhM=>?_
    |(refine Bv ?_ ?_;focus (first|rfl|(simp [go_sem,F0,Ay,F9];done)))
   refine zhN ⟨i+1,hlt⟩ _ ?_ ?_ ?_
   · (exact Nat.sub_lt_sub_left hlt (Nat.lt_succ_self i))
   · (simp only [go_sem,leX,List.cons_append,List.nil_append];try simp)
   · (simp only [go_sem,leX,List.cons_append,List.nil_append];try simp)
 · obtain rfl:i=64:=by omega
   have hcq:¬((64:Nat):Int)<64:=by omega
   have hx:=Zw (c:=54) hp
   have hy:=Zw (c:=92) hp
   obtain ⟨px,hpx⟩: ∃ q,p.map (· ^^^(54:UInt8))=q:=⟨_,rfl⟩
   obtain ⟨py,hpy⟩: ∃ q,p.map (· ^^^(92:UInt8))=q:=⟨_,rfl⟩
   have hpxl:px.length=64:=by rw [←hpx,List.length_map,hp]
   have hpyl:py.length=64:=by rw [←hpy,List.length_map,hp]
   rw [hpx] at hx
   rw [hpy] at hy
   have hmac:f0k k b=Yk (py++Yk (px++b)):=by rw [f0k,hpk,hpx,hpy]
   simp only [hx,hy]
   have hkl:=Iz (px++b)
   have hml:64+b.length≤9223372036854775807:=by omega
   have hF0:=l0n (px++b) (by rw [List.length_append];omega)
   have hT0:=u0q (Yk (px++b)) hkl
   have hml2:64+32≤9223372036854775807:=by omega
   obtain ⟨z,hz⟩: ∃ z,py++Yk (px++b)=z:=⟨_,rfl⟩
   have hF1:=l0n z (by rw [←hz,List.length_append,hkl];omega)
   have hkz:=Iz z
   rw [hz] at hmac
   have F17:=And.intro hcq<|And.intro hpxl<|And.intro hpyl<|And.intro hml<|And.intro hkl<|And.intro hml2<|And.intro hz<|hkz
   refine Cx fun zK zhK=>?_
   simp only [go_sem,F0,F17]
   repeat' (first|apply And.intro|intro _)
   refine zhK _ ?_
   refine Bz fun zN zM zhN zhM=>?_
   (refine Cy ?_ ?_;focus (first|rfl|(simp [go_sem,F0,F17];done)))
   refine Ey ?_
   refine zhM _ _ ?_;clear zhN zhM
   refine zhM _ _ ?_;clear zhN zhM
   refine zbx _ ?_;clear zbn zbx zbr zbi
   refine zhN _ ?_;clear zhN zhM
   refine Bz fun zN zM zhN zhM=>?_
   refine b0s (id:=11) mixed fun zE zhE=>?_
   refine Ck (p:=0) 8 [42,43,44,45,46,47,48,49] [0,1,0,4,0,28,60,124,255,511,1023] [] rfl (by kernel_rfl) rfl (by simp only [go_sem]) fun zR zK zhR zhK=>?_
   simp only [go_sem,F0,F17]
   repeat' (first|apply And.intro|intro _)
   all_goals (refine Bw (fun k=>k) (.w (.agg (Az (Yk (px++b))))) [] (fun _ _=>rfl) ?_ ?_ ?_ hF0.told ?_ ?_;(iterate 2 (focus (first|rfl|(simp only [go_sem,F0,F17]<;>first|done|rfl|simp))));(first|kernel_rfl|rfl|simp [Qv,Qk,pls]))
   all_goals try (refine And.intro ?_ (And.intro ?_ (And.intro ?_ ?_))<;>(first|rfl|(simp only [go_sem,F0,F17];done)|(simp [go_sem,look,F0,F17];done)))
   all_goals (try simp only [go_sem,F0,F17])
   all_goals (try simp only [go_sem,F0,F17])
   all_goals repeat' (first|apply And.intro|intro _)
   all_goals (refine Jj (fun k=>k) (.w (.one (.pl (.str (Yk (px++b)))))) [] (fun _ _=>rfl) ?_ (hT0.plain fun _ _ h=>h) ?_ ?_;focus (first|rfl|(simp only [go_sem,F0,F17]<;>rfl)))
   all_goals try (refine And.intro ?_ (And.intro ?_ (And.intro ?_ ?_))<;>first|rfl|simp only [go_sem])
   all_goals simp only [go_sem,F0,F17]
   all_goals repeat' (first|apply And.intro|intro _)
   refine zhK _ _ trivial (zhR _ ?_)
   refine Dk 3 11 rfl (by kernel_rfl) rfl rfl fun zR zhR=>?_
   simp only [go_sem,F0,F17]
   repeat' (first|apply And.intro|intro _)
   all_goals (refine Bq false [] (fun k=>k) (fun _ _=>rfl) ?_ (by decide) ?_ hF1.told ?_;iterate 2 (focus (first|rfl|(simp only [go_sem,F0,F17]<;>first|done|rfl|simp))))
   all_goals (rintro v m ⟨hR,hm⟩;subst hR;subst hm)
   all_goals (refine And.intro ?_ (And.intro ?_ (And.intro ?_ ?_));iterate 3 (focus (first|rfl|(simp only [go_sem,F0,F17];done)|(simp [go_sem,look,F0,F17];done))))
   all_goals (try simp only [go_sem,F0,F17])
   all_goals (try simp only [go_sem,F0,F17])
   all_goals repeat' (first|apply And.intro|intro _)
   refine zhR _ ?_
   refine Jy rfl (zhE _ ?_)
   refine zhN _ ?_;clear zhN zhM
   refine Dx ?_
   refine zhZ _ _ ?_
   simp only [go_sem,F0,F17]
   all_goals (rw [hmac];exact told_plain (Sv _) ⟨rfl,rfl⟩)
theorem a1t (k b:List UInt8) (hk:k.length≤140737488351232) (hb:b.length≤140737488351232) (h64:64<k.length):
 CtM Tryd.prog 36 [.w (.one (.pl (.str k))),.w (.one (.pl (.str b)))] [(1000002,⟨false,[.pl (.u32 1779033703),.pl (.u32 3144134277),.pl (.u32 1013904242),.pl (.u32 2773480762),.pl (.u32 1359893119),.pl (.u32 2600822924),.pl (.u32 528734635),.pl (.u32 1541459225)]⟩)] (Told (fun v m=>v=.w (.agg (Az (f0k k b)))∧m=[])):=by
 have hlk:(64:Int)<((k.length:Nat):Int):=by omega
 have hmk:u0l k=Yk k:=by rw [u0l,if_pos h64]
 have hF9:=l0n k (by omega)
 have hT9:=u0q (Yk k) (Iz k)
 have hskl:=Iz k
 obtain ⟨w,hw⟩: ∃ w,Yk k=w:=⟨_,rfl⟩
 rw [hw] at hF9 hT9 hmk hskl
 have hwl:=h0y k
 obtain ⟨p,hpk⟩: ∃ p,Ov (u0l k)=p:=⟨_,rfl⟩
 have hp:p.length=64:=by rw [←hpk];exact Gx (h0y k)
 rw [hmk] at hwl
 have hpd:w++List.replicate (64-w.length) 0=p:=by rw [←hpk,hmk,Ov]
 have hml0:w.length+(64-w.length)≤9223372036854775807:=by omega
 have hN9:=y0r (64-w.length) (by omega)
 have hw1:Go.RowKit.wrap64 (64-((w.length:Nat):Int))=((64-w.length:Nat):Int):=Ny (by omega) (by omega)
 have F0:=And.intro hlk<|And.intro hp<|And.intro hpd<|And.intro hml0<|hw1
 refine CtM.k Tryd.func36 rfl Tryd.ntmps36 (congrArg Array.toList Tryd.results36) (by simp) fun w0 ro may fx=>?_
 refine Dj fun zZ zhZ=>?_
 iterate 20 first
  |refine zhK _ ?_
  |(refine Cx fun zK zhK=>?_;simp only [go_sem,F0];(repeat' (first|apply And.intro|intro _)))
  |(refine Av fun zK zhK=>?_;simp only [go_sem,F0];(repeat' (first|apply And.intro|intro _)))
  |(refine zhN _ ?_;clear zhN zhM)
  |refine Aj fun zB zbn zbx zbr zbi=>?_
  |((all_goals (refine Bq false [] (fun k=>k) (fun _ _=>rfl) ?_ (by decide) ?_ hF9.told ?_;iterate 2 (focus (first|rfl|(simp only [go_sem,F0]<;>first|done|rfl|simp)))));(all_goals (rintro v m ⟨hR,hm⟩;subst hR;subst hm));(all_goals (refine And.intro ?_ (And.intro ?_ (And.intro ?_ ?_));iterate 3 (focus (first|rfl|(simp only [go_sem,F0];done)|(simp [go_sem,look,F0];done)))));(all_goals (try simp only [go_sem,F0]));(all_goals (try simp only [go_sem,F0]));(all_goals repeat' (first|apply And.intro|intro _)))
  |((all_goals (refine Cq (fun k=>k) (fun _ _=>rfl) ?_ (hT9.plain fun _ _ h=>h) ?_;focus (first|rfl|(simp only [go_sem,F0]<;>rfl))));(all_goals (rintro v m ⟨hR,hm⟩;subst hR;subst hm));(all_goals refine And.intro (by first|rfl|simp only [go_sem,F0]) (And.intro (by first|rfl|simp only [go_sem,F0]) ?_));(all_goals simp only [go_sem,F0]);(all_goals repeat' (first|apply And.intro|intro _)))
  |((all_goals (refine Cq (fun k=>k) (fun _ _=>rfl) ?_ (hN9.plain fun _ _ h=>h) ?_;focus (first|rfl|(simp only [go_sem,F0]<;>rfl))));(all_goals (rintro v m ⟨hR,hm⟩;subst hR;subst hm));(all_goals refine And.intro (by first|rfl|simp only [go_sem,F0]) (And.intro (by first|rfl|simp only [go_sem,F0]) ?_));(all_goals simp only [go_sem,F0]);(all_goals repeat' (first|apply And.intro|intro _)))
  |refine Bz fun zN zM zhN zhM=>?_
  |(refine Bv ?_ ?_;focus (first|rfl|(simp [go_sem,F0];done)))
 refine Gv [0,8,9,10,11,12,13,14,15,16,17,18,19,20,21,22,23,24] ?_
 simp only [Gj,Iq,Gq,List.contains_cons,List.contains_nil,Nat.reduceBEq,beq_self_eq_true,Bool.or_false,Bool.or_true,Bool.true_or,Bool.false_or,Bool.false_eq_true,reduceIte]
 refine Jz (fun y=>[(26,.w (.one (.pl (.i ((y.1:Nat):Int)))))]) (fun y=>[(23,⟨true,Az (e0f 92 p y.1)⟩),(21,⟨true,Az (e0f 54 p y.1)⟩)]) (fun y=>64-y.1) (⟨0,Nat.zero_le _⟩:{y:Nat//y≤64}) ?_ ?_ ?_
 · (simp only [go_sem,leX,List.cons_append,List.nil_append];try simp)
 · (simp only [f0m,go_sem,leX,List.cons_append,List.nil_append];try simp)
 intro ⟨i,hi⟩ zN zM zhN zhM
 simp only [List.cons_append,List.nil_append]
 rcases Nat.lt_or_ge i 64 with hlt|hge
 · have hcq:((i:Nat):Int)<64:=by omega
   have hc0:(0:Int)≤((i:Nat):Int)∧i+1≤64:=by omega
   have hxl:=Ox (c:=54) (l:=p) (i:=i)
   have hyl:=Ox (c:=92) (l:=p) (i:=i)
   rw [hp] at hxl hyl
   have hx1:=Mj (q:=e0f 54 p i) (i:=i) (by omega)
   have hy1:=Mj (q:=e0f 92 p i) (i:=i) (by omega)
   rw [f0n (by omega)] at hx1 hy1
   have hxs:=Vz (c:=54) (l:=p) (i:=i) (by omega)
   have hys:=Vz (c:=92) (l:=p) (i:=i) (by omega)
   have hs1:Go.RowKit.wrap64 (((i:Nat):Int)+1)=((i+1:Nat):Int):=Ny (by omega) (by omega)
   have F10:=And.intro hcq<|And.intro hc0<|And.intro hxl<|And.intro hyl<|And.intro hx1<|And.intro hy1<|And.intro hxs<|And.intro hys<|hs1
   iterate 18 first
    |refine zhK _ ?_
    |(refine Cx fun zK zhK=>?_;simp only [go_sem,F0,Ay,F10];(repeat' (first|apply And.intro|intro _)))
    |(refine zhN _ ?_;clear zhN zhM)
    |(refine Av fun zK zhK=>?_;simp only [go_sem,F0,Ay,F10];(repeat' (first|apply And.intro|intro _)))
    |refine Cw ?_
    |refine Aj fun zB zbn zbx zbr zbi=>?_
    |(refine zbn _ ?_;clear zbn zbx zbr zbi)
    |refine Bz fun zN zM zhN zhM=>?_
    |(refine Bv ?_ ?_;focus (first|rfl|(simp [go_sem,F0,Ay,F10];done)))
   refine zhN ⟨i+1,hlt⟩ _ ?_ ?_ ?_
   · (exact Nat.sub_lt_sub_left hlt (Nat.lt_succ_self i))
   · (simp only [go_sem,leX,List.cons_append,List.nil_append];try simp)
   · (simp only [go_sem,leX,List.cons_append,List.nil_append];try simp)
 · obtain rfl:i=64:=by omega
   have hcq:¬((64:Nat):Int)<64:=by omega
   have hx:=Zw (c:=54) hp
   have hy:=Zw (c:=92) hp
   obtain ⟨px,hpx⟩: ∃ q,p.map (· ^^^(54:UInt8))=q:=⟨_,rfl⟩
   obtain ⟨py,hpy⟩: ∃ q,p.map (· ^^^(92:UInt8))=q:=⟨_,rfl⟩
   have hpxl:px.length=64:=by rw [←hpx,List.length_map,hp]
   have hpyl:py.length=64:=by rw [←hpy,List.length_map,hp]
   rw [hpx] at hx
   rw [hpy] at hy
   have hmac:f0k k b=Yk (py++Yk (px++b)):=by rw [f0k,hpk,hpx,hpy]
   simp only [hx,hy]
   have hkl:=Iz (px++b)
   have hml:64+b.length≤9223372036854775807:=by omega
   have hF0:=l0n (px++b) (by rw [List.length_append];omega)
   have hT0:=u0q (Yk (px++b)) hkl
   have hml2:64+32≤9223372036854775807:=by omega
   obtain ⟨z,hz⟩: ∃ z,py++Yk (px++b)=z:=⟨_,rfl⟩
   have hF1:=l0n z (by rw [←hz,List.length_append,hkl];omega)
   have hkz:=Iz z
   rw [hz] at hmac
   have F18:=And.intro hcq<|And.intro hpxl<|And.intro hpyl<|And.intro hml<|And.intro hkl<|And.intro hml2<|And.intro hz<|hkz
   refine Cx fun zK zhK=>?_
   simp only [go_sem,F0,F18]
   repeat' (first|apply And.intro|intro _)
   refine zhK _ ?_
   refine Bz fun zN zM zhN zhM=>?_
   (refine Cy ?_ ?_;focus (first|rfl|(simp [go_sem,F0,F18];done)))
   refine Ey ?_
   refine zhM _ _ ?_;clear zhN zhM
   refine zhM _ _ ?_;clear zhN zhM
   refine zbx _ ?_;clear zbn zbx zbr zbi
   refine zhN _ ?_;clear zhN zhM
   refine Bz fun zN zM zhN zhM=>?_
   refine b0s (id:=11) mixed fun zE zhE=>?_
   refine Ck (p:=0) 8 [42,43,44,45,46,47,48,49] [0,1,0,4,0,28,60,124,255,511,1023] [] rfl (by kernel_rfl) rfl (by simp only [go_sem]) fun zR zK zhR zhK=>?_
   simp only [go_sem,F0,F18]
   repeat' (first|apply And.intro|intro _)
   all_goals (refine Bw (fun k=>k) (.w (.agg (Az (Yk (px++b))))) [] (fun _ _=>rfl) ?_ ?_ ?_ hF0.told ?_ ?_;(iterate 2 (focus (first|rfl|(simp only [go_sem,F0,F18]<;>first|done|rfl|simp))));(first|kernel_rfl|rfl|simp [Qv,Qk,pls]))
   all_goals try (refine And.intro ?_ (And.intro ?_ (And.intro ?_ ?_))<;>(first|rfl|(simp only [go_sem,F0,F18];done)|(simp [go_sem,look,F0,F18];done)))
   all_goals (try simp only [go_sem,F0,F18])
   all_goals (try simp only [go_sem,F0,F18])
   all_goals repeat' (first|apply And.intro|intro _)
   all_goals (refine Jj (fun k=>k) (.w (.one (.pl (.str (Yk (px++b)))))) [] (fun _ _=>rfl) ?_ (hT0.plain fun _ _ h=>h) ?_ ?_;focus (first|rfl|(simp only [go_sem,F0,F18]<;>rfl)))
   all_goals try (refine And.intro ?_ (And.intro ?_ (And.intro ?_ ?_))<;>first|rfl|simp only [go_sem])
   all_goals simp only [go_sem,F0,F18]
   all_goals repeat' (first|apply And.intro|intro _)
   refine zhK _ _ trivial (zhR _ ?_)
   refine Dk 3 11 rfl (by kernel_rfl) rfl rfl fun zR zhR=>?_
   simp only [go_sem,F0,F18]
   repeat' (first|apply And.intro|intro _)
   all_goals (refine Bq false [] (fun k=>k) (fun _ _=>rfl) ?_ (by decide) ?_ hF1.told ?_;iterate 2 (focus (first|rfl|(simp only [go_sem,F0,F18]<;>first|done|rfl|simp))))
   all_goals (rintro v m ⟨hR,hm⟩;subst hR;subst hm)
   all_goals (refine And.intro ?_ (And.intro ?_ (And.intro ?_ ?_));iterate 3 (focus (first|rfl|(simp only [go_sem,F0,F18];done)|(simp [go_sem,look,F0,F18];done))))
   all_goals (try simp only [go_sem,F0,F18])
   all_goals (try simp only [go_sem,F0,F18])
   all_goals repeat' (first|apply And.intro|intro _)
   refine zhR _ ?_
   refine Jy rfl (zhE _ ?_)
   refine zhN _ ?_;clear zhN zhM
   refine Dx ?_
   refine zhZ _ _ ?_
   simp only [go_sem,F0,F18]
   all_goals (rw [hmac];exact told_plain (Sv _) ⟨rfl,rfl⟩)
end Bk
end Go.Sy
