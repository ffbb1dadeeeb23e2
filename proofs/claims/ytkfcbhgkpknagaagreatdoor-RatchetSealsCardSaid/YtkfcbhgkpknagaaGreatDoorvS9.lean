/- Walks and what they compute. CONDITIONS: those that each theorem names. -/
import Derived.Test.YtkfcbhgkpknagaaGreatDoorvE3
import Derived.Test.YtkfcbhgkpknagaaGreatDoorvS4
import Derived.Test.YtkfcbhgkpknagaaGreatDoorvS8
set_option linter.unusedVariables false
set_option linter.unusedSimpArgs false
set_option maxHeartbeats 3200000
set_option maxRecDepth 100000
namespace Go.Sy
namespace Bk
open Go.Proofs
attribute [local irreducible] Bw HT Aj Jk onC onE onO onG goV goA goS Lx Bz
def nest (ls:List (Bool×List UInt8)):List (List PL):=ls.map fun x=>[PL.R x.1 1 (Av x.2)]
def b0z (ls:List (Bool×List UInt8)):List UInt8:=ls.flatMap (·.2)
theorem a0w (ls:List (Bool×List UInt8)):(nest ls).length=ls.length:=by simp [nest]
theorem v0a {ls:List (Bool×List UInt8)} {i:Nat} (h:i<ls.length):(nest ls).getD i []=[PL.R (ls[i]).1 1 (Av (ls[i]).2)]:=by
 simp [nest,List.getD,yO h]
theorem l0t {ls:List (Bool×List UInt8)} {i:Nat} (h:i<ls.length):b0z (ls.take (i+1))=b0z (ls.take i)++(ls[i]).2:=by
 rw [wI h,b0z,List.flatMap_append];simp [b0z]
theorem v0p {ls:List (Bool×List UInt8)} {i:Nat}:(b0z (ls.take i)).length≤(b0z ls).length:=by
 conv=>rhs;rw [←wS i ls]
 rw [b0z,b0z,List.flatMap_append,yG];omega
def cV (j:Nat) (l:List UInt8):V:=if l=[] then .w (.one (.pl (.R true 1 []))) else .w (.one (.s j [] l.length 1))
def cM (j:Nat) (l:List UInt8):List (Nat×Ob):=if l=[] then [] else [(j,⟨true,Az l⟩)]
theorem a1i (j:Nat):cV j []=.w (.one (.pl (.R true 1 []))):=if_pos rfl
theorem a1j (j:Nat):cM j []=[]:=if_pos rfl
theorem z1r (j:Nat) {l:List UInt8} (h:l≠[]):cV j l=.w (.one (.s j [] l.length 1)):=if_neg h
theorem z1s (j:Nat) {l:List UInt8} (h:l≠[]):cM j l=[(j,⟨true,Az l⟩)]:=if_neg h
def ownB (l:List UInt8) (v:V) (m:List (Nat×Ob)):Prop:=v=.w (.one (.s 0 [] l.length 1))∧m=[(0,⟨true,Az l⟩)]
theorem n0u {m:List (Nat×Ob)} {j n:Nat} {l:List UInt8} (hn:n=l.length) (h:look m j=some ⟨true,Az l⟩) (hj:j<500000:=by decide):Told (ownB l) (.w (.one (.s j [] n 1))) m:=
 Zw ⟨only j,.w (.one (.s 0 [] l.length 1)),[(0,⟨true,Az l⟩)],by rw [hn];rfl,f0z h hj,rfl,rfl⟩
theorem len0 {l:List UInt8} (h:l≠[]):¬l.length=0:=fun e=>h (xH e)
theorem r2l (ls:List (Bool×List UInt8)) (ex:Bool) (hne:b0z ls≠[]) (hl:(b0z ls).length≤140737488355328) (hn:ls.length≤4096):
 CtM Tryz.prog 55 [.w (.one (.pl (.R ex 1 (nest ls))))] [] (Told (ownB (b0z ls))):=by
 have F0:=@a0w
 refine CtM.go Tryz.func55 rfl Tryz.ntmps55 Tryz.results55 fun w0 ro may fx zZ zhY=>?_
 refine (fun zX=>goW) ?_
 refine Bv [0] ?_
 simp only [Bj,Cx,Bq,yI,yK,Nat.reduceBEq,beq_self_eq_true,yS,yV,yY,yT,yE,reduceIte]
 refine Gx (fun y=>[(3,cV 14 y.1.2),(8,.w (.one (.pl (.i ((y.1.1:Nat):Int)))))]) (fun y=>cM 14 y.1.2) (fun y=>ls.length-y.1.1) (⟨(0,[]),xA _,rfl⟩:{y:Nat×List UInt8//y.1≤ls.length∧y.2=b0z (ls.take y.1)}) ?_ (by (simp only [a1i,a1j,go_sem,leX,yB,yC];try simp)) (by (simp only [a1i,a1j,go_sem,leX,yB,yC];try simp))
 intro yy xN0 xM0 xhN0 xhM0
 simp only [yB,yC]
 obtain ⟨⟨i,q⟩,hi,hq⟩:=yy
 simp only at hi hq
 have hd:(∃ (h:i<ls.length),q=[]∧(ls[i]).2=[])∨(∃ (h:i<ls.length),q=[]∧(ls[i]).2≠[])∨(i<ls.length∧q≠[])∨i=ls.length:=by
  by_cases e1:i=ls.length
  ·exact .inr (.inr (.inr e1))
  have e3:i<ls.length:=by omega
  by_cases e2:q=[]
  ·by_cases e4:(ls[i]).2=[]
   ·exact .inl ⟨e3,e2,e4⟩
   exact .inr (.inl ⟨e3,e2,e4⟩)
  exact .inr (.inr (.inl ⟨e3,e2⟩))
 rcases hd with ⟨hlt,rfl,hb0⟩|⟨hlt,rfl,hb0⟩|⟨hlt,hq0⟩|rfl
 ·have hcq:((i:Nat):Int)<((ls.length:Nat):Int):=by omega
  have hc0:(0:Int)≤((i:Nat):Int):=by omega
  have hg0:=v0a hlt
  have hsn:=l0t hlt
  have hle:=v0p (ls:=ls) (i:=i+1)
  obtain ⟨⟨ex1,b⟩,hb⟩: ∃ x,ls[i]=x:=⟨_,rfl⟩
  rw [hb] at hg0 hsn
  simp only at hg0 hsn
  rw [hsn,yG] at hle
  rw [←hq] at hsn hle
  rw [hb] at hb0
  simp only at hb0
  subst hb0
  simp only [a1i,a1j]
  have hs1:Go.RowKit.wrap64 (((i:Nat):Int)+1)=((i+1:Nat):Int):=Gy (by omega) (by omega)
  have F0:=yA hcq<|yA hc0<|yA hg0<|yA hs1<|yA @a0w<|F0
  refine (fun zX=>goW) ?_
  refine xhN0 ⟨(i+1,[]),hlt,by rw [hsn];rfl⟩ _ ?_ ?_ ?_
  ·(exact yP hlt (yQ i))
  ·(simp only [a1i,yG,go_sem,leX,yB,yC];(try simp);try rfl)
  (simp only [a1j,yG,go_sem,leX,yB,yC];(try simp);try rfl)
 ·have hcq:((i:Nat):Int)<((ls.length:Nat):Int):=by omega
  have hc0:(0:Int)≤((i:Nat):Int):=by omega
  have hg0:=v0a hlt
  have hsn:=l0t hlt
  have hle:=v0p (ls:=ls) (i:=i+1)
  obtain ⟨⟨ex1,b⟩,hb⟩: ∃ x,ls[i]=x:=⟨_,rfl⟩
  rw [hb] at hg0 hsn
  simp only at hg0 hsn
  rw [hsn,yG] at hle
  rw [←hq] at hsn hle
  rw [hb] at hb0
  simp only at hb0
  simp only [a1i,a1j]
  have hbl:=len0 hb0
  have hle2:b.length≤140737488355328:=by clear hcq;simp only [xW] at hle;omega
  have hs1:Go.RowKit.wrap64 (((i:Nat):Int)+1)=((i+1:Nat):Int):=Gy (by omega) (by omega)
  have F0:=yA hcq<|yA hc0<|yA hg0<|yA hs1<|yA @a0w<|yA hbl<|yA hle2<|F0
  refine (fun zX=>goW) ?_
  refine xhN0 ⟨(i+1,b),hlt,by rw [hsn];rfl⟩ _ ?_ ?_ ?_
  ·(exact yP hlt (yQ i))
  ·(simp only [z1r 14 hb0,yG,go_sem,leX,yB,yC];(try simp);try rfl)
  (simp only [z1s 14 hb0,yG,go_sem,leX,yB,yC];(try simp);try rfl)
 ·have hcq:((i:Nat):Int)<((ls.length:Nat):Int):=by omega
  have hc0:(0:Int)≤((i:Nat):Int):=by omega
  have hg0:=v0a hlt
  have hsn:=l0t hlt
  have hle:=v0p (ls:=ls) (i:=i+1)
  obtain ⟨⟨ex1,b⟩,hb⟩: ∃ x,ls[i]=x:=⟨_,rfl⟩
  rw [hb] at hg0 hsn
  simp only at hg0 hsn
  rw [hsn,yG] at hle
  rw [←hq] at hsn hle
  simp only [z1r 14 hq0,z1s 14 hq0]
  have hqb:q++b≠[]:=fun e=>hq0 (List.append_eq_nil_iff.mp e).1
  have hle2:q.length+b.length≤140737488355328:=by omega
  have hs1:Go.RowKit.wrap64 (((i:Nat):Int)+1)=((i+1:Nat):Int):=Gy (by omega) (by omega)
  have F0:=yA hcq<|yA hc0<|yA hg0<|yA hs1<|yA @a0w<|yA hle2<|F0
  refine (fun zX=>goW) ?_
  refine xhN0 ⟨(i+1,q++b),hlt,hsn.symm⟩ _ ?_ ?_ ?_
  ·(exact yP hlt (yQ i))
  ·(simp only [z1r 14 hqb,yG,go_sem,leX,yB,yC];(try simp);try rfl)
  (simp only [z1s 14 hqb,yG,go_sem,leX,yB,yC];(try simp);try rfl)
 rw [wK] at hq
 subst hq
 simp only [z1r 14 hne,z1s 14 hne]
 have hcq:¬((ls.length:Nat):Int)<((ls.length:Nat):Int):=by omega
 have F0:=yA hcq<|yA @a0w<|F0
 refine (fun zX=>goW) ?_
 refine zhY _ _ ?_
 simp only [go_sem,F0]
 all_goals (exact n0u rfl rfl)
end Bk
end Go.Sy
namespace Go.Sy
namespace Bk
open Go.Proofs
attribute [local irreducible] Bw HT Aj Jk onC onE onO onG goV goA goS Lx Bz
def s2c (l:List UInt8) (v:V) (m:List (Nat×Ob)):Prop:=v=.w (.one (.s 0 [(0,32)] 32 1))∧m=[(0,⟨false,Az l⟩)]
theorem o1q {m:List (Nat×Ob)} {j:Nat} {l:List UInt8} (h:look m j=some ⟨false,Az l⟩) (hj:j<500000:=by decide):Told (s2c l) (.w (.one (.s j [(0,32)] 32 1))) m:=
 Zw ⟨only j,.w (.one (.s 0 [(0,32)] 32 1)),[(0,⟨false,pls (l.map .u8)⟩)],rfl,h1q (by rw [Uz];exact h) hj,rfl,by rw [Uz]⟩
theorem k1h {l:List UInt8} {n:Nat} (h:l.length=n):chunks 1 n (l.map PL.u8)=Av l:=by subst h;exact b0n l
theorem k1f (x y:PL):chunks 1 2 [x,y]=[[x],[y]]:=rfl
theorem k1g (x:PL):chunks 1 1 [x]=[[x]]:=rfl
attribute [go_sem] k1h k1f k1g
theorem h0y (n:Nat):(List.replicate n [L.pl (PL.u8 0)]).flatten=Az (List.replicate n 0):=by
 induction n with
 |zero=>rfl
 |succ n ih=>rw [wT,wV,ih,wT];rfl
theorem f2r (ls:List (Bool×List UInt8)) (ex:Bool) (hne:b0z ls≠[]) (hl:(b0z ls).length≤140737488355328) (hn:ls.length≤4096):
 CtM Tryz.prog 53 [.w (.one (.pl (.R ex 1 (nest ls))))] [(1000002,⟨false,gFi⟩),(1000004,⟨false,j0h⟩)] (Told (s2c (c0f (b0z ls)))):=by
 have hkl:=Hw (b0z ls)
 have F0:=hkl
 refine CtM.go Tryz.func53 rfl Tryz.ntmps53 Tryz.results53 fun w0 ro may fx zZ zhY=>?_
 have zS:ZS 1:=⟨⟩
 refine (fun zX=>goW) ?_
 refine ⟨?_⟩;clear zS
 refine Lj fun zK zhK=>?_
 simp only [go_sem,F0]
 repeat' (first|apply yA|intro _)
 all_goals (refine Kz false [] (fun _=>5) (fun _ _=>rfl) ?_ (by decide) ?_ (r2l ls ex hne hl hn).told ?_;iterate 2 (focus (first|rfl|(simp only [go_sem,F0]<;>first|done|rfl|simp))))
 all_goals (rintro v m ⟨hR,hm⟩;subst hR;subst hm)
 all_goals (refine yA ?_ (yA ?_ (yA ?_ ?_));iterate 3 (focus (first|rfl|(simp only [go_sem,F0];done)|(simp [go_sem,look,F0];done))))
 all_goals (try simp only [go_sem,F0])
 all_goals (try simp only [go_sem,F0])
 all_goals repeat' (first|apply yA|intro _)
 all_goals (refine Kz true [] (fun k=>k) (fun _ _=>rfl) ?_ (by decide) ?_ (f1o (b0z ls) (xR hl (by decide)) false).told ?_;iterate 2 (focus (first|rfl|(simp only [go_sem,F0]<;>first|done|rfl|simp))))
 all_goals (rintro v m ⟨hR,hm⟩;subst hR;subst hm)
 all_goals (refine yA ?_ (yA ?_ (yA ?_ ?_));iterate 3 (focus (first|rfl|(simp only [go_sem,F0];done)|(simp [go_sem,look,F0];done))))
 all_goals (try simp only [go_sem,F0])
 all_goals (try simp only [go_sem,F0])
 all_goals repeat' (first|apply yA|intro _)
 refine zhK _ ?_
 refine (fun zX=>goW) ?_
 refine zhY _ _ ?_
 simp only [go_sem,F0]
 all_goals (exact o1q rfl)
theorem n0w (n:Nat) (hn:n≤4096):
 Ct Tryz.prog 73 [.w (.one (.pl (.i ((n:Nat):Int))))] (fun v m=>v=.w (.one (.pl (.str (List.replicate n 0))))):=by
 have h1:(0:Int)≤((n:Nat):Int)∧((n:Nat):Int)≤281474976710656:=by omega
 have h2:((n:Nat):Int).toNat=n:=Int.toNat_natCast n
 have F0:=yA h1<|yA h2<|yA @h0y<|@Int.one_mul
 exact Ct.go Tryz.func73 rfl Tryz.ntmps73 Tryz.results73
end Bk
end Go.Sy
namespace Go.Sy
namespace Bk
open Go.Proofs
attribute [local irreducible] Bw HT Aj Jk onC onE onO onG goV goA goS Lx Bz
def g0x (c:UInt8) (l:List UInt8) (i:Nat):List UInt8:=(l.take i).map (· ^^^c)++l.drop i
section
variable {c:UInt8} {l:List UInt8} {i:Nat}
theorem Pq :(g0x c l i).length=l.length:=by simp [g0x];omega
theorem i0r :g0x c l 0=l:=rfl
theorem i0s (h:i<l.length):(g0x c l i).getD i 0=l.getD i 0:=by
 rw [g0x,List.getD,vP (by rw [xO,yH];omega),List.getD]
 simp only [xO,yH,uG]
 congr 2;omega
theorem l1n :(g0x c l i).take i=(l.take i).map (· ^^^c):=by
 by_cases h:i≤l.length
 ·rw [g0x,List.take_append_of_le_length (by rw [xO,yH];omega),xE (by rw [xO,yH];omega)]
 rw [g0x,xY (by omega),wY,xE (by rw [xO,yH];omega)]
theorem l1o :(g0x c l i).drop (i+1)=l.drop (i+1):=by
 by_cases h:i≤l.length
 ·have hl:((l.take i).map (· ^^^c)).length=i:=by simp;omega
  rw [g0x,List.drop_append,xY (by omega),yC,wO,hl]
  congr 1;omega
 rw [xY (by rw [Pq];omega),xY (by omega)]
theorem Zz (h:i<l.length):Az ((g0x c l i).take i)++[L.pl (PL.u8 (l.getD i 0^^^c))]++Az ((g0x c l i).drop (i+1))=Az (g0x c l (i+1)):=by
 have e:l.take (i+1)=l.take i++[l.getD i 0]:=by
  rw [wI h];simp [List.getD,yO h]
 rw [l1n,l1o,g0x,e]
 simp [Az]
theorem b0h (h:l.length=i):g0x c l i=l.map (· ^^^c):=by rw [g0x,xE (by omega),xY (by omega),wY]
end
def b1d (k:List UInt8):List UInt8:=if 64<k.length then c0f k else k
theorem l0l (k:List UInt8):(b1d k).length≤64:=by
 unfold b1d
 split
 ·rw [Hw];omega
 omega
def r0t (k b:List UInt8):List UInt8:=c0f ((Qx (b1d k)).map (· ^^^92)++c0f ((Qx (b1d k)).map (· ^^^54)++b))
theorem p0o (k b:List UInt8):(r0t k b).length=32:=Hw _
theorem Uk (e1 e2:Bool) (x y:List UInt8):b0z [(e1,x),(e2,y)]=x++y:=by simp [b0z]
theorem v0o (e1:Bool) (x:List UInt8):b0z [(e1,x)]=x:=by simp [b0z]
theorem p1f (k b:List UInt8) (exk ex:Bool) (hk:k.length≤140737488351232) (hb:b.length≤140737488351232) (h64:¬64<k.length):
 CtM Tryz.prog 32 [.w (.one (.pl (.R exk 1 (Av k)))),.w (.one (.pl (.R ex 1 (Av b))))] [(1000002,⟨false,gFi⟩),(1000004,⟨false,j0h⟩)] (Told (fun v m=>v=.w (.agg (Az (r0t k b)))∧m=[])):=by
 have hlk:¬(64:Int)<((k.length:Nat):Int):=by omega
 obtain ⟨p,hpk⟩: ∃ p,Qx (b1d k)=p:=⟨_,rfl⟩
 have hmk:b1d k=k:=by rw [b1d,if_neg h64]
 have hp:p.length=64:=by rw [←hpk];exact Fy (l0l k)
 have hbp:Az k++Az (List.replicate (64-k.length) 0)=Az p:=by rw [←hpk,hmk,Qx];simp [Az]
 have hmi:min k.length 64=k.length:=by omega
 have hmi2:min 64 k.length=k.length:=by omega
 have htk:List.take k.length k=k:=wK
 have hdz:List.drop k.length (List.replicate 64 (0:UInt8))=List.replicate (64-k.length) 0:=List.drop_replicate
 have hk64:k.length≤64:=by omega
 have F0:=yA hlk<|yA hp<|yA hbp<|yA hmi<|yA hmi2<|yA htk<|yA hdz<|hk64
 refine CtM.go Tryz.func32 rfl Tryz.ntmps32 Tryz.results32 fun w0 ro may fx zZ zhY=>?_
 have zS:ZS 4:=⟨⟩
 refine (fun zX=>goW) ?_
 refine ⟨?_⟩;clear zS
 try refine x0s ?_
 refine m0e (id:=4) [14,15,16] (by simp only [go_sem]) fun zK zhK=>?_
 simp only [go_sem,F0]
 repeat' (first|apply yA|intro _)
 refine zhK _ _ ?_
 have zS:ZS 5:=⟨⟩
 refine (fun zX=>goW) ?_
 refine ⟨?_⟩;clear zS
 try refine x0s ?_
 refine m0e (id:=5) [17,18,19] (by simp only [go_sem]) fun zK zhK=>?_
 simp only [go_sem,F0]
 repeat' (first|apply yA|intro _)
 refine zhK _ _ ?_
 refine (fun zX=>goW) ?_
 refine Bv [0,8,9,10,11,12,13,14,15,16,17,18,19] ?_
 simp only [Bj,Cx,Bq,yI,yK,Nat.reduceBEq,beq_self_eq_true,yS,yV,yY,yT,yE,reduceIte]
 refine Gx (fun y=>[(20,.w (.one (.pl (.i ((y.1:Nat):Int)))))]) (fun y=>[(6,⟨false,Az (g0x 92 p y.1)⟩),(5,⟨false,Az (g0x 54 p y.1)⟩)]) (fun y=>64-y.1) (⟨0,xA _⟩:{y:Nat//y≤64}) ?_ (by (simp only [go_sem,leX,yB,yC];try simp)) (by (simp only [i0r,go_sem,leX,yB,yC];try simp))
 intro ⟨i,hi⟩ xN0 xM0 xhN0 xhM0
 simp only [yB,yC]
 rcases yZ i 64 with hlt|hge
 ·have hcq:((i:Nat):Int)<64:=by omega
  have hc0:(0:Int)≤((i:Nat):Int)∧i+1≤64:=by omega
  have hxl:=Pq (c:=54) (l:=p) (i:=i)
  have hyl:=Pq (c:=92) (l:=p) (i:=i)
  rw [hp] at hxl hyl
  have hx1:=Lv (q:=g0x 54 p i) (i:=i) (by omega)
  have hy1:=Lv (q:=g0x 92 p i) (i:=i) (by omega)
  rw [i0s (by omega)] at hx1 hy1
  have hxs:=Zz (c:=54) (l:=p) (i:=i) (by omega)
  have hys:=Zz (c:=92) (l:=p) (i:=i) (by omega)
  have hs1:Go.RowKit.wrap64 (((i:Nat):Int)+1)=((i+1:Nat):Int):=Gy (by omega) (by omega)
  have F0:=yA @Fj<|yA hcq<|yA hc0<|yA hxl<|yA hyl<|yA hx1<|yA hy1<|yA hxs<|yA hys<|yA hs1<|F0
  have zL:=fun S2=>xhN0 ⟨i+1,hlt⟩ S2 (by (exact yP hlt (yQ i)))
  exact goW
 obtain rfl:i=64:=by omega
 have hcq:¬((64:Nat):Int)<64:=by omega
 have hx:=b0h (c:=54) hp
 have hy:=b0h (c:=92) hp
 obtain ⟨px,hpx⟩: ∃ q,p.map (· ^^^(54:UInt8))=q:=⟨_,rfl⟩
 obtain ⟨py,hpy⟩: ∃ q,p.map (· ^^^(92:UInt8))=q:=⟨_,rfl⟩
 have hpxl:px.length=64:=by rw [←hpx,xO,hp]
 have hpyl:py.length=64:=by rw [←hpy,xO,hp]
 rw [hpx] at hx
 rw [hpy] at hy
 have hmac:r0t k b=c0f (py++c0f (px++b)):=by rw [r0t,hpk,hpx,hpy]
 simp only [hx,hy]
 have hkl:=Hw (px++b)
 have hS1:=f2r [(false,px),(ex,b)] false (by rw [Uk];intro e;have:=congrArg List.length e;rw [yG,hpxl,xW] at this;omega) (by rw [Uk,yG];omega) (by simp)
 rw [Uk] at hS1
 have hC1:=r2l [(false,py),(false,c0f (px++b))] false (by rw [Uk];intro e;have:=congrArg List.length e;rw [yG,hpyl,xW] at this;omega) (by rw [Uk,yG,hkl];omega) (by simp)
 rw [Uk] at hC1
 have hF1:=f1o (py++c0f (px++b)) (by rw [yG,hkl];omega) false
 have hal:(py++c0f (px++b)).length=96:=by rw [yG,hkl,hpyl]
 obtain ⟨z,hz⟩: ∃ z,py++c0f (px++b)=z:=⟨_,rfl⟩
 rw [hz] at hC1 hF1 hal hmac
 have hkz:=Hw z
 have F0:=yA hcq<|yA hpxl<|yA hpyl<|yA hkl<|yA hal<|yA hkz<|yA nest.eq_1<|F0
 refine (fun zX=>goW) ?_
 refine c1z (id:=12) mixed fun zE zhE=>?_
 refine Ij (p:=0) 5 [34,35,36,37,38] [0,0,0,6,14,31,63,127,255] [] rfl (by kernel_rfl) rfl (by simp only [go_sem]) fun zR zK zhR zhK=>?_
 simp only [go_sem,F0]
 repeat' (first|apply yA|intro _)
 all_goals (refine k0j rfl (fun _=>38) (.w (.one (.s 0 [(0,32)] 32 1))) [(0,⟨false,Az (c0f (px++b))⟩)] (fun _ _=>rfl) ?_ ?_ ?_ hS1.told ?_ ?_;(iterate 2 (focus (first|rfl|(simp only [go_sem,F0]<;>first|done|rfl|simp))));(first|kernel_rfl|rfl|simp [o0d,r0k,pls]))
 all_goals try (refine yA ?_ (yA ?_ (yA ?_ ?_))<;>(first|rfl|(simp only [go_sem,F0];done)|(simp [go_sem,look,F0];done)))
 all_goals (try simp only [go_sem,F0])
 all_goals (try simp only [go_sem,F0])
 all_goals repeat' (first|apply yA|intro _)
 refine zhK _ _ trivial (zhR _ ?_)
 refine Mx 4 9 rfl (by kernel_rfl) rfl rfl fun zR zhR=>?_
 simp only [go_sem,F0]
 repeat' (first|apply yA|intro _)
 all_goals (refine k0k (fun _=>40) (fun _ _=>rfl) ?_ ?_ hC1.told ?_;iterate 2 (focus (first|rfl|(simp only [go_sem,F0]<;>first|done|rfl|simp))))
 all_goals (rintro v m ⟨hR,hm⟩;subst hR;subst hm)
 all_goals (refine yA ?_ (yA ?_ ?_);iterate 2 (focus (first|rfl|(simp only [go_sem,F0];done)|(simp [go_sem,look,F0];done))))
 all_goals (try simp only [go_sem,F0])
 all_goals (try simp only [go_sem,F0])
 all_goals repeat' (first|apply yA|intro _)
 all_goals (refine Kz true [] (fun k=>k) (fun _ _=>rfl) ?_ (by decide) ?_ hF1.told ?_;iterate 2 (focus (first|rfl|(simp only [go_sem,F0]<;>first|done|rfl|simp))))
 all_goals (rintro v m ⟨hR,hm⟩;subst hR;subst hm)
 all_goals (refine yA ?_ (yA ?_ (yA ?_ ?_));iterate 3 (focus (first|rfl|(simp only [go_sem,F0];done)|(simp [go_sem,look,F0];done))))
 all_goals (try simp only [go_sem,F0])
 all_goals (try simp only [go_sem,F0])
 all_goals repeat' (first|apply yA|intro _)
 refine zhR _ ?_
 refine b0b rfl (zhE _ ?_)
 refine (fun zX=>goW) ?_
 refine zhY _ _ ?_
 simp only [go_sem,F0]
 all_goals (rw [hmac];exact told_plain (Vv _) ⟨rfl,rfl⟩)
theorem x1h (k b:List UInt8) (exk ex:Bool) (hk:k.length≤140737488351232) (hb:b.length≤140737488351232) (h64:64<k.length):
 CtM Tryz.prog 32 [.w (.one (.pl (.R exk 1 (Av k)))),.w (.one (.pl (.R ex 1 (Av b))))] [(1000002,⟨false,gFi⟩),(1000004,⟨false,j0h⟩)] (Told (fun v m=>v=.w (.agg (Az (r0t k b)))∧m=[])):=by
 have hlk:(64:Int)<((k.length:Nat):Int):=by omega
 obtain ⟨p,hpk⟩: ∃ p,Qx (b1d k)=p:=⟨_,rfl⟩
 have hmk:b1d k=c0f k:=by rw [b1d,if_pos h64]
 have hp:p.length=64:=by rw [←hpk];exact Fy (l0l k)
 have hskl:=Hw k
 have hpp:c0f k++List.replicate 32 0=p:=by rw [←hpk,hmk,Qx,hskl]
 have hbp:Az (c0f k)++Az (List.replicate 32 0)=Az p:=by rw [←hpp];simp [Az]
 have hS0:=f2r [(exk,k)] false (by rw [v0o];intro e;rw [e] at h64;simp at h64) (by rw [v0o];omega) (by simp)
 rw [v0o] at hS0
 have htk:List.take 32 (c0f k)=c0f k:=xE (by omega)
 have hdz:List.drop 32 (List.replicate 64 (0:UInt8))=List.replicate 32 0:=rfl
 have F0:=yA hlk<|yA hp<|yA hskl<|yA hbp<|yA htk<|yA hdz<|nest.eq_1
 refine CtM.go Tryz.func32 rfl Tryz.ntmps32 Tryz.results32 fun w0 ro may fx zZ zhY=>?_
 have zS:ZS 2:=⟨⟩
 refine (fun zX=>goW) ?_
 refine ⟨?_⟩;clear zS
 refine Cw fun zK zhK=>?_
 simp only [go_sem,F0]
 repeat' (first|apply yA|intro _)
 all_goals (refine k0k (fun _=>13) (fun _ _=>rfl) ?_ ?_ hS0.told ?_;iterate 2 (focus (first|rfl|(simp only [go_sem,F0]<;>first|done|rfl|simp))))
 all_goals (rintro v m ⟨hR,hm⟩;subst hR;subst hm)
 all_goals (refine yA ?_ (yA ?_ ?_);iterate 2 (focus (first|rfl|(simp only [go_sem,F0];done)|(simp [go_sem,look,F0];done))))
 all_goals (try simp only [go_sem,F0])
 all_goals (try simp only [go_sem,F0])
 all_goals repeat' (first|apply yA|intro _)
 refine zhK _ ?_
 have zS:ZS 4:=⟨⟩
 refine (fun zX=>goW) ?_
 refine ⟨?_⟩;clear zS
 try refine x0s ?_
 refine m0e (id:=4) [14,15,16] (by simp only [go_sem]) fun zK zhK=>?_
 simp only [go_sem,F0]
 repeat' (first|apply yA|intro _)
 refine zhK _ _ ?_
 have zS:ZS 5:=⟨⟩
 refine (fun zX=>goW) ?_
 refine ⟨?_⟩;clear zS
 try refine x0s ?_
 refine m0e (id:=5) [17,18,19] (by simp only [go_sem]) fun zK zhK=>?_
 simp only [go_sem,F0]
 repeat' (first|apply yA|intro _)
 refine zhK _ _ ?_
 refine (fun zX=>goW) ?_
 refine Bv [0,8,9,10,11,12,13,14,15,16,17,18,19] ?_
 simp only [Bj,Cx,Bq,yI,yK,Nat.reduceBEq,beq_self_eq_true,yS,yV,yY,yT,yE,reduceIte]
 refine Gx (fun y=>[(20,.w (.one (.pl (.i ((y.1:Nat):Int)))))]) (fun y=>[(6,⟨false,Az (g0x 92 p y.1)⟩),(5,⟨false,Az (g0x 54 p y.1)⟩)]) (fun y=>64-y.1) (⟨0,xA _⟩:{y:Nat//y≤64}) ?_ (by (simp only [go_sem,leX,yB,yC];try simp)) (by (simp only [i0r,go_sem,leX,yB,yC];(try simp);try (rw [htk];exact congrArg Az hpp)))
 intro ⟨i,hi⟩ xN0 xM0 xhN0 xhM0
 simp only [yB,yC]
 rcases yZ i 64 with hlt|hge
 ·have hcq:((i:Nat):Int)<64:=by omega
  have hc0:(0:Int)≤((i:Nat):Int)∧i+1≤64:=by omega
  have hxl:=Pq (c:=54) (l:=p) (i:=i)
  have hyl:=Pq (c:=92) (l:=p) (i:=i)
  rw [hp] at hxl hyl
  have hx1:=Lv (q:=g0x 54 p i) (i:=i) (by omega)
  have hy1:=Lv (q:=g0x 92 p i) (i:=i) (by omega)
  rw [i0s (by omega)] at hx1 hy1
  have hxs:=Zz (c:=54) (l:=p) (i:=i) (by omega)
  have hys:=Zz (c:=92) (l:=p) (i:=i) (by omega)
  have hs1:Go.RowKit.wrap64 (((i:Nat):Int)+1)=((i+1:Nat):Int):=Gy (by omega) (by omega)
  have F0:=yA @Fj<|yA hcq<|yA hc0<|yA hxl<|yA hyl<|yA hx1<|yA hy1<|yA hxs<|yA hys<|yA hs1<|F0
  have zL:=fun S2=>xhN0 ⟨i+1,hlt⟩ S2 (by (exact yP hlt (yQ i)))
  exact goW
 obtain rfl:i=64:=by omega
 have hcq:¬((64:Nat):Int)<64:=by omega
 have hx:=b0h (c:=54) hp
 have hy:=b0h (c:=92) hp
 obtain ⟨px,hpx⟩: ∃ q,p.map (· ^^^(54:UInt8))=q:=⟨_,rfl⟩
 obtain ⟨py,hpy⟩: ∃ q,p.map (· ^^^(92:UInt8))=q:=⟨_,rfl⟩
 have hpxl:px.length=64:=by rw [←hpx,xO,hp]
 have hpyl:py.length=64:=by rw [←hpy,xO,hp]
 rw [hpx] at hx
 rw [hpy] at hy
 have hmac:r0t k b=c0f (py++c0f (px++b)):=by rw [r0t,hpk,hpx,hpy]
 simp only [hx,hy]
 have hkl:=Hw (px++b)
 have hS1:=f2r [(false,px),(ex,b)] false (by rw [Uk];intro e;have:=congrArg List.length e;rw [yG,hpxl,xW] at this;omega) (by rw [Uk,yG];omega) (by simp)
 rw [Uk] at hS1
 have hC1:=r2l [(false,py),(false,c0f (px++b))] false (by rw [Uk];intro e;have:=congrArg List.length e;rw [yG,hpyl,xW] at this;omega) (by rw [Uk,yG,hkl];omega) (by simp)
 rw [Uk] at hC1
 have hF1:=f1o (py++c0f (px++b)) (by rw [yG,hkl];omega) false
 have hal:(py++c0f (px++b)).length=96:=by rw [yG,hkl,hpyl]
 obtain ⟨z,hz⟩: ∃ z,py++c0f (px++b)=z:=⟨_,rfl⟩
 rw [hz] at hC1 hF1 hal hmac
 have hkz:=Hw z
 have F0:=yA hcq<|yA hpxl<|yA hpyl<|yA hkl<|yA hal<|yA hkz<|yA nest.eq_1<|F0
 refine (fun zX=>goW) ?_
 refine c1z (id:=12) mixed fun zE zhE=>?_
 refine Ij (p:=0) 5 [34,35,36,37,38] [0,0,0,6,14,31,63,127,255] [] rfl (by kernel_rfl) rfl (by simp only [go_sem]) fun zR zK zhR zhK=>?_
 simp only [go_sem,F0]
 repeat' (first|apply yA|intro _)
 all_goals (refine k0j rfl (fun _=>38) (.w (.one (.s 0 [(0,32)] 32 1))) [(0,⟨false,Az (c0f (px++b))⟩)] (fun _ _=>rfl) ?_ ?_ ?_ hS1.told ?_ ?_;(iterate 2 (focus (first|rfl|(simp only [go_sem,F0]<;>first|done|rfl|simp))));(first|kernel_rfl|rfl|simp [o0d,r0k,pls]))
 all_goals try (refine yA ?_ (yA ?_ (yA ?_ ?_))<;>(first|rfl|(simp only [go_sem,F0];done)|(simp [go_sem,look,F0];done)))
 all_goals (try simp only [go_sem,F0])
 all_goals (try simp only [go_sem,F0])
 all_goals repeat' (first|apply yA|intro _)
 refine zhK _ _ trivial (zhR _ ?_)
 refine Mx 4 9 rfl (by kernel_rfl) rfl rfl fun zR zhR=>?_
 simp only [go_sem,F0]
 repeat' (first|apply yA|intro _)
 all_goals (refine k0k (fun _=>40) (fun _ _=>rfl) ?_ ?_ hC1.told ?_;iterate 2 (focus (first|rfl|(simp only [go_sem,F0]<;>first|done|rfl|simp))))
 all_goals (rintro v m ⟨hR,hm⟩;subst hR;subst hm)
 all_goals (refine yA ?_ (yA ?_ ?_);iterate 2 (focus (first|rfl|(simp only [go_sem,F0];done)|(simp [go_sem,look,F0];done))))
 all_goals (try simp only [go_sem,F0])
 all_goals (try simp only [go_sem,F0])
 all_goals repeat' (first|apply yA|intro _)
 all_goals (refine Kz true [] (fun k=>k) (fun _ _=>rfl) ?_ (by decide) ?_ hF1.told ?_;iterate 2 (focus (first|rfl|(simp only [go_sem,F0]<;>first|done|rfl|simp))))
 all_goals (rintro v m ⟨hR,hm⟩;subst hR;subst hm)
 all_goals (refine yA ?_ (yA ?_ (yA ?_ ?_));iterate 3 (focus (first|rfl|(simp only [go_sem,F0];done)|(simp [go_sem,look,F0];done))))
 all_goals (try simp only [go_sem,F0])
 all_goals (try simp only [go_sem,F0])
 all_goals repeat' (first|apply yA|intro _)
 refine zhR _ ?_
 refine b0b rfl (zhE _ ?_)
 refine (fun zX=>goW) ?_
 refine zhY _ _ ?_
 simp only [go_sem,F0]
 all_goals (rw [hmac];exact told_plain (Vv _) ⟨rfl,rfl⟩)
end Bk
end Go.Sy
namespace Go.Sy
namespace Bk
open Go.Proofs
attribute [local irreducible] Bw HT Aj Jk onC onE onO onG goV goA goS Lx Bz
theorem c1h (k b:List UInt8) (hk:k.length≤140737488351232) (hb:b.length≤140737488351232) (h64:¬64<k.length):
 CtM Tryz.prog 42 [.w (.one (.pl (.str k))),.w (.one (.pl (.str b)))] [(1000003,⟨false,gFi⟩)] (Told (fun v m=>v=.w (.agg (Az (r0t k b)))∧m=[])):=by
 have hlk:¬(64:Int)<((k.length:Nat):Int):=by omega
 have hmk:b1d k=k:=by rw [b1d,if_neg h64]
 obtain ⟨w,hw⟩: ∃ w,k=w:=⟨_,rfl⟩
 rw [hw] at hlk hmk
 have hwl:=l0l k
 obtain ⟨p,hpk⟩: ∃ p,Qx (b1d k)=p:=⟨_,rfl⟩
 have hp:p.length=64:=by rw [←hpk];exact Fy (l0l k)
 subst hw
 rw [hmk] at hwl
 have hpd:k++List.replicate (64-k.length) 0=p:=by rw [←hpk,hmk,Qx]
 have hml0:k.length+(64-k.length)≤9223372036854775807:=by omega
 have hN9:=n0w (64-k.length) (by omega)
 have hw1:Go.RowKit.wrap64 (64-((k.length:Nat):Int))=((64-k.length:Nat):Int):=Gy (by omega) (by omega)
 have F0:=yA hlk<|yA hp<|yA hpd<|yA hml0<|hw1
 refine CtM.go Tryz.func42 rfl Tryz.ntmps42 Tryz.results42 fun w0 ro may fx zZ zhY=>?_
 have cq:=yA ((hN9.plain fun _ _ h=>h))<|trivial
 refine (fun zX=>goW) ?_
 refine Bv [0,8,9,10,11,12,13,14,15,16,17,18,19,20,21,22,23,24] ?_
 simp only [Bj,Cx,Bq,yI,yK,Nat.reduceBEq,beq_self_eq_true,yS,yV,yY,yT,yE,reduceIte]
 refine Gx (fun y=>[(26,.w (.one (.pl (.i ((y.1:Nat):Int)))))]) (fun y=>[(23,⟨true,Az (g0x 92 p y.1)⟩),(21,⟨true,Az (g0x 54 p y.1)⟩)]) (fun y=>64-y.1) (⟨0,xA _⟩:{y:Nat//y≤64}) ?_ (by (simp only [go_sem,leX,yB,yC];try simp)) (by (simp only [i0r,go_sem,leX,yB,yC];try simp))
 intro ⟨i,hi⟩ xN0 xM0 xhN0 xhM0
 simp only [yB,yC]
 rcases yZ i 64 with hlt|hge
 ·have hcq:((i:Nat):Int)<64:=by omega
  have hc0:(0:Int)≤((i:Nat):Int)∧i+1≤64:=by omega
  have hxl:=Pq (c:=54) (l:=p) (i:=i)
  have hyl:=Pq (c:=92) (l:=p) (i:=i)
  rw [hp] at hxl hyl
  have hx1:=Lv (q:=g0x 54 p i) (i:=i) (by omega)
  have hy1:=Lv (q:=g0x 92 p i) (i:=i) (by omega)
  rw [i0s (by omega)] at hx1 hy1
  have hxs:=Zz (c:=54) (l:=p) (i:=i) (by omega)
  have hys:=Zz (c:=92) (l:=p) (i:=i) (by omega)
  have hs1:Go.RowKit.wrap64 (((i:Nat):Int)+1)=((i+1:Nat):Int):=Gy (by omega) (by omega)
  have F0:=yA @Fj<|yA hcq<|yA hc0<|yA hxl<|yA hyl<|yA hx1<|yA hy1<|yA hxs<|yA hys<|yA hs1<|F0
  have zL:=fun S2=>xhN0 ⟨i+1,hlt⟩ S2 (by (exact yP hlt (yQ i)))
  exact goW
 obtain rfl:i=64:=by omega
 have hcq:¬((64:Nat):Int)<64:=by omega
 have hx:=b0h (c:=54) hp
 have hy:=b0h (c:=92) hp
 obtain ⟨px,hpx⟩: ∃ q,p.map (· ^^^(54:UInt8))=q:=⟨_,rfl⟩
 obtain ⟨py,hpy⟩: ∃ q,p.map (· ^^^(92:UInt8))=q:=⟨_,rfl⟩
 have hpxl:px.length=64:=by rw [←hpx,xO,hp]
 have hpyl:py.length=64:=by rw [←hpy,xO,hp]
 rw [hpx] at hx
 rw [hpy] at hy
 have hmac:r0t k b=c0f (py++c0f (px++b)):=by rw [r0t,hpk,hpx,hpy]
 simp only [hx,hy]
 have hkl:=Hw (px++b)
 have hml:64+b.length≤9223372036854775807:=by omega
 have hF0:=p0x (px++b) (by rw [yG];omega)
 have hT0:=c2b (c0f (px++b)) hkl
 have hml2:64+32≤9223372036854775807:=by omega
 obtain ⟨z,hz⟩: ∃ z,py++c0f (px++b)=z:=⟨_,rfl⟩
 have hF1:=p0x z (by rw [←hz,yG,hkl];omega)
 have hkz:=Hw z
 rw [hz] at hmac
 have F0:=yA hcq<|yA hpxl<|yA hpyl<|yA hml<|yA hkl<|yA hml2<|yA hz<|yA hkz<|F0
 have cq:=yA hF0.told<|yA ((hT0.plain fun _ _ h=>h))<|yA (CtM.ch [] (hF1.told))<|trivial
 have zr0:DS 11:=⟨⟩
 have zq:DP 0 8 [42,43,44,45,46,47,48,49] [0,1,0,4,0,28,60,124,255,511,1023] []∧DN 3 11∧True:=⟨⟨⟩,⟨⟩,trivial⟩
 refine (fun zX=>goW) ?_
 refine zhY _ _ ?_
 simp only [go_sem,F0]
 all_goals (rw [hmac];exact told_plain (Vv _) ⟨rfl,rfl⟩)
theorem j1k (k b:List UInt8) (hk:k.length≤140737488351232) (hb:b.length≤140737488351232) (h64:64<k.length):
 CtM Tryz.prog 42 [.w (.one (.pl (.str k))),.w (.one (.pl (.str b)))] [(1000003,⟨false,gFi⟩)] (Told (fun v m=>v=.w (.agg (Az (r0t k b)))∧m=[])):=by
 have hlk:(64:Int)<((k.length:Nat):Int):=by omega
 have hmk:b1d k=c0f k:=by rw [b1d,if_pos h64]
 have hF9:=p0x k (by omega)
 have hT9:=c2b (c0f k) (Hw k)
 have hskl:=Hw k
 obtain ⟨w,hw⟩: ∃ w,c0f k=w:=⟨_,rfl⟩
 rw [hw] at hF9 hT9 hmk hskl
 have hwl:=l0l k
 obtain ⟨p,hpk⟩: ∃ p,Qx (b1d k)=p:=⟨_,rfl⟩
 have hp:p.length=64:=by rw [←hpk];exact Fy (l0l k)
 rw [hmk] at hwl
 have hpd:w++List.replicate (64-w.length) 0=p:=by rw [←hpk,hmk,Qx]
 have hml0:w.length+(64-w.length)≤9223372036854775807:=by omega
 have hN9:=n0w (64-w.length) (by omega)
 have hw1:Go.RowKit.wrap64 (64-((w.length:Nat):Int))=((64-w.length:Nat):Int):=Gy (by omega) (by omega)
 have F0:=yA hlk<|yA hp<|yA hpd<|yA hml0<|hw1
 refine CtM.go Tryz.func42 rfl Tryz.ntmps42 Tryz.results42 fun w0 ro may fx zZ zhY=>?_
 have cq:=yA (CtM.ch [] (hF9.told))<|yA ((hT9.plain fun _ _ h=>h))<|yA ((hN9.plain fun _ _ h=>h))<|trivial
 refine (fun zX=>goW) ?_
 refine Bv [0,8,9,10,11,12,13,14,15,16,17,18,19,20,21,22,23,24] ?_
 simp only [Bj,Cx,Bq,yI,yK,Nat.reduceBEq,beq_self_eq_true,yS,yV,yY,yT,yE,reduceIte]
 refine Gx (fun y=>[(26,.w (.one (.pl (.i ((y.1:Nat):Int)))))]) (fun y=>[(23,⟨true,Az (g0x 92 p y.1)⟩),(21,⟨true,Az (g0x 54 p y.1)⟩)]) (fun y=>64-y.1) (⟨0,xA _⟩:{y:Nat//y≤64}) ?_ (by (simp only [go_sem,leX,yB,yC];try simp)) (by (simp only [i0r,go_sem,leX,yB,yC];try simp))
 intro ⟨i,hi⟩ xN0 xM0 xhN0 xhM0
 simp only [yB,yC]
 rcases yZ i 64 with hlt|hge
 ·have hcq:((i:Nat):Int)<64:=by omega
  have hc0:(0:Int)≤((i:Nat):Int)∧i+1≤64:=by omega
  have hxl:=Pq (c:=54) (l:=p) (i:=i)
  have hyl:=Pq (c:=92) (l:=p) (i:=i)
  rw [hp] at hxl hyl
  have hx1:=Lv (q:=g0x 54 p i) (i:=i) (by omega)
  have hy1:=Lv (q:=g0x 92 p i) (i:=i) (by omega)
  rw [i0s (by omega)] at hx1 hy1
  have hxs:=Zz (c:=54) (l:=p) (i:=i) (by omega)
  have hys:=Zz (c:=92) (l:=p) (i:=i) (by omega)
  have hs1:Go.RowKit.wrap64 (((i:Nat):Int)+1)=((i+1:Nat):Int):=Gy (by omega) (by omega)
  have F0:=yA @Fj<|yA hcq<|yA hc0<|yA hxl<|yA hyl<|yA hx1<|yA hy1<|yA hxs<|yA hys<|yA hs1<|F0
  have zL:=fun S2=>xhN0 ⟨i+1,hlt⟩ S2 (by (exact yP hlt (yQ i)))
  exact goW
 obtain rfl:i=64:=by omega
 have hcq:¬((64:Nat):Int)<64:=by omega
 have hx:=b0h (c:=54) hp
 have hy:=b0h (c:=92) hp
 obtain ⟨px,hpx⟩: ∃ q,p.map (· ^^^(54:UInt8))=q:=⟨_,rfl⟩
 obtain ⟨py,hpy⟩: ∃ q,p.map (· ^^^(92:UInt8))=q:=⟨_,rfl⟩
 have hpxl:px.length=64:=by rw [←hpx,xO,hp]
 have hpyl:py.length=64:=by rw [←hpy,xO,hp]
 rw [hpx] at hx
 rw [hpy] at hy
 have hmac:r0t k b=c0f (py++c0f (px++b)):=by rw [r0t,hpk,hpx,hpy]
 simp only [hx,hy]
 have hkl:=Hw (px++b)
 have hml:64+b.length≤9223372036854775807:=by omega
 have hF0:=p0x (px++b) (by rw [yG];omega)
 have hT0:=c2b (c0f (px++b)) hkl
 have hml2:64+32≤9223372036854775807:=by omega
 obtain ⟨z,hz⟩: ∃ z,py++c0f (px++b)=z:=⟨_,rfl⟩
 have hF1:=p0x z (by rw [←hz,yG,hkl];omega)
 have hkz:=Hw z
 rw [hz] at hmac
 have F0:=yA hcq<|yA hpxl<|yA hpyl<|yA hml<|yA hkl<|yA hml2<|yA hz<|yA hkz<|F0
 have cq:=yA hF0.told<|yA ((hT0.plain fun _ _ h=>h))<|yA (CtM.ch [] (hF1.told))<|trivial
 have zr0:DS 11:=⟨⟩
 have zq:DP 0 8 [42,43,44,45,46,47,48,49] [0,1,0,4,0,28,60,124,255,511,1023] []∧DN 3 11∧True:=⟨⟨⟩,⟨⟩,trivial⟩
 refine (fun zX=>goW) ?_
 refine zhY _ _ ?_
 simp only [go_sem,F0]
 all_goals (rw [hmac];exact told_plain (Vv _) ⟨rfl,rfl⟩)
end Bk
end Go.Sy
