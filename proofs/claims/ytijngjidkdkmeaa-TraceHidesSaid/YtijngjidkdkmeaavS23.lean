/- Walks and what they compute. CONDITIONS: those that each theorem names. -/
import Derived.Test.YtijngjidkdkmeaavE3
import Derived.Test.YtijngjidkdkmeaavS22
import Derived.Test.YtijngjidkdkmeaavE2
set_option linter.unusedVariables false
set_option linter.unusedSimpArgs false
set_option maxHeartbeats 3200000
set_option maxRecDepth 100000
namespace Go.Sy
open Go.Proofs
attribute [local irreducible] Cj HT Bv Rj onC onE onO onG goV goA goS Tj Ck
def Hw (l:List (Bool×Int)):List (List PL):=l.map fun x=>[.i (Hz x.1),.i x.2]
theorem v0y (l:List (Bool×Int)):(Hw l).length=l.length:=by simp [Hw]
theorem h0n {l:List (Bool×Int)} {n:Nat} (h:n<l.length):(Hw l).getD n []=[.i (Hz (l.getD n (false,0)).1),.i (l.getD n (false,0)).2]:=by simp [Hw,List.getD,vD,yX h]
def m0x (l:List (Bool×Int)) (who t:Int):Bool:=l.any fun x=>decide (x.2=t)&&(decide (who<0)||decide (Hz x.1=who))
theorem Pq (l:List (Bool×Int)) (w:Bool) (t:Int):m0x l (Hz w) t=hap l w t:=by
 unfold m0x hap
 congr 1;funext x
 cases w<;>cases x.1<;>simp [Hz]
theorem g1m (l:List (Bool×Int)) (t:Int):m0x l (-1) t=any l t:=by
 unfold m0x any
 congr 1;funext x
 simp
theorem k0i (a:Bool×Int) (l:List (Bool×Int)) (who t:Int):m0x (a::l) who t=((decide (a.2=t)&&(decide (who<0)||decide (Hz a.1=who)))||m0x l who t):=by simp [m0x]
theorem Mk (l:List (Bool×Int)) (ex:Bool) (sz:Nat) (hsz:l≠[]→sz=2) (hl:l.length≤9223372036854775807) (who t:Int):
 Ct Try.prog 50 [.w (.one (.pl (.R ex sz (Hw l)))),.w (.one (.pl (.i who))),.w (.one (.pl (.i t)))] (fun v m=>v=.w (.one (.pl (.b (m0x l who t))))):=by
 have F0:=@v0y
 refine Ct.go Try.func50 rfl Try.ntmps50 Try.results50 fun w0 ro zZ zhY=>?_
 refine (fun zX=>goW) ?_
 refine Nw (fun y=>[(11,.w (.one (.pl (.i ((y.1:Nat):Int)))))]) (fun _=>[]) (fun y=>l.length-y.1) (⟨0,yP _,rfl⟩:{y:Nat//y≤l.length∧m0x (l.drop y) who t=m0x l who t}) ?_
 intro yy xN0 xM0 xhN0 xhM0
 simp only [yC,yD]
 obtain ⟨j,h1,h4⟩:=yy
 try simp only at h1 h4
 have hd:(j<l.length∧¬(l.getD j (false,0)).2=t)∨(j<l.length∧(l.getD j (false,0)).2=t∧who<0)∨(j<l.length∧(l.getD j (false,0)).2=t∧¬who<0∧Hz (l.getD j (false,0)).1=who)∨(j<l.length∧(l.getD j (false,0)).2=t∧¬who<0∧¬Hz (l.getD j (false,0)).1=who)∨j=l.length:=by omega
 rcases hd with ⟨hlt,ha⟩|⟨hlt,ha,hb⟩|⟨hlt,ha,hb,hc⟩|⟨hlt,ha,hb,hc⟩|rfl
 ·have hcq:((j:Nat):Int)<((l.length:Nat):Int):=by omega
  have hj:(0:Int)≤((j:Nat):Int):=by omega
  have hz2:=hsz (by intro e;rw [e] at hlt;exact absurd hlt (Nat.not_lt_zero _))
  subst hz2
  have hg:=h0n hlt
  obtain ⟨⟨wx,x⟩,hx⟩: ∃ x,l.getD j (false,0)=x:=⟨_,rfl⟩
  rw [Ak (z:=(false,0)) hlt,k0i,hx] at h4
  rw [hx] at ha hg
  simp only at ha hg
  have hs1:Go.RowKit.wrap64 (((j:Nat):Int)+1)=((j+1:Nat):Int):=b0l (by omega) (by omega)
  rw [decide_eq_false ha,wJ,xD] at h4
  have F0:=yA hcq<|yA hj<|yA hlt<|yA hg<|yA hs1<|yA ha<|F0
  have zL:=fun S2=>xhN0 ⟨j+1,hlt,h4⟩ S2 (by (exact yB hlt (yE j)))
  exact goW
 ·have hcq:((j:Nat):Int)<((l.length:Nat):Int):=by omega
  have hj:(0:Int)≤((j:Nat):Int):=by omega
  have hz2:=hsz (by intro e;rw [e] at hlt;exact absurd hlt (Nat.not_lt_zero _))
  subst hz2
  have hg:=h0n hlt
  obtain ⟨⟨wx,x⟩,hx⟩: ∃ x,l.getD j (false,0)=x:=⟨_,rfl⟩
  rw [Ak (z:=(false,0)) hlt,k0i,hx] at h4
  rw [hx] at ha hg
  simp only at ha hg
  have hs1:Go.RowKit.wrap64 (((j:Nat):Int)+1)=((j+1:Nat):Int):=b0l (by omega) (by omega)
  rw [decide_eq_true ha,decide_eq_true hb] at h4
  simp only [xO,Bool.and_true,xY] at h4
  subst ha
  have F0:=yA hcq<|yA hj<|yA hlt<|yA hg<|yA hs1<|yA hb<|F0
  refine (fun zX=>goW) ?_
  refine zhY _ _ ?_
  simp only [go_sem,F0]
  all_goals (rw [←h4])
 ·have hcq:((j:Nat):Int)<((l.length:Nat):Int):=by omega
  have hj:(0:Int)≤((j:Nat):Int):=by omega
  have hz2:=hsz (by intro e;rw [e] at hlt;exact absurd hlt (Nat.not_lt_zero _))
  subst hz2
  have hg:=h0n hlt
  obtain ⟨⟨wx,x⟩,hx⟩: ∃ x,l.getD j (false,0)=x:=⟨_,rfl⟩
  rw [Ak (z:=(false,0)) hlt,k0i,hx] at h4
  rw [hx] at ha hc hg
  simp only at ha hc hg
  have hs1:Go.RowKit.wrap64 (((j:Nat):Int)+1)=((j+1:Nat):Int):=b0l (by omega) (by omega)
  rw [decide_eq_true ha,decide_eq_true hc] at h4
  simp only [xP,xO,Bool.and_true,xY] at h4
  subst ha
  have F0:=yA hcq<|yA hj<|yA hlt<|yA hg<|yA hs1<|yA hb<|yA hc<|F0
  refine (fun zX=>goW) ?_
  refine zhY _ _ ?_
  simp only [go_sem,F0]
  all_goals (rw [←h4])
 ·have hcq:((j:Nat):Int)<((l.length:Nat):Int):=by omega
  have hj:(0:Int)≤((j:Nat):Int):=by omega
  have hz2:=hsz (by intro e;rw [e] at hlt;exact absurd hlt (Nat.not_lt_zero _))
  subst hz2
  have hg:=h0n hlt
  obtain ⟨⟨wx,x⟩,hx⟩: ∃ x,l.getD j (false,0)=x:=⟨_,rfl⟩
  rw [Ak (z:=(false,0)) hlt,k0i,hx] at h4
  rw [hx] at ha hc hg
  simp only at ha hc hg
  have hs1:Go.RowKit.wrap64 (((j:Nat):Int)+1)=((j+1:Nat):Int):=b0l (by omega) (by omega)
  rw [decide_eq_true ha,decide_eq_false hb,decide_eq_false hc] at h4
  simp only [xM,Bool.and_false,xD] at h4
  subst ha
  have F0:=yA hcq<|yA hj<|yA hlt<|yA hg<|yA hs1<|yA hb<|yA hc<|F0
  have zL:=fun S2=>xhN0 ⟨j+1,hlt,h4⟩ S2 (by (exact yB hlt (yE j)))
  exact goW
 rw [yG] at h4
 have hcq:¬((l.length:Nat):Int)<((l.length:Nat):Int):=by omega
 have F0:=yA hcq<|F0
 refine (fun zX=>goW) ?_
 refine zhY _ _ ?_
 simp only [go_sem,F0]
 all_goals (rw [←h4];rfl)
theorem v0v (ls:List (List Int)) (ex:Bool) (hn:ls.length≤7):
 Ct Try.prog 49 [.w (.one (.pl (.R ex 1 (a0u ls))))] (fun v m=>v=.w (.one (.pl (.i (scan ls))))):=by
 have F0:=yA @Fz<|@Fx
 refine Ct.go Try.func49 rfl Try.ntmps49 Try.results49 fun w0 ro zZ zhY=>?_
 refine (fun zX=>goW) ?_
 refine Nw (fun y=>[(9,.w (.one (.pl (.i ((y.1:Nat):Int)))))]) (fun _=>[]) (fun y=>ls.length-y.1) (⟨0,yP _,rfl⟩:{y:Nat//y≤ls.length∧scan (ls.drop y)=scan ls}) ?_
 intro yy xN0 xM0 xhN0 xhM0
 simp only [yC,yD]
 obtain ⟨i,h1,h4⟩:=yy
 have hd:(i<ls.length∧6<(ls.getD i []).length)∨(i<ls.length∧¬6<(ls.getD i []).length)∨i=ls.length:=by omega
 rcases hd with ⟨hlt,hlg⟩|⟨hlt,hlg⟩|rfl
 ·try simp only at h1 h4
  have hcq:((i:Nat):Int)<((ls.length:Nat):Int):=by omega
  have hi0:(0:Int)≤((i:Nat):Int):=by omega
  have hil:i<ls.length:=hlt
  have hg:=Vq hil
  obtain ⟨l,hl⟩: ∃ l,ls.getD i []=l:=⟨_,rfl⟩
  rw [Ak (z:=[]) hil,scan,hl] at h4
  rw [hl] at hg hlg
  rw [if_pos hlg] at h4
  have hlg2:(6:Int)<((l.length:Nat):Int):=by omega
  have F0:=yA hcq<|yA hi0<|yA hil<|yA hg<|yA hlg2<|F0
  refine (fun zX=>goW) ?_
  refine zhY _ _ ?_
  simp only [go_sem,F0]
  all_goals (rw [←h4])
 ·try simp only at h1 h4
  have hcq:((i:Nat):Int)<((ls.length:Nat):Int):=by omega
  have hi0:(0:Int)≤((i:Nat):Int):=by omega
  have hil:i<ls.length:=hlt
  have hg:=Vq hil
  obtain ⟨l,hl⟩: ∃ l,ls.getD i []=l:=⟨_,rfl⟩
  rw [Ak (z:=[]) hil,scan,hl] at h4
  rw [hl] at hg hlg
  rw [if_neg hlg] at h4
  have hlg2:¬(6:Int)<((l.length:Nat):Int):=by omega
  have F0:=yA hcq<|yA hi0<|yA hil<|yA hg<|yA hlg2<|F0
  refine (fun zX=>goW) ?_
  refine Nw (fun y=>[(18,.w (.one (.pl (.i ((y.1:Nat):Int)))))]) (fun _=>[]) (fun y=>l.length-y.1) (⟨0,yP _,rfl⟩:{y:Nat//y≤l.length∧a0d (l.drop y)=a0d l}) ?_
  intro zz xN1 xM1 xhN1 xhM1
  simp only [yC,yD]
  obtain ⟨j,g1,g4⟩:=zz
  have hd:(j<l.length∧l.getD j 0<1)∨(j<l.length∧¬l.getD j 0<1∧7<l.getD j 0)∨(j<l.length∧¬(l.getD j 0<1∨7<l.getD j 0))∨j=l.length:=by omega
  rcases hd with ⟨glt,hbad⟩|⟨glt,hbad,hb2⟩|⟨glt,hbad⟩|rfl
  ·try simp only at g1 g4
   have gcq:((j:Nat):Int)<((l.length:Nat):Int):=by omega
   have gj:(0:Int)≤((j:Nat):Int):=by omega
   have gg:=Bj glt
   obtain ⟨x,hx⟩: ∃ x,l.getD j 0=x:=⟨_,rfl⟩
   rw [Ak (z:=0) glt,a0d,hx] at g4
   rw [hx] at hbad gg
   rw [if_pos (.inl hbad)] at g4
   rw [if_neg (by rw [←g4];decide),←g4] at h4
   have F0:=yA gcq<|yA gj<|yA glt<|yA gg<|yA hbad<|F0
   refine (fun zX=>goW) ?_
   refine zhY _ _ ?_
   simp only [go_sem,F0]
   all_goals (rw [←h4])
  ·try simp only at g1 g4
   have gcq:((j:Nat):Int)<((l.length:Nat):Int):=by omega
   have gj:(0:Int)≤((j:Nat):Int):=by omega
   have gg:=Bj glt
   obtain ⟨x,hx⟩: ∃ x,l.getD j 0=x:=⟨_,rfl⟩
   rw [Ak (z:=0) glt,a0d,hx] at g4
   rw [hx] at hbad hb2 gg
   rw [if_pos (.inr hb2)] at g4
   rw [if_neg (by rw [←g4];decide),←g4] at h4
   have F0:=yA gcq<|yA gj<|yA glt<|yA gg<|yA hbad<|yA hb2<|F0
   refine (fun zX=>goW) ?_
   refine zhY _ _ ?_
   simp only [go_sem,F0]
   all_goals (rw [←h4])
  ·try simp only at g1 g4
   have gcq:((j:Nat):Int)<((l.length:Nat):Int):=by omega
   have gj:(0:Int)≤((j:Nat):Int):=by omega
   have gg:=Bj glt
   obtain ⟨x,hx⟩: ∃ x,l.getD j 0=x:=⟨_,rfl⟩
   rw [Ak (z:=0) glt,a0d,hx] at g4
   rw [hx] at hbad gg
   rw [if_neg hbad] at g4
   have hb1:¬x<1:=by omega
   have hb2:¬7<x:=by omega
   have gs1:Go.RowKit.wrap64 (((j:Nat):Int)+1)=((j+1:Nat):Int):=b0l (by omega) (by omega)
   have F0:=yA gcq<|yA gj<|yA glt<|yA gg<|yA hb1<|yA hb2<|yA gs1<|F0
   have zL:=fun S2=>xhN1 ⟨j+1,glt,g4⟩ S2 (by (exact yB glt (yE j)))
   exact goW
  try simp only at g1 g4
  rw [yG,a0d] at g4
  have gcq:¬((l.length:Nat):Int)<((l.length:Nat):Int):=by omega
  rw [if_pos g4.symm] at h4
  have hs1:Go.RowKit.wrap64 (((i:Nat):Int)+1)=((i+1:Nat):Int):=b0l (by omega) (by omega)
  have F0:=yA gcq<|yA hs1<|F0
  have zL:=fun S2=>xhN0 ⟨i+1,hlt,h4⟩ S2 (by (exact yB hlt (yE i)))
  exact goW
 try simp only at h1 h4
 have hcq:¬((ls.length:Nat):Int)<((ls.length:Nat):Int):=by omega
 rw [yG,scan] at h4
 have F0:=yA hcq<|F0
 refine (fun zX=>goW) ?_
 refine zhY _ _ ?_
 simp only [go_sem,F0]
 all_goals (rw [←h4])
end Go.Sy
namespace Go.Sy
open Go.Proofs
attribute [local irreducible] Cj HT Bv Rj onC onE onO onG goV goA goS Tj Ck
theorem q2j (l:List (Bool×Int)) (ex:Bool) (sz:Nat) (hsz:l≠[]→sz=2) (hl:l.length≤9223372036854775807) (t:Int):
 CtM Try.prog 53 ([.w (.one (.pl (.i t)))]++[500000].map fun k=>.w (.one (.p k []))) [(500000,⟨false,[.pl (.R ex sz (Hw l))]⟩)] (Told (fun v m=>v=.w (.one (.pl (.b (any l t))))∧m=[(500000,⟨false,[.pl (.R ex sz (Hw l))]⟩)])):=by
 have hc:=Mk l ex sz hsz hl (-1) t
 rw [g1m] at hc
 have F0:=trivial
 refine CtM.go Try.func53 rfl Try.ntmps53 Try.results53 fun w0 ro may fx zZ zhY=>?_
 have cq:=yA ((hc.plain fun _ _ h=>h))<|trivial
 refine (fun zX=>goW) ?_
 refine zhY _ _ ?_
 simp only [go_sem,F0]
 all_goals (exact Av rfl (Bz (by simp [look])) ⟨rfl,rfl⟩)
theorem Ny (l:List (Bool×Int)) (ex:Bool) (sz:Nat) (hsz:l≠[]→sz=2) (hl:l.length≤9223372036854775807) (t:Int):CtM Try.prog 53 ([.w (.one (.pl (.i t)))]++[500000].map fun k=>.w (.one (.p k []))) [(500000,⟨false,[.pl (.R ex sz (Hw l))]⟩)] (fun v m=>v=.w (.one (.pl (.b (any l t))))∧m=[(500000,⟨false,[.pl (.R ex sz (Hw l))]⟩)]):=(q2j l ex sz hsz hl t).told
theorem Qj (l:List (Bool×Int)) (ex:Bool) (sz:Nat) (hsz:l≠[]→sz=2) (hl:l.length≤9223372036854775807) (h7:any l 7=true) (hh:hap l false 1=false):
 Ct Try.prog 51 [.w (.one (.pl (.R ex sz (Hw l)))),.w (.one (.pl (.i 0)))] (fun v m=>v=.w (.one (.pl (.b false)))):=by
 have ch:=Mk l ex sz hsz hl 0 1
 rw [show m0x l 0 1=hap l false 1 from Pq l false 1,hh] at ch
 have c7:=Ny l ex sz hsz hl 7
 rw [h7] at c7
 have F0:=trivial
 have cv0:=Ct.cv (ch)
 have cf0:=c7
 have cg0:=CF.mk [2] [(500000,2)]
 exact Ct.go Try.func51 rfl Try.ntmps51 Try.results51
theorem c0q (l:List (Bool×Int)) (ex:Bool) (sz:Nat) (hsz:l≠[]→sz=2) (hl:l.length≤9223372036854775807) (h7:any l 7=false) (h5:any l 5=true) (h3:any l 3=false):
 Ct Try.prog 51 [.w (.one (.pl (.R ex sz (Hw l)))),.w (.one (.pl (.i 0)))] (fun v m=>v=.w (.one (.pl (.b false)))):=by
 have c7:=Ny l ex sz hsz hl 7
 rw [h7] at c7
 have c5:=Ny l ex sz hsz hl 5
 rw [h5] at c5
 have c3:=Ny l ex sz hsz hl 3
 rw [h3] at c3
 have F0:=trivial
 have cf0:=c7
 have cg0:=CF.mk [2] [(500000,2)]
 have cf1:=c5
 have cg1:=CF.mk [2] [(500000,2)]
 have cf2:=c3
 have cg2:=CF.mk [2] [(500000,2)]
 exact Ct.go Try.func51 rfl Try.ntmps51 Try.results51
theorem c0p (l:List (Bool×Int)) (ex:Bool) (sz:Nat) (hsz:l≠[]→sz=2) (hl:l.length≤9223372036854775807) (h7:any l 7=false) (h5:any l 5=false) (h6:any l 6=false):
 Ct Try.prog 51 [.w (.one (.pl (.R ex sz (Hw l)))),.w (.one (.pl (.i 0)))] (fun v m=>v=.w (.one (.pl (.b true)))):=by
 have c7:=Ny l ex sz hsz hl 7
 rw [h7] at c7
 have c5:=Ny l ex sz hsz hl 5
 rw [h5] at c5
 have c6:=Ny l ex sz hsz hl 6
 rw [h6] at c6
 have F0:=trivial
 have cf0:=c7
 have cg0:=CF.mk [2] [(500000,2)]
 have cf1:=c5
 have cg1:=CF.mk [2] [(500000,2)]
 have cf2:=c6
 have cg2:=CF.mk [2] [(500000,2)]
 exact Ct.go Try.func51 rfl Try.ntmps51 Try.results51
theorem o0d (l:List (Bool×Int)) (ex:Bool) (sz:Nat) (hsz:l≠[]→sz=2) (hl:l.length≤9223372036854775807) (h7:any l 7=false) (h5:any l 5=false) (h6:any l 6=true) (h4:any l 4=true):
 Ct Try.prog 51 [.w (.one (.pl (.R ex sz (Hw l)))),.w (.one (.pl (.i 0)))] (fun v m=>v=.w (.one (.pl (.b true)))):=by
 have c7:=Ny l ex sz hsz hl 7
 rw [h7] at c7
 have c5:=Ny l ex sz hsz hl 5
 rw [h5] at c5
 have c6:=Ny l ex sz hsz hl 6
 rw [h6] at c6
 have c4:=Ny l ex sz hsz hl 4
 rw [h4] at c4
 have F0:=trivial
 have cf0:=c7
 have cg0:=CF.mk [2] [(500000,2)]
 have cf1:=c5
 have cg1:=CF.mk [2] [(500000,2)]
 have cf2:=c6
 have cg2:=CF.mk [2] [(500000,2)]
 have cf3:=c4
 have cg3:=CF.mk [2] [(500000,2)]
 exact Ct.go Try.func51 rfl Try.ntmps51 Try.results51
theorem o0c (l:List (Bool×Int)) (ex:Bool) (sz:Nat) (hsz:l≠[]→sz=2) (hl:l.length≤9223372036854775807) (h7:any l 7=false) (h5:any l 5=false) (h6:any l 6=true) (h4:any l 4=false):
 Ct Try.prog 51 [.w (.one (.pl (.R ex sz (Hw l)))),.w (.one (.pl (.i 0)))] (fun v m=>v=.w (.one (.pl (.b false)))):=by
 have c7:=Ny l ex sz hsz hl 7
 rw [h7] at c7
 have c5:=Ny l ex sz hsz hl 5
 rw [h5] at c5
 have c6:=Ny l ex sz hsz hl 6
 rw [h6] at c6
 have c4:=Ny l ex sz hsz hl 4
 rw [h4] at c4
 have F0:=trivial
 have cf0:=c7
 have cg0:=CF.mk [2] [(500000,2)]
 have cf1:=c5
 have cg1:=CF.mk [2] [(500000,2)]
 have cf2:=c6
 have cg2:=CF.mk [2] [(500000,2)]
 have cf3:=c4
 have cg3:=CF.mk [2] [(500000,2)]
 exact Ct.go Try.func51 rfl Try.ntmps51 Try.results51
theorem o0b (l:List (Bool×Int)) (ex:Bool) (sz:Nat) (hsz:l≠[]→sz=2) (hl:l.length≤9223372036854775807) (h7:any l 7=false) (h5:any l 5=true) (h3:any l 3=true) (h6:any l 6=false):
 Ct Try.prog 51 [.w (.one (.pl (.R ex sz (Hw l)))),.w (.one (.pl (.i 0)))] (fun v m=>v=.w (.one (.pl (.b true)))):=by
 have c7:=Ny l ex sz hsz hl 7
 rw [h7] at c7
 have c5:=Ny l ex sz hsz hl 5
 rw [h5] at c5
 have c3:=Ny l ex sz hsz hl 3
 rw [h3] at c3
 have c6:=Ny l ex sz hsz hl 6
 rw [h6] at c6
 have F0:=trivial
 have cf0:=c7
 have cg0:=CF.mk [2] [(500000,2)]
 have cf1:=c5
 have cg1:=CF.mk [2] [(500000,2)]
 have cf2:=c3
 have cg2:=CF.mk [2] [(500000,2)]
 have cf3:=c6
 have cg3:=CF.mk [2] [(500000,2)]
 exact Ct.go Try.func51 rfl Try.ntmps51 Try.results51
theorem f1n (l:List (Bool×Int)) (ex:Bool) (sz:Nat) (hsz:l≠[]→sz=2) (hl:l.length≤9223372036854775807) (h7:any l 7=false) (h5:any l 5=true) (h3:any l 3=true) (h6:any l 6=true) (h4:any l 4=true):
 Ct Try.prog 51 [.w (.one (.pl (.R ex sz (Hw l)))),.w (.one (.pl (.i 0)))] (fun v m=>v=.w (.one (.pl (.b true)))):=by
 have c7:=Ny l ex sz hsz hl 7
 rw [h7] at c7
 have c5:=Ny l ex sz hsz hl 5
 rw [h5] at c5
 have c3:=Ny l ex sz hsz hl 3
 rw [h3] at c3
 have c6:=Ny l ex sz hsz hl 6
 rw [h6] at c6
 have c4:=Ny l ex sz hsz hl 4
 rw [h4] at c4
 have F0:=trivial
 have cf0:=c7
 have cg0:=CF.mk [2] [(500000,2)]
 have cf1:=c5
 have cg1:=CF.mk [2] [(500000,2)]
 have cf2:=c3
 have cg2:=CF.mk [2] [(500000,2)]
 have cf3:=c6
 have cg3:=CF.mk [2] [(500000,2)]
 have cf4:=c4
 have cg4:=CF.mk [2] [(500000,2)]
 exact Ct.go Try.func51 rfl Try.ntmps51 Try.results51
theorem f1m (l:List (Bool×Int)) (ex:Bool) (sz:Nat) (hsz:l≠[]→sz=2) (hl:l.length≤9223372036854775807) (h7:any l 7=false) (h5:any l 5=true) (h3:any l 3=true) (h6:any l 6=true) (h4:any l 4=false):
 Ct Try.prog 51 [.w (.one (.pl (.R ex sz (Hw l)))),.w (.one (.pl (.i 0)))] (fun v m=>v=.w (.one (.pl (.b false)))):=by
 have c7:=Ny l ex sz hsz hl 7
 rw [h7] at c7
 have c5:=Ny l ex sz hsz hl 5
 rw [h5] at c5
 have c3:=Ny l ex sz hsz hl 3
 rw [h3] at c3
 have c6:=Ny l ex sz hsz hl 6
 rw [h6] at c6
 have c4:=Ny l ex sz hsz hl 4
 rw [h4] at c4
 have F0:=trivial
 have cf0:=c7
 have cg0:=CF.mk [2] [(500000,2)]
 have cf1:=c5
 have cg1:=CF.mk [2] [(500000,2)]
 have cf2:=c3
 have cg2:=CF.mk [2] [(500000,2)]
 have cf3:=c6
 have cg3:=CF.mk [2] [(500000,2)]
 have cf4:=c4
 have cg4:=CF.mk [2] [(500000,2)]
 exact Ct.go Try.func51 rfl Try.ntmps51 Try.results51
theorem o0a (l:List (Bool×Int)) (ex:Bool) (sz:Nat) (hsz:l≠[]→sz=2) (hl:l.length≤9223372036854775807) (h7:any l 7=true) (h5:any l 5=true) (h3:any l 3=false) (hh:hap l false 1=true):
 Ct Try.prog 51 [.w (.one (.pl (.R ex sz (Hw l)))),.w (.one (.pl (.i 0)))] (fun v m=>v=.w (.one (.pl (.b false)))):=by
 have ch:=Mk l ex sz hsz hl 0 1
 rw [show m0x l 0 1=hap l false 1 from Pq l false 1,hh] at ch
 have c7:=Ny l ex sz hsz hl 7
 rw [h7] at c7
 have c5:=Ny l ex sz hsz hl 5
 rw [h5] at c5
 have c3:=Ny l ex sz hsz hl 3
 rw [h3] at c3
 have F0:=trivial
 have cv0:=Ct.cv (ch)
 have cf0:=c7
 have cg0:=CF.mk [2] [(500000,2)]
 have cf1:=c5
 have cg1:=CF.mk [2] [(500000,2)]
 have cf2:=c3
 have cg2:=CF.mk [2] [(500000,2)]
 exact Ct.go Try.func51 rfl Try.ntmps51 Try.results51
theorem n0z (l:List (Bool×Int)) (ex:Bool) (sz:Nat) (hsz:l≠[]→sz=2) (hl:l.length≤9223372036854775807) (h7:any l 7=true) (h5:any l 5=false) (h6:any l 6=false) (hh:hap l false 1=true):
 Ct Try.prog 51 [.w (.one (.pl (.R ex sz (Hw l)))),.w (.one (.pl (.i 0)))] (fun v m=>v=.w (.one (.pl (.b true)))):=by
 have ch:=Mk l ex sz hsz hl 0 1
 rw [show m0x l 0 1=hap l false 1 from Pq l false 1,hh] at ch
 have c7:=Ny l ex sz hsz hl 7
 rw [h7] at c7
 have c5:=Ny l ex sz hsz hl 5
 rw [h5] at c5
 have c6:=Ny l ex sz hsz hl 6
 rw [h6] at c6
 have F0:=trivial
 have cv0:=Ct.cv (ch)
 have cf0:=c7
 have cg0:=CF.mk [2] [(500000,2)]
 have cf1:=c5
 have cg1:=CF.mk [2] [(500000,2)]
 have cf2:=c6
 have cg2:=CF.mk [2] [(500000,2)]
 exact Ct.go Try.func51 rfl Try.ntmps51 Try.results51
theorem y0y (l:List (Bool×Int)) (ex:Bool) (sz:Nat) (hsz:l≠[]→sz=2) (hl:l.length≤9223372036854775807) (h7:any l 7=true) (h5:any l 5=false) (h6:any l 6=true) (h4:any l 4=true) (hh:hap l false 1=true):
 Ct Try.prog 51 [.w (.one (.pl (.R ex sz (Hw l)))),.w (.one (.pl (.i 0)))] (fun v m=>v=.w (.one (.pl (.b true)))):=by
 have ch:=Mk l ex sz hsz hl 0 1
 rw [show m0x l 0 1=hap l false 1 from Pq l false 1,hh] at ch
 have c7:=Ny l ex sz hsz hl 7
 rw [h7] at c7
 have c5:=Ny l ex sz hsz hl 5
 rw [h5] at c5
 have c6:=Ny l ex sz hsz hl 6
 rw [h6] at c6
 have c4:=Ny l ex sz hsz hl 4
 rw [h4] at c4
 have F0:=trivial
 have cv0:=Ct.cv (ch)
 have cf0:=c7
 have cg0:=CF.mk [2] [(500000,2)]
 have cf1:=c5
 have cg1:=CF.mk [2] [(500000,2)]
 have cf2:=c6
 have cg2:=CF.mk [2] [(500000,2)]
 have cf3:=c4
 have cg3:=CF.mk [2] [(500000,2)]
 exact Ct.go Try.func51 rfl Try.ntmps51 Try.results51
theorem y0x (l:List (Bool×Int)) (ex:Bool) (sz:Nat) (hsz:l≠[]→sz=2) (hl:l.length≤9223372036854775807) (h7:any l 7=true) (h5:any l 5=false) (h6:any l 6=true) (h4:any l 4=false) (hh:hap l false 1=true):
 Ct Try.prog 51 [.w (.one (.pl (.R ex sz (Hw l)))),.w (.one (.pl (.i 0)))] (fun v m=>v=.w (.one (.pl (.b false)))):=by
 have ch:=Mk l ex sz hsz hl 0 1
 rw [show m0x l 0 1=hap l false 1 from Pq l false 1,hh] at ch
 have c7:=Ny l ex sz hsz hl 7
 rw [h7] at c7
 have c5:=Ny l ex sz hsz hl 5
 rw [h5] at c5
 have c6:=Ny l ex sz hsz hl 6
 rw [h6] at c6
 have c4:=Ny l ex sz hsz hl 4
 rw [h4] at c4
 have F0:=trivial
 have cv0:=Ct.cv (ch)
 have cf0:=c7
 have cg0:=CF.mk [2] [(500000,2)]
 have cf1:=c5
 have cg1:=CF.mk [2] [(500000,2)]
 have cf2:=c6
 have cg2:=CF.mk [2] [(500000,2)]
 have cf3:=c4
 have cg3:=CF.mk [2] [(500000,2)]
 exact Ct.go Try.func51 rfl Try.ntmps51 Try.results51
theorem y0w (l:List (Bool×Int)) (ex:Bool) (sz:Nat) (hsz:l≠[]→sz=2) (hl:l.length≤9223372036854775807) (h7:any l 7=true) (h5:any l 5=true) (h3:any l 3=true) (h6:any l 6=false) (hh:hap l false 1=true):
 Ct Try.prog 51 [.w (.one (.pl (.R ex sz (Hw l)))),.w (.one (.pl (.i 0)))] (fun v m=>v=.w (.one (.pl (.b true)))):=by
 have ch:=Mk l ex sz hsz hl 0 1
 rw [show m0x l 0 1=hap l false 1 from Pq l false 1,hh] at ch
 have c7:=Ny l ex sz hsz hl 7
 rw [h7] at c7
 have c5:=Ny l ex sz hsz hl 5
 rw [h5] at c5
 have c3:=Ny l ex sz hsz hl 3
 rw [h3] at c3
 have c6:=Ny l ex sz hsz hl 6
 rw [h6] at c6
 have F0:=trivial
 have cv0:=Ct.cv (ch)
 have cf0:=c7
 have cg0:=CF.mk [2] [(500000,2)]
 have cf1:=c5
 have cg1:=CF.mk [2] [(500000,2)]
 have cf2:=c3
 have cg2:=CF.mk [2] [(500000,2)]
 have cf3:=c6
 have cg3:=CF.mk [2] [(500000,2)]
 exact Ct.go Try.func51 rfl Try.ntmps51 Try.results51
theorem n1q (l:List (Bool×Int)) (ex:Bool) (sz:Nat) (hsz:l≠[]→sz=2) (hl:l.length≤9223372036854775807) (h7:any l 7=true) (h5:any l 5=true) (h3:any l 3=true) (h6:any l 6=true) (h4:any l 4=true) (hh:hap l false 1=true):
 Ct Try.prog 51 [.w (.one (.pl (.R ex sz (Hw l)))),.w (.one (.pl (.i 0)))] (fun v m=>v=.w (.one (.pl (.b true)))):=by
 have ch:=Mk l ex sz hsz hl 0 1
 rw [show m0x l 0 1=hap l false 1 from Pq l false 1,hh] at ch
 have c7:=Ny l ex sz hsz hl 7
 rw [h7] at c7
 have c5:=Ny l ex sz hsz hl 5
 rw [h5] at c5
 have c3:=Ny l ex sz hsz hl 3
 rw [h3] at c3
 have c6:=Ny l ex sz hsz hl 6
 rw [h6] at c6
 have c4:=Ny l ex sz hsz hl 4
 rw [h4] at c4
 have F0:=trivial
 have cv0:=Ct.cv (ch)
 have cf0:=c7
 have cg0:=CF.mk [2] [(500000,2)]
 have cf1:=c5
 have cg1:=CF.mk [2] [(500000,2)]
 have cf2:=c3
 have cg2:=CF.mk [2] [(500000,2)]
 have cf3:=c6
 have cg3:=CF.mk [2] [(500000,2)]
 have cf4:=c4
 have cg4:=CF.mk [2] [(500000,2)]
 exact Ct.go Try.func51 rfl Try.ntmps51 Try.results51
theorem n1p (l:List (Bool×Int)) (ex:Bool) (sz:Nat) (hsz:l≠[]→sz=2) (hl:l.length≤9223372036854775807) (h7:any l 7=true) (h5:any l 5=true) (h3:any l 3=true) (h6:any l 6=true) (h4:any l 4=false) (hh:hap l false 1=true):
 Ct Try.prog 51 [.w (.one (.pl (.R ex sz (Hw l)))),.w (.one (.pl (.i 0)))] (fun v m=>v=.w (.one (.pl (.b false)))):=by
 have ch:=Mk l ex sz hsz hl 0 1
 rw [show m0x l 0 1=hap l false 1 from Pq l false 1,hh] at ch
 have c7:=Ny l ex sz hsz hl 7
 rw [h7] at c7
 have c5:=Ny l ex sz hsz hl 5
 rw [h5] at c5
 have c3:=Ny l ex sz hsz hl 3
 rw [h3] at c3
 have c6:=Ny l ex sz hsz hl 6
 rw [h6] at c6
 have c4:=Ny l ex sz hsz hl 4
 rw [h4] at c4
 have F0:=trivial
 have cv0:=Ct.cv (ch)
 have cf0:=c7
 have cg0:=CF.mk [2] [(500000,2)]
 have cf1:=c5
 have cg1:=CF.mk [2] [(500000,2)]
 have cf2:=c3
 have cg2:=CF.mk [2] [(500000,2)]
 have cf3:=c6
 have cg3:=CF.mk [2] [(500000,2)]
 have cf4:=c4
 have cg4:=CF.mk [2] [(500000,2)]
 exact Ct.go Try.func51 rfl Try.ntmps51 Try.results51
theorem m2g (l:List (Bool×Int)) (ex:Bool) (sz:Nat) (hsz:l≠[]→sz=2) (hl:l.length≤9223372036854775807):Ct Try.prog 51 [.w (.one (.pl (.R ex sz (Hw l)))),.w (.one (.pl (.i 0)))] (fun v m=>v=.w (.one (.pl (.b (Aj l false))))):=by
 rcases h7:any l 7 with _|_<;>rcases hh:hap l false 1 with _|_<;>rcases h5:any l 5 with _|_<;>rcases h3:any l 3 with _|_<;>rcases h6:any l 6 with _|_<;>rcases h4:any l 4 with _|_
 ·rw [show Aj l false=true from by simp [Aj,h7,hh,h5,h3,h6,h4]];exact c0p l ex sz hsz hl h7 h5 h6
 ·rw [show Aj l false=true from by simp [Aj,h7,hh,h5,h3,h6,h4]];exact c0p l ex sz hsz hl h7 h5 h6
 ·rw [show Aj l false=false from by simp [Aj,h7,hh,h5,h3,h6,h4]];exact o0c l ex sz hsz hl h7 h5 h6 h4
 ·rw [show Aj l false=true from by simp [Aj,h7,hh,h5,h3,h6,h4]];exact o0d l ex sz hsz hl h7 h5 h6 h4
 ·rw [show Aj l false=true from by simp [Aj,h7,hh,h5,h3,h6,h4]];exact c0p l ex sz hsz hl h7 h5 h6
 ·rw [show Aj l false=true from by simp [Aj,h7,hh,h5,h3,h6,h4]];exact c0p l ex sz hsz hl h7 h5 h6
 ·rw [show Aj l false=false from by simp [Aj,h7,hh,h5,h3,h6,h4]];exact o0c l ex sz hsz hl h7 h5 h6 h4
 ·rw [show Aj l false=true from by simp [Aj,h7,hh,h5,h3,h6,h4]];exact o0d l ex sz hsz hl h7 h5 h6 h4
 ·rw [show Aj l false=false from by simp [Aj,h7,hh,h5,h3,h6,h4]];exact c0q l ex sz hsz hl h7 h5 h3
 ·rw [show Aj l false=false from by simp [Aj,h7,hh,h5,h3,h6,h4]];exact c0q l ex sz hsz hl h7 h5 h3
 ·rw [show Aj l false=false from by simp [Aj,h7,hh,h5,h3,h6,h4]];exact c0q l ex sz hsz hl h7 h5 h3
 ·rw [show Aj l false=false from by simp [Aj,h7,hh,h5,h3,h6,h4]];exact c0q l ex sz hsz hl h7 h5 h3
 ·rw [show Aj l false=true from by simp [Aj,h7,hh,h5,h3,h6,h4]];exact o0b l ex sz hsz hl h7 h5 h3 h6
 ·rw [show Aj l false=true from by simp [Aj,h7,hh,h5,h3,h6,h4]];exact o0b l ex sz hsz hl h7 h5 h3 h6
 ·rw [show Aj l false=false from by simp [Aj,h7,hh,h5,h3,h6,h4]];exact f1m l ex sz hsz hl h7 h5 h3 h6 h4
 ·rw [show Aj l false=true from by simp [Aj,h7,hh,h5,h3,h6,h4]];exact f1n l ex sz hsz hl h7 h5 h3 h6 h4
 ·rw [show Aj l false=true from by simp [Aj,h7,hh,h5,h3,h6,h4]];exact c0p l ex sz hsz hl h7 h5 h6
 ·rw [show Aj l false=true from by simp [Aj,h7,hh,h5,h3,h6,h4]];exact c0p l ex sz hsz hl h7 h5 h6
 ·rw [show Aj l false=false from by simp [Aj,h7,hh,h5,h3,h6,h4]];exact o0c l ex sz hsz hl h7 h5 h6 h4
 ·rw [show Aj l false=true from by simp [Aj,h7,hh,h5,h3,h6,h4]];exact o0d l ex sz hsz hl h7 h5 h6 h4
 ·rw [show Aj l false=true from by simp [Aj,h7,hh,h5,h3,h6,h4]];exact c0p l ex sz hsz hl h7 h5 h6
 ·rw [show Aj l false=true from by simp [Aj,h7,hh,h5,h3,h6,h4]];exact c0p l ex sz hsz hl h7 h5 h6
 ·rw [show Aj l false=false from by simp [Aj,h7,hh,h5,h3,h6,h4]];exact o0c l ex sz hsz hl h7 h5 h6 h4
 ·rw [show Aj l false=true from by simp [Aj,h7,hh,h5,h3,h6,h4]];exact o0d l ex sz hsz hl h7 h5 h6 h4
 ·rw [show Aj l false=false from by simp [Aj,h7,hh,h5,h3,h6,h4]];exact c0q l ex sz hsz hl h7 h5 h3
 ·rw [show Aj l false=false from by simp [Aj,h7,hh,h5,h3,h6,h4]];exact c0q l ex sz hsz hl h7 h5 h3
 ·rw [show Aj l false=false from by simp [Aj,h7,hh,h5,h3,h6,h4]];exact c0q l ex sz hsz hl h7 h5 h3
 ·rw [show Aj l false=false from by simp [Aj,h7,hh,h5,h3,h6,h4]];exact c0q l ex sz hsz hl h7 h5 h3
 ·rw [show Aj l false=true from by simp [Aj,h7,hh,h5,h3,h6,h4]];exact o0b l ex sz hsz hl h7 h5 h3 h6
 ·rw [show Aj l false=true from by simp [Aj,h7,hh,h5,h3,h6,h4]];exact o0b l ex sz hsz hl h7 h5 h3 h6
 ·rw [show Aj l false=false from by simp [Aj,h7,hh,h5,h3,h6,h4]];exact f1m l ex sz hsz hl h7 h5 h3 h6 h4
 ·rw [show Aj l false=true from by simp [Aj,h7,hh,h5,h3,h6,h4]];exact f1n l ex sz hsz hl h7 h5 h3 h6 h4
 ·rw [show Aj l false=false from by simp [Aj,h7,hh,h5,h3,h6,h4]];exact Qj l ex sz hsz hl h7 hh
 ·rw [show Aj l false=false from by simp [Aj,h7,hh,h5,h3,h6,h4]];exact Qj l ex sz hsz hl h7 hh
 ·rw [show Aj l false=false from by simp [Aj,h7,hh,h5,h3,h6,h4]];exact Qj l ex sz hsz hl h7 hh
 ·rw [show Aj l false=false from by simp [Aj,h7,hh,h5,h3,h6,h4]];exact Qj l ex sz hsz hl h7 hh
 ·rw [show Aj l false=false from by simp [Aj,h7,hh,h5,h3,h6,h4]];exact Qj l ex sz hsz hl h7 hh
 ·rw [show Aj l false=false from by simp [Aj,h7,hh,h5,h3,h6,h4]];exact Qj l ex sz hsz hl h7 hh
 ·rw [show Aj l false=false from by simp [Aj,h7,hh,h5,h3,h6,h4]];exact Qj l ex sz hsz hl h7 hh
 ·rw [show Aj l false=false from by simp [Aj,h7,hh,h5,h3,h6,h4]];exact Qj l ex sz hsz hl h7 hh
 ·rw [show Aj l false=false from by simp [Aj,h7,hh,h5,h3,h6,h4]];exact Qj l ex sz hsz hl h7 hh
 ·rw [show Aj l false=false from by simp [Aj,h7,hh,h5,h3,h6,h4]];exact Qj l ex sz hsz hl h7 hh
 ·rw [show Aj l false=false from by simp [Aj,h7,hh,h5,h3,h6,h4]];exact Qj l ex sz hsz hl h7 hh
 ·rw [show Aj l false=false from by simp [Aj,h7,hh,h5,h3,h6,h4]];exact Qj l ex sz hsz hl h7 hh
 ·rw [show Aj l false=false from by simp [Aj,h7,hh,h5,h3,h6,h4]];exact Qj l ex sz hsz hl h7 hh
 ·rw [show Aj l false=false from by simp [Aj,h7,hh,h5,h3,h6,h4]];exact Qj l ex sz hsz hl h7 hh
 ·rw [show Aj l false=false from by simp [Aj,h7,hh,h5,h3,h6,h4]];exact Qj l ex sz hsz hl h7 hh
 ·rw [show Aj l false=false from by simp [Aj,h7,hh,h5,h3,h6,h4]];exact Qj l ex sz hsz hl h7 hh
 ·rw [show Aj l false=true from by simp [Aj,h7,hh,h5,h3,h6,h4]];exact n0z l ex sz hsz hl h7 h5 h6 hh
 ·rw [show Aj l false=true from by simp [Aj,h7,hh,h5,h3,h6,h4]];exact n0z l ex sz hsz hl h7 h5 h6 hh
 ·rw [show Aj l false=false from by simp [Aj,h7,hh,h5,h3,h6,h4]];exact y0x l ex sz hsz hl h7 h5 h6 h4 hh
 ·rw [show Aj l false=true from by simp [Aj,h7,hh,h5,h3,h6,h4]];exact y0y l ex sz hsz hl h7 h5 h6 h4 hh
 ·rw [show Aj l false=true from by simp [Aj,h7,hh,h5,h3,h6,h4]];exact n0z l ex sz hsz hl h7 h5 h6 hh
 ·rw [show Aj l false=true from by simp [Aj,h7,hh,h5,h3,h6,h4]];exact n0z l ex sz hsz hl h7 h5 h6 hh
 ·rw [show Aj l false=false from by simp [Aj,h7,hh,h5,h3,h6,h4]];exact y0x l ex sz hsz hl h7 h5 h6 h4 hh
 ·rw [show Aj l false=true from by simp [Aj,h7,hh,h5,h3,h6,h4]];exact y0y l ex sz hsz hl h7 h5 h6 h4 hh
 ·rw [show Aj l false=false from by simp [Aj,h7,hh,h5,h3,h6,h4]];exact o0a l ex sz hsz hl h7 h5 h3 hh
 ·rw [show Aj l false=false from by simp [Aj,h7,hh,h5,h3,h6,h4]];exact o0a l ex sz hsz hl h7 h5 h3 hh
 ·rw [show Aj l false=false from by simp [Aj,h7,hh,h5,h3,h6,h4]];exact o0a l ex sz hsz hl h7 h5 h3 hh
 ·rw [show Aj l false=false from by simp [Aj,h7,hh,h5,h3,h6,h4]];exact o0a l ex sz hsz hl h7 h5 h3 hh
 ·rw [show Aj l false=true from by simp [Aj,h7,hh,h5,h3,h6,h4]];exact y0w l ex sz hsz hl h7 h5 h3 h6 hh
 ·rw [show Aj l false=true from by simp [Aj,h7,hh,h5,h3,h6,h4]];exact y0w l ex sz hsz hl h7 h5 h3 h6 hh
 ·rw [show Aj l false=false from by simp [Aj,h7,hh,h5,h3,h6,h4]];exact n1p l ex sz hsz hl h7 h5 h3 h6 h4 hh
 rw [show Aj l false=true from by simp [Aj,h7,hh,h5,h3,h6,h4]];exact n1q l ex sz hsz hl h7 h5 h3 h6 h4 hh
theorem Qq (l:List (Bool×Int)) (ex:Bool) (sz:Nat) (hsz:l≠[]→sz=2) (hl:l.length≤9223372036854775807) (h7:any l 7=true) (hh:hap l true 1=false):
 Ct Try.prog 51 [.w (.one (.pl (.R ex sz (Hw l)))),.w (.one (.pl (.i 1)))] (fun v m=>v=.w (.one (.pl (.b false)))):=by
 have ch:=Mk l ex sz hsz hl 1 1
 rw [show m0x l 1 1=hap l true 1 from Pq l true 1,hh] at ch
 have c7:=Ny l ex sz hsz hl 7
 rw [h7] at c7
 have F0:=trivial
 have cv0:=Ct.cv (ch)
 have cf0:=c7
 have cg0:=CF.mk [2] [(500000,2)]
 exact Ct.go Try.func51 rfl Try.ntmps51 Try.results51
theorem c0o (l:List (Bool×Int)) (ex:Bool) (sz:Nat) (hsz:l≠[]→sz=2) (hl:l.length≤9223372036854775807) (h7:any l 7=false) (h4:any l 4=true) (h3:any l 3=false):
 Ct Try.prog 51 [.w (.one (.pl (.R ex sz (Hw l)))),.w (.one (.pl (.i 1)))] (fun v m=>v=.w (.one (.pl (.b false)))):=by
 have c7:=Ny l ex sz hsz hl 7
 rw [h7] at c7
 have c4:=Ny l ex sz hsz hl 4
 rw [h4] at c4
 have c3:=Ny l ex sz hsz hl 3
 rw [h3] at c3
 have F0:=trivial
 have cf0:=c7
 have cg0:=CF.mk [2] [(500000,2)]
 have cf1:=c4
 have cg1:=CF.mk [2] [(500000,2)]
 have cf2:=c3
 have cg2:=CF.mk [2] [(500000,2)]
 exact Ct.go Try.func51 rfl Try.ntmps51 Try.results51
theorem c0n (l:List (Bool×Int)) (ex:Bool) (sz:Nat) (hsz:l≠[]→sz=2) (hl:l.length≤9223372036854775807) (h7:any l 7=false) (h4:any l 4=false) (h6:any l 6=false):
 Ct Try.prog 51 [.w (.one (.pl (.R ex sz (Hw l)))),.w (.one (.pl (.i 1)))] (fun v m=>v=.w (.one (.pl (.b true)))):=by
 have c7:=Ny l ex sz hsz hl 7
 rw [h7] at c7
 have c4:=Ny l ex sz hsz hl 4
 rw [h4] at c4
 have c6:=Ny l ex sz hsz hl 6
 rw [h6] at c6
 have F0:=trivial
 have cf0:=c7
 have cg0:=CF.mk [2] [(500000,2)]
 have cf1:=c4
 have cg1:=CF.mk [2] [(500000,2)]
 have cf2:=c6
 have cg2:=CF.mk [2] [(500000,2)]
 exact Ct.go Try.func51 rfl Try.ntmps51 Try.results51
theorem n0y (l:List (Bool×Int)) (ex:Bool) (sz:Nat) (hsz:l≠[]→sz=2) (hl:l.length≤9223372036854775807) (h7:any l 7=false) (h4:any l 4=false) (h6:any l 6=true) (h5:any l 5=true):
 Ct Try.prog 51 [.w (.one (.pl (.R ex sz (Hw l)))),.w (.one (.pl (.i 1)))] (fun v m=>v=.w (.one (.pl (.b true)))):=by
 have c7:=Ny l ex sz hsz hl 7
 rw [h7] at c7
 have c4:=Ny l ex sz hsz hl 4
 rw [h4] at c4
 have c6:=Ny l ex sz hsz hl 6
 rw [h6] at c6
 have c5:=Ny l ex sz hsz hl 5
 rw [h5] at c5
 have F0:=trivial
 have cf0:=c7
 have cg0:=CF.mk [2] [(500000,2)]
 have cf1:=c4
 have cg1:=CF.mk [2] [(500000,2)]
 have cf2:=c6
 have cg2:=CF.mk [2] [(500000,2)]
 have cf3:=c5
 have cg3:=CF.mk [2] [(500000,2)]
 exact Ct.go Try.func51 rfl Try.ntmps51 Try.results51
theorem n0x (l:List (Bool×Int)) (ex:Bool) (sz:Nat) (hsz:l≠[]→sz=2) (hl:l.length≤9223372036854775807) (h7:any l 7=false) (h4:any l 4=false) (h6:any l 6=true) (h5:any l 5=false):
 Ct Try.prog 51 [.w (.one (.pl (.R ex sz (Hw l)))),.w (.one (.pl (.i 1)))] (fun v m=>v=.w (.one (.pl (.b false)))):=by
 have c7:=Ny l ex sz hsz hl 7
 rw [h7] at c7
 have c4:=Ny l ex sz hsz hl 4
 rw [h4] at c4
 have c6:=Ny l ex sz hsz hl 6
 rw [h6] at c6
 have c5:=Ny l ex sz hsz hl 5
 rw [h5] at c5
 have F0:=trivial
 have cf0:=c7
 have cg0:=CF.mk [2] [(500000,2)]
 have cf1:=c4
 have cg1:=CF.mk [2] [(500000,2)]
 have cf2:=c6
 have cg2:=CF.mk [2] [(500000,2)]
 have cf3:=c5
 have cg3:=CF.mk [2] [(500000,2)]
 exact Ct.go Try.func51 rfl Try.ntmps51 Try.results51
theorem n0w (l:List (Bool×Int)) (ex:Bool) (sz:Nat) (hsz:l≠[]→sz=2) (hl:l.length≤9223372036854775807) (h7:any l 7=false) (h4:any l 4=true) (h3:any l 3=true) (h6:any l 6=false):
 Ct Try.prog 51 [.w (.one (.pl (.R ex sz (Hw l)))),.w (.one (.pl (.i 1)))] (fun v m=>v=.w (.one (.pl (.b true)))):=by
 have c7:=Ny l ex sz hsz hl 7
 rw [h7] at c7
 have c4:=Ny l ex sz hsz hl 4
 rw [h4] at c4
 have c3:=Ny l ex sz hsz hl 3
 rw [h3] at c3
 have c6:=Ny l ex sz hsz hl 6
 rw [h6] at c6
 have F0:=trivial
 have cf0:=c7
 have cg0:=CF.mk [2] [(500000,2)]
 have cf1:=c4
 have cg1:=CF.mk [2] [(500000,2)]
 have cf2:=c3
 have cg2:=CF.mk [2] [(500000,2)]
 have cf3:=c6
 have cg3:=CF.mk [2] [(500000,2)]
 exact Ct.go Try.func51 rfl Try.ntmps51 Try.results51
theorem f1l (l:List (Bool×Int)) (ex:Bool) (sz:Nat) (hsz:l≠[]→sz=2) (hl:l.length≤9223372036854775807) (h7:any l 7=false) (h4:any l 4=true) (h3:any l 3=true) (h6:any l 6=true) (h5:any l 5=true):
 Ct Try.prog 51 [.w (.one (.pl (.R ex sz (Hw l)))),.w (.one (.pl (.i 1)))] (fun v m=>v=.w (.one (.pl (.b true)))):=by
 have c7:=Ny l ex sz hsz hl 7
 rw [h7] at c7
 have c4:=Ny l ex sz hsz hl 4
 rw [h4] at c4
 have c3:=Ny l ex sz hsz hl 3
 rw [h3] at c3
 have c6:=Ny l ex sz hsz hl 6
 rw [h6] at c6
 have c5:=Ny l ex sz hsz hl 5
 rw [h5] at c5
 have F0:=trivial
 have cf0:=c7
 have cg0:=CF.mk [2] [(500000,2)]
 have cf1:=c4
 have cg1:=CF.mk [2] [(500000,2)]
 have cf2:=c3
 have cg2:=CF.mk [2] [(500000,2)]
 have cf3:=c6
 have cg3:=CF.mk [2] [(500000,2)]
 have cf4:=c5
 have cg4:=CF.mk [2] [(500000,2)]
 exact Ct.go Try.func51 rfl Try.ntmps51 Try.results51
theorem f1k (l:List (Bool×Int)) (ex:Bool) (sz:Nat) (hsz:l≠[]→sz=2) (hl:l.length≤9223372036854775807) (h7:any l 7=false) (h4:any l 4=true) (h3:any l 3=true) (h6:any l 6=true) (h5:any l 5=false):
 Ct Try.prog 51 [.w (.one (.pl (.R ex sz (Hw l)))),.w (.one (.pl (.i 1)))] (fun v m=>v=.w (.one (.pl (.b false)))):=by
 have c7:=Ny l ex sz hsz hl 7
 rw [h7] at c7
 have c4:=Ny l ex sz hsz hl 4
 rw [h4] at c4
 have c3:=Ny l ex sz hsz hl 3
 rw [h3] at c3
 have c6:=Ny l ex sz hsz hl 6
 rw [h6] at c6
 have c5:=Ny l ex sz hsz hl 5
 rw [h5] at c5
 have F0:=trivial
 have cf0:=c7
 have cg0:=CF.mk [2] [(500000,2)]
 have cf1:=c4
 have cg1:=CF.mk [2] [(500000,2)]
 have cf2:=c3
 have cg2:=CF.mk [2] [(500000,2)]
 have cf3:=c6
 have cg3:=CF.mk [2] [(500000,2)]
 have cf4:=c5
 have cg4:=CF.mk [2] [(500000,2)]
 exact Ct.go Try.func51 rfl Try.ntmps51 Try.results51
theorem n0v (l:List (Bool×Int)) (ex:Bool) (sz:Nat) (hsz:l≠[]→sz=2) (hl:l.length≤9223372036854775807) (h7:any l 7=true) (h4:any l 4=true) (h3:any l 3=false) (hh:hap l true 1=true):
 Ct Try.prog 51 [.w (.one (.pl (.R ex sz (Hw l)))),.w (.one (.pl (.i 1)))] (fun v m=>v=.w (.one (.pl (.b false)))):=by
 have ch:=Mk l ex sz hsz hl 1 1
 rw [show m0x l 1 1=hap l true 1 from Pq l true 1,hh] at ch
 have c7:=Ny l ex sz hsz hl 7
 rw [h7] at c7
 have c4:=Ny l ex sz hsz hl 4
 rw [h4] at c4
 have c3:=Ny l ex sz hsz hl 3
 rw [h3] at c3
 have F0:=trivial
 have cv0:=Ct.cv (ch)
 have cf0:=c7
 have cg0:=CF.mk [2] [(500000,2)]
 have cf1:=c4
 have cg1:=CF.mk [2] [(500000,2)]
 have cf2:=c3
 have cg2:=CF.mk [2] [(500000,2)]
 exact Ct.go Try.func51 rfl Try.ntmps51 Try.results51
theorem n0u (l:List (Bool×Int)) (ex:Bool) (sz:Nat) (hsz:l≠[]→sz=2) (hl:l.length≤9223372036854775807) (h7:any l 7=true) (h4:any l 4=false) (h6:any l 6=false) (hh:hap l true 1=true):
 Ct Try.prog 51 [.w (.one (.pl (.R ex sz (Hw l)))),.w (.one (.pl (.i 1)))] (fun v m=>v=.w (.one (.pl (.b true)))):=by
 have ch:=Mk l ex sz hsz hl 1 1
 rw [show m0x l 1 1=hap l true 1 from Pq l true 1,hh] at ch
 have c7:=Ny l ex sz hsz hl 7
 rw [h7] at c7
 have c4:=Ny l ex sz hsz hl 4
 rw [h4] at c4
 have c6:=Ny l ex sz hsz hl 6
 rw [h6] at c6
 have F0:=trivial
 have cv0:=Ct.cv (ch)
 have cf0:=c7
 have cg0:=CF.mk [2] [(500000,2)]
 have cf1:=c4
 have cg1:=CF.mk [2] [(500000,2)]
 have cf2:=c6
 have cg2:=CF.mk [2] [(500000,2)]
 exact Ct.go Try.func51 rfl Try.ntmps51 Try.results51
theorem y0v (l:List (Bool×Int)) (ex:Bool) (sz:Nat) (hsz:l≠[]→sz=2) (hl:l.length≤9223372036854775807) (h7:any l 7=true) (h4:any l 4=false) (h6:any l 6=true) (h5:any l 5=true) (hh:hap l true 1=true):
 Ct Try.prog 51 [.w (.one (.pl (.R ex sz (Hw l)))),.w (.one (.pl (.i 1)))] (fun v m=>v=.w (.one (.pl (.b true)))):=by
 have ch:=Mk l ex sz hsz hl 1 1
 rw [show m0x l 1 1=hap l true 1 from Pq l true 1,hh] at ch
 have c7:=Ny l ex sz hsz hl 7
 rw [h7] at c7
 have c4:=Ny l ex sz hsz hl 4
 rw [h4] at c4
 have c6:=Ny l ex sz hsz hl 6
 rw [h6] at c6
 have c5:=Ny l ex sz hsz hl 5
 rw [h5] at c5
 have F0:=trivial
 have cv0:=Ct.cv (ch)
 have cf0:=c7
 have cg0:=CF.mk [2] [(500000,2)]
 have cf1:=c4
 have cg1:=CF.mk [2] [(500000,2)]
 have cf2:=c6
 have cg2:=CF.mk [2] [(500000,2)]
 have cf3:=c5
 have cg3:=CF.mk [2] [(500000,2)]
 exact Ct.go Try.func51 rfl Try.ntmps51 Try.results51
theorem y0u (l:List (Bool×Int)) (ex:Bool) (sz:Nat) (hsz:l≠[]→sz=2) (hl:l.length≤9223372036854775807) (h7:any l 7=true) (h4:any l 4=false) (h6:any l 6=true) (h5:any l 5=false) (hh:hap l true 1=true):
 Ct Try.prog 51 [.w (.one (.pl (.R ex sz (Hw l)))),.w (.one (.pl (.i 1)))] (fun v m=>v=.w (.one (.pl (.b false)))):=by
 have ch:=Mk l ex sz hsz hl 1 1
 rw [show m0x l 1 1=hap l true 1 from Pq l true 1,hh] at ch
 have c7:=Ny l ex sz hsz hl 7
 rw [h7] at c7
 have c4:=Ny l ex sz hsz hl 4
 rw [h4] at c4
 have c6:=Ny l ex sz hsz hl 6
 rw [h6] at c6
 have c5:=Ny l ex sz hsz hl 5
 rw [h5] at c5
 have F0:=trivial
 have cv0:=Ct.cv (ch)
 have cf0:=c7
 have cg0:=CF.mk [2] [(500000,2)]
 have cf1:=c4
 have cg1:=CF.mk [2] [(500000,2)]
 have cf2:=c6
 have cg2:=CF.mk [2] [(500000,2)]
 have cf3:=c5
 have cg3:=CF.mk [2] [(500000,2)]
 exact Ct.go Try.func51 rfl Try.ntmps51 Try.results51
theorem y0t (l:List (Bool×Int)) (ex:Bool) (sz:Nat) (hsz:l≠[]→sz=2) (hl:l.length≤9223372036854775807) (h7:any l 7=true) (h4:any l 4=true) (h3:any l 3=true) (h6:any l 6=false) (hh:hap l true 1=true):
 Ct Try.prog 51 [.w (.one (.pl (.R ex sz (Hw l)))),.w (.one (.pl (.i 1)))] (fun v m=>v=.w (.one (.pl (.b true)))):=by
 have ch:=Mk l ex sz hsz hl 1 1
 rw [show m0x l 1 1=hap l true 1 from Pq l true 1,hh] at ch
 have c7:=Ny l ex sz hsz hl 7
 rw [h7] at c7
 have c4:=Ny l ex sz hsz hl 4
 rw [h4] at c4
 have c3:=Ny l ex sz hsz hl 3
 rw [h3] at c3
 have c6:=Ny l ex sz hsz hl 6
 rw [h6] at c6
 have F0:=trivial
 have cv0:=Ct.cv (ch)
 have cf0:=c7
 have cg0:=CF.mk [2] [(500000,2)]
 have cf1:=c4
 have cg1:=CF.mk [2] [(500000,2)]
 have cf2:=c3
 have cg2:=CF.mk [2] [(500000,2)]
 have cf3:=c6
 have cg3:=CF.mk [2] [(500000,2)]
 exact Ct.go Try.func51 rfl Try.ntmps51 Try.results51
theorem n1o (l:List (Bool×Int)) (ex:Bool) (sz:Nat) (hsz:l≠[]→sz=2) (hl:l.length≤9223372036854775807) (h7:any l 7=true) (h4:any l 4=true) (h3:any l 3=true) (h6:any l 6=true) (h5:any l 5=true) (hh:hap l true 1=true):
 Ct Try.prog 51 [.w (.one (.pl (.R ex sz (Hw l)))),.w (.one (.pl (.i 1)))] (fun v m=>v=.w (.one (.pl (.b true)))):=by
 have ch:=Mk l ex sz hsz hl 1 1
 rw [show m0x l 1 1=hap l true 1 from Pq l true 1,hh] at ch
 have c7:=Ny l ex sz hsz hl 7
 rw [h7] at c7
 have c4:=Ny l ex sz hsz hl 4
 rw [h4] at c4
 have c3:=Ny l ex sz hsz hl 3
 rw [h3] at c3
 have c6:=Ny l ex sz hsz hl 6
 rw [h6] at c6
 have c5:=Ny l ex sz hsz hl 5
 rw [h5] at c5
 have F0:=trivial
 have cv0:=Ct.cv (ch)
 have cf0:=c7
 have cg0:=CF.mk [2] [(500000,2)]
 have cf1:=c4
 have cg1:=CF.mk [2] [(500000,2)]
 have cf2:=c3
 have cg2:=CF.mk [2] [(500000,2)]
 have cf3:=c6
 have cg3:=CF.mk [2] [(500000,2)]
 have cf4:=c5
 have cg4:=CF.mk [2] [(500000,2)]
 exact Ct.go Try.func51 rfl Try.ntmps51 Try.results51
theorem n1n (l:List (Bool×Int)) (ex:Bool) (sz:Nat) (hsz:l≠[]→sz=2) (hl:l.length≤9223372036854775807) (h7:any l 7=true) (h4:any l 4=true) (h3:any l 3=true) (h6:any l 6=true) (h5:any l 5=false) (hh:hap l true 1=true):
 Ct Try.prog 51 [.w (.one (.pl (.R ex sz (Hw l)))),.w (.one (.pl (.i 1)))] (fun v m=>v=.w (.one (.pl (.b false)))):=by
 have ch:=Mk l ex sz hsz hl 1 1
 rw [show m0x l 1 1=hap l true 1 from Pq l true 1,hh] at ch
 have c7:=Ny l ex sz hsz hl 7
 rw [h7] at c7
 have c4:=Ny l ex sz hsz hl 4
 rw [h4] at c4
 have c3:=Ny l ex sz hsz hl 3
 rw [h3] at c3
 have c6:=Ny l ex sz hsz hl 6
 rw [h6] at c6
 have c5:=Ny l ex sz hsz hl 5
 rw [h5] at c5
 have F0:=trivial
 have cv0:=Ct.cv (ch)
 have cf0:=c7
 have cg0:=CF.mk [2] [(500000,2)]
 have cf1:=c4
 have cg1:=CF.mk [2] [(500000,2)]
 have cf2:=c3
 have cg2:=CF.mk [2] [(500000,2)]
 have cf3:=c6
 have cg3:=CF.mk [2] [(500000,2)]
 have cf4:=c5
 have cg4:=CF.mk [2] [(500000,2)]
 exact Ct.go Try.func51 rfl Try.ntmps51 Try.results51
theorem m2f (l:List (Bool×Int)) (ex:Bool) (sz:Nat) (hsz:l≠[]→sz=2) (hl:l.length≤9223372036854775807):Ct Try.prog 51 [.w (.one (.pl (.R ex sz (Hw l)))),.w (.one (.pl (.i 1)))] (fun v m=>v=.w (.one (.pl (.b (Aj l true))))):=by
 rcases h7:any l 7 with _|_<;>rcases hh:hap l true 1 with _|_<;>rcases h4:any l 4 with _|_<;>rcases h3:any l 3 with _|_<;>rcases h6:any l 6 with _|_<;>rcases h5:any l 5 with _|_
 ·rw [show Aj l true=true from by simp [Aj,h7,hh,h4,h3,h6,h5]];exact c0n l ex sz hsz hl h7 h4 h6
 ·rw [show Aj l true=true from by simp [Aj,h7,hh,h4,h3,h6,h5]];exact c0n l ex sz hsz hl h7 h4 h6
 ·rw [show Aj l true=false from by simp [Aj,h7,hh,h4,h3,h6,h5]];exact n0x l ex sz hsz hl h7 h4 h6 h5
 ·rw [show Aj l true=true from by simp [Aj,h7,hh,h4,h3,h6,h5]];exact n0y l ex sz hsz hl h7 h4 h6 h5
 ·rw [show Aj l true=true from by simp [Aj,h7,hh,h4,h3,h6,h5]];exact c0n l ex sz hsz hl h7 h4 h6
 ·rw [show Aj l true=true from by simp [Aj,h7,hh,h4,h3,h6,h5]];exact c0n l ex sz hsz hl h7 h4 h6
 ·rw [show Aj l true=false from by simp [Aj,h7,hh,h4,h3,h6,h5]];exact n0x l ex sz hsz hl h7 h4 h6 h5
 ·rw [show Aj l true=true from by simp [Aj,h7,hh,h4,h3,h6,h5]];exact n0y l ex sz hsz hl h7 h4 h6 h5
 ·rw [show Aj l true=false from by simp [Aj,h7,hh,h4,h3,h6,h5]];exact c0o l ex sz hsz hl h7 h4 h3
 ·rw [show Aj l true=false from by simp [Aj,h7,hh,h4,h3,h6,h5]];exact c0o l ex sz hsz hl h7 h4 h3
 ·rw [show Aj l true=false from by simp [Aj,h7,hh,h4,h3,h6,h5]];exact c0o l ex sz hsz hl h7 h4 h3
 ·rw [show Aj l true=false from by simp [Aj,h7,hh,h4,h3,h6,h5]];exact c0o l ex sz hsz hl h7 h4 h3
 ·rw [show Aj l true=true from by simp [Aj,h7,hh,h4,h3,h6,h5]];exact n0w l ex sz hsz hl h7 h4 h3 h6
 ·rw [show Aj l true=true from by simp [Aj,h7,hh,h4,h3,h6,h5]];exact n0w l ex sz hsz hl h7 h4 h3 h6
 ·rw [show Aj l true=false from by simp [Aj,h7,hh,h4,h3,h6,h5]];exact f1k l ex sz hsz hl h7 h4 h3 h6 h5
 ·rw [show Aj l true=true from by simp [Aj,h7,hh,h4,h3,h6,h5]];exact f1l l ex sz hsz hl h7 h4 h3 h6 h5
 ·rw [show Aj l true=true from by simp [Aj,h7,hh,h4,h3,h6,h5]];exact c0n l ex sz hsz hl h7 h4 h6
 ·rw [show Aj l true=true from by simp [Aj,h7,hh,h4,h3,h6,h5]];exact c0n l ex sz hsz hl h7 h4 h6
 ·rw [show Aj l true=false from by simp [Aj,h7,hh,h4,h3,h6,h5]];exact n0x l ex sz hsz hl h7 h4 h6 h5
 ·rw [show Aj l true=true from by simp [Aj,h7,hh,h4,h3,h6,h5]];exact n0y l ex sz hsz hl h7 h4 h6 h5
 ·rw [show Aj l true=true from by simp [Aj,h7,hh,h4,h3,h6,h5]];exact c0n l ex sz hsz hl h7 h4 h6
 ·rw [show Aj l true=true from by simp [Aj,h7,hh,h4,h3,h6,h5]];exact c0n l ex sz hsz hl h7 h4 h6
 ·rw [show Aj l true=false from by simp [Aj,h7,hh,h4,h3,h6,h5]];exact n0x l ex sz hsz hl h7 h4 h6 h5
 ·rw [show Aj l true=true from by simp [Aj,h7,hh,h4,h3,h6,h5]];exact n0y l ex sz hsz hl h7 h4 h6 h5
 ·rw [show Aj l true=false from by simp [Aj,h7,hh,h4,h3,h6,h5]];exact c0o l ex sz hsz hl h7 h4 h3
 ·rw [show Aj l true=false from by simp [Aj,h7,hh,h4,h3,h6,h5]];exact c0o l ex sz hsz hl h7 h4 h3
 ·rw [show Aj l true=false from by simp [Aj,h7,hh,h4,h3,h6,h5]];exact c0o l ex sz hsz hl h7 h4 h3
 ·rw [show Aj l true=false from by simp [Aj,h7,hh,h4,h3,h6,h5]];exact c0o l ex sz hsz hl h7 h4 h3
 ·rw [show Aj l true=true from by simp [Aj,h7,hh,h4,h3,h6,h5]];exact n0w l ex sz hsz hl h7 h4 h3 h6
 ·rw [show Aj l true=true from by simp [Aj,h7,hh,h4,h3,h6,h5]];exact n0w l ex sz hsz hl h7 h4 h3 h6
 ·rw [show Aj l true=false from by simp [Aj,h7,hh,h4,h3,h6,h5]];exact f1k l ex sz hsz hl h7 h4 h3 h6 h5
 ·rw [show Aj l true=true from by simp [Aj,h7,hh,h4,h3,h6,h5]];exact f1l l ex sz hsz hl h7 h4 h3 h6 h5
 ·rw [show Aj l true=false from by simp [Aj,h7,hh,h4,h3,h6,h5]];exact Qq l ex sz hsz hl h7 hh
 ·rw [show Aj l true=false from by simp [Aj,h7,hh,h4,h3,h6,h5]];exact Qq l ex sz hsz hl h7 hh
 ·rw [show Aj l true=false from by simp [Aj,h7,hh,h4,h3,h6,h5]];exact Qq l ex sz hsz hl h7 hh
 ·rw [show Aj l true=false from by simp [Aj,h7,hh,h4,h3,h6,h5]];exact Qq l ex sz hsz hl h7 hh
 ·rw [show Aj l true=false from by simp [Aj,h7,hh,h4,h3,h6,h5]];exact Qq l ex sz hsz hl h7 hh
 ·rw [show Aj l true=false from by simp [Aj,h7,hh,h4,h3,h6,h5]];exact Qq l ex sz hsz hl h7 hh
 ·rw [show Aj l true=false from by simp [Aj,h7,hh,h4,h3,h6,h5]];exact Qq l ex sz hsz hl h7 hh
 ·rw [show Aj l true=false from by simp [Aj,h7,hh,h4,h3,h6,h5]];exact Qq l ex sz hsz hl h7 hh
 ·rw [show Aj l true=false from by simp [Aj,h7,hh,h4,h3,h6,h5]];exact Qq l ex sz hsz hl h7 hh
 ·rw [show Aj l true=false from by simp [Aj,h7,hh,h4,h3,h6,h5]];exact Qq l ex sz hsz hl h7 hh
 ·rw [show Aj l true=false from by simp [Aj,h7,hh,h4,h3,h6,h5]];exact Qq l ex sz hsz hl h7 hh
 ·rw [show Aj l true=false from by simp [Aj,h7,hh,h4,h3,h6,h5]];exact Qq l ex sz hsz hl h7 hh
 ·rw [show Aj l true=false from by simp [Aj,h7,hh,h4,h3,h6,h5]];exact Qq l ex sz hsz hl h7 hh
 ·rw [show Aj l true=false from by simp [Aj,h7,hh,h4,h3,h6,h5]];exact Qq l ex sz hsz hl h7 hh
 ·rw [show Aj l true=false from by simp [Aj,h7,hh,h4,h3,h6,h5]];exact Qq l ex sz hsz hl h7 hh
 ·rw [show Aj l true=false from by simp [Aj,h7,hh,h4,h3,h6,h5]];exact Qq l ex sz hsz hl h7 hh
 ·rw [show Aj l true=true from by simp [Aj,h7,hh,h4,h3,h6,h5]];exact n0u l ex sz hsz hl h7 h4 h6 hh
 ·rw [show Aj l true=true from by simp [Aj,h7,hh,h4,h3,h6,h5]];exact n0u l ex sz hsz hl h7 h4 h6 hh
 ·rw [show Aj l true=false from by simp [Aj,h7,hh,h4,h3,h6,h5]];exact y0u l ex sz hsz hl h7 h4 h6 h5 hh
 ·rw [show Aj l true=true from by simp [Aj,h7,hh,h4,h3,h6,h5]];exact y0v l ex sz hsz hl h7 h4 h6 h5 hh
 ·rw [show Aj l true=true from by simp [Aj,h7,hh,h4,h3,h6,h5]];exact n0u l ex sz hsz hl h7 h4 h6 hh
 ·rw [show Aj l true=true from by simp [Aj,h7,hh,h4,h3,h6,h5]];exact n0u l ex sz hsz hl h7 h4 h6 hh
 ·rw [show Aj l true=false from by simp [Aj,h7,hh,h4,h3,h6,h5]];exact y0u l ex sz hsz hl h7 h4 h6 h5 hh
 ·rw [show Aj l true=true from by simp [Aj,h7,hh,h4,h3,h6,h5]];exact y0v l ex sz hsz hl h7 h4 h6 h5 hh
 ·rw [show Aj l true=false from by simp [Aj,h7,hh,h4,h3,h6,h5]];exact n0v l ex sz hsz hl h7 h4 h3 hh
 ·rw [show Aj l true=false from by simp [Aj,h7,hh,h4,h3,h6,h5]];exact n0v l ex sz hsz hl h7 h4 h3 hh
 ·rw [show Aj l true=false from by simp [Aj,h7,hh,h4,h3,h6,h5]];exact n0v l ex sz hsz hl h7 h4 h3 hh
 ·rw [show Aj l true=false from by simp [Aj,h7,hh,h4,h3,h6,h5]];exact n0v l ex sz hsz hl h7 h4 h3 hh
 ·rw [show Aj l true=true from by simp [Aj,h7,hh,h4,h3,h6,h5]];exact y0t l ex sz hsz hl h7 h4 h3 h6 hh
 ·rw [show Aj l true=true from by simp [Aj,h7,hh,h4,h3,h6,h5]];exact y0t l ex sz hsz hl h7 h4 h3 h6 hh
 ·rw [show Aj l true=false from by simp [Aj,h7,hh,h4,h3,h6,h5]];exact n1n l ex sz hsz hl h7 h4 h3 h6 h5 hh
 rw [show Aj l true=true from by simp [Aj,h7,hh,h4,h3,h6,h5]];exact n1o l ex sz hsz hl h7 h4 h3 h6 h5 hh
theorem x1k (l:List (Bool×Int)) (ex:Bool) (sz:Nat) (hsz:l≠[]→sz=2) (hl:l.length≤9223372036854775807) (w:Bool):Ct Try.prog 51 [.w (.one (.pl (.R ex sz (Hw l)))),.w (.one (.pl (.i (Hz w))))] (fun v m=>v=.w (.one (.pl (.b (Aj l w))))):=by
 cases w
 ·exact m2g l ex sz hsz hl
 exact m2f l ex sz hsz hl
end Go.Sy
namespace Go.Sy
open Go.Proofs
attribute [local irreducible] Cj HT Bv Rj onC onE onO onG goV goA goS Tj Ck
def evC (l:List (Bool×Int)):List L:=pls (Hw l).flatten
def evV (nm:Nat) (l:List (Bool×Int)):V:=match l with| []=>.w (.one (.pl (.R true 1 [])))|_::_=>.w (.one (.s nm [] l.length 2))
def evM (nm:Nat) (l:List (Bool×Int)):List (Nat×Ob):=match l with| []=>[]|_::_=>[(nm,⟨true,evC l⟩)]
theorem a0f (nm:Nat):evV nm []=.w (.one (.pl (.R true 1 []))):=rfl
theorem d0c (nm:Nat):evM nm []=[]:=rfl
theorem Tk {nm:Nat} {l:List (Bool×Int)} (h:l≠[]):evV nm l=.w (.one (.s nm [] l.length 2)):=by cases l with|nil=>exact absurd rfl h|cons a r=>rfl
theorem Uz {nm:Nat} {l:List (Bool×Int)} (h:l≠[]):evM nm l=[(nm,⟨true,evC l⟩)]:=by cases l with|nil=>exact absurd rfl h|cons a r=>rfl
theorem Ey {α:Type} {l:List α} {x:α} {n:Nat} (h:l.length≤n):(l++[x]).length≤n+1:=by simp only [yL,yH,xE];omega
theorem v0k {a q l i:Nat} (h1:a≤q+(l+1)) (h2:q≤12+7*i) (h3:l≤6):a≤12+7*(i+1):=by omega
theorem o2v {a j n:Nat} (h:a≤j) (h1:j<n) (h2:n≤6):a≤60:=by omega
theorem o2u {a j n:Nat} (h:a≤6+j) (h1:j<n) (h2:n≤6):a≤60:=by omega
theorem q2i {a i n:Nat} (h:a≤12+7*i) (h1:i<n) (h2:n≤5):a≤40:=by omega
theorem j2p {a q j n:Nat} (h:a≤q+j) (hq:q≤40) (h1:j≤n+1) (h2:n≤6):a≤60:=by omega
theorem h0w {n:Nat} (h:n≤60):(n+1)*16≤140737488355328:=yJ (wP 16 (xH h)) (by decide)
theorem j2o {n:Nat} (h:n≤60):n*8≤140737488355328:=yJ (wP 8 h) (by decide)
theorem Fy {n:Nat} (h:n≤60):n≤9223372036854775807:=yJ h (by decide)
theorem Jk {α:Type} (l:List α) (x:α):l++[x]≠[]:=by simp
theorem w0a {nm k:Nat} (h:nm≠k) (l:List (Bool×Int)) (M:List (Nat×Ob)):look (evM nm l++M) k=look M k:=by
 cases l with
 |nil=>rfl
 |cons a r=>simp only [evM,yC,yD,look];first|rfl|(rw [if_neg h])|(rw [if_neg (fun e=>h e.symm)])|simp [h]
theorem r0h (nm:Nat) (x:Bool×Int):evV nm [x]=.w (.one (.s nm [] 1 2)):=rfl
theorem r0i (nm:Nat) (w:Bool) (t:Int):evM nm [(w,t)]=[(nm,⟨true,[.pl (.i (Hz w)),.pl (.i t)]⟩)]:=rfl
theorem m0b :([]:List (List PL)).flatten=[]:=rfl
theorem b0k {j n:Nat} (h:j<n) (hn:n≤1000000):Go.RowKit.wrap64 ((j:Int)+1)=((j+1:Nat):Int):=b0l (by omega) (by omega)
theorem q0o {j n:Nat} (h:j<n):((j:Nat):Int)<((n:Nat):Int):=Int.ofNat_lt.mpr h
theorem v0e {n:Nat}:¬((n:Nat):Int)<((n:Nat):Int):=Int.lt_irrefl _
theorem k1e :Hz false=0:=rfl
theorem k1d :Hz true=1:=rfl
theorem a2h (l:List (Bool×Int)) (w:Bool) (t:Int):evC (l++[(w,t)])=evC l++[.pl (.i (Hz w)),.pl (.i t)]:=by simp [evC,Hw,pls]
theorem v0x (nm:Nat) (l:List (Bool×Int)) (x:Bool×Int):evV nm (l++[x])=.w (.one (.s nm [] (l.length+1) 2)):=by
 rw [Tk (by simp)];simp
theorem v0z (nm:Nat) (l:List (Bool×Int)) (w:Bool) (t:Int):evM nm (l++[(w,t)])=[(nm,⟨true,evC l++[.pl (.i (Hz w)),.pl (.i t)]⟩)]:=by
 rw [Uz (by simp),a2h]
theorem w0b (l:List (Bool×Int)):(Hw l).flatten.length=l.length*2:=by
 induction l with
 |nil=>rfl
 |cons a r ih=>simp only [Hw,yM,xU,yL,yH,xE] at ih ⊢;omega
theorem m0e (l:List (Bool×Int)):(evC l).length=l.length*2:=by rw [evC,pls,vG,w0b]
theorem w0c (l:List (Bool×Int)):m0o (evC l)=some (Hw l).flatten:=Uw _
theorem c1n (l:List (Bool×Int)) (k:Nat):(evC l).any (L.has k)=false:=Ez k _
theorem h0o : ∀ l:List (Bool×Int),chunks 2 l.length (Hw l).flatten=Hw l
 | []=>rfl
 |a::r=>by
  have ih:=h0o r
  simp only [Hw,yM,xU,yH] at ih ⊢
  simp only [chunks,yC,yD,vH,List.take_zero,List.drop_succ_cons,List.drop_zero]
  rw [ih]
def iC (l:List Int):List L:=l.map fun x=>.pl (.i x)
theorem g1f {l:List Int} {n:Nat} (h:n<l.length):List.take 1 (List.drop n (iC l))=[.pl (.i (l.getD n 0))]:=by
 have hl:n<(iC l).length:=by simp only [iC,vG];exact h
 rw [vL hl,vH,List.take_zero]
 simp [iC,List.getD,yX h]
theorem q0x (l:List Int):(iC l).length=l.length:=by simp [iC]
theorem p1c (l:List Int) (k:Nat):(iC l).any (L.has k)=false:=by
 induction l with
 |nil=>rfl
 |cons a r ih=>simp only [iC,yM,wX,L.has,xD];exact ih
theorem g1e (l:List Int):pls (Kq l).flatten=iC l:=by
 induction l with
 |nil=>rfl
 |cons a r ih=>simp only [Kq,yM,xU,yC,yD,pls,iC] at ih ⊢;rw [ih]
theorem c1d (l:List Int) (x:Int):iC l++[.pl (.i x)]=iC (l++[x]):=by simp [iC]
theorem z0c (k:Nat) (c:List PL):(pls c).map (Yz k)=pls c:=by simp only [pls,List.map_map];congr 1
theorem w0d (l:List (Bool×Int)) (k:Nat):(evC l).map (Yz k)=evC l:=z0c k _
theorem c1e (l:List Int) (k:Nat):(iC l).map (Yz k)=iC l:=by rw [←g1e];exact z0c k _
theorem s0a (ls:List (List Int)):m0o (k1b ls)=some (a0u ls).flatten:=by
 have h:k1b ls=pls (a0u ls).flatten:=by
  induction ls with
  |nil=>rfl
  |cons a r ih=>simp only [k1b,a0u,yM,xU,yC,yD,pls] at ih ⊢;rw [ih]
 rw [h];exact Uw _
theorem e0u : ∀ ls:List (List Int),chunks 1 ls.length (a0u ls).flatten=a0u ls
 | []=>rfl
 |a::r=>by
  have ih:=e0u r
  simp only [a0u,yM,xU,yH] at ih ⊢
  simp only [chunks,yC,yD,vH,List.take_zero,List.drop_succ_cons,List.drop_zero]
  rw [ih]
def h0s (l:List (Bool×Int)) (w:Bool):List Int→Option (List (Bool×Int))
 | []=>some l
 |t::r=>if okE l w t then h0s (l++[(w,t)]) w r else none
theorem n0n (w:Bool): ∀ (ts:List Int) (l:List (Bool×Int)),h0s l w (ts++[0])=w0v l w ts
 | [],l=>rfl
 |t::r,l=>by rw [yC,h0s,w0v,n0n w r]
theorem q1u {lt p0 p1 ts} (h:((ts.length:Nat):Int)=0∨(5:Int)<((ts.length:Nat):Int)):a0p lt p0 p1 ts=1:=by
 unfold a0p;rw [if_pos (by omega)]
theorem b2f {lt p0 p1 ts} {e:Int} (hn:¬(ts.length<1∨5<ts.length)) (h:scan (p0::p1::ts)=e) (he:e≠0):a0p lt p0 p1 ts=e:=by
 unfold a0p;rw [if_neg hn,if_pos (by rw [h];exact he),h]
theorem o0t {lt p0 p1 ts} (hn:¬(ts.length<1∨5<ts.length)) (hz:scan (p0::p1::ts)=0) (h:none=c0g [] false p0):a0p lt p0 p1 ts=3:=by
 unfold a0p;rw [if_neg hn,if_neg (by simp [hz]),←h]
theorem o0s {lt p0 p1 ts j} (hn:¬(ts.length<1∨5<ts.length)) (hz:scan (p0::p1::ts)=0) (h0:some j=c0g [] false p0) (h:none=c0g j true p1):a0p lt p0 p1 ts=3:=by
 unfold a0p;rw [if_neg hn,if_neg (by simp [hz]),←h0];simp only;rw [←h]
theorem Cx {lt p0 p1 ts j k} (hn:¬(ts.length<1∨5<ts.length)) (hz:scan (p0::p1::ts)=0) (h0:some j=c0g [] false p0) (h:some k=c0g j true p1):a0p lt p0 p1 ts=c0j lt k 0 ts:=by
 unfold a0p;rw [if_neg hn,if_neg (by simp [hz]),←h0];simp only;rw [←h]
theorem k1c (i:Nat):Int.tmod (((i+1:Nat):Int)) 2=Hz (d0f true i):=by
 rw [d0f,Hz,vJ (by omega)]
 rcases Nat.mod_two_eq_zero_or_one i with h|h
 ·have:(i+1)%2=1:=by omega
  simp [h];omega
 simp [h];omega
theorem Dx (l:List (Bool×Int)) (ex:Bool) (sz:Nat) (hsz:l≠[]→sz=2) (hl:l.length≤9223372036854775807) (w:Bool) (t:Int) (b:Bool) (h:hap l w t=b):Ct Try.prog 50 [.w (.one (.pl (.R ex sz (Hw l)))),.w (.one (.pl (.i (Hz w)))),.w (.one (.pl (.i t)))] (fun v m=>v=.w (.one (.pl (.b b)))):=by
 rw [←h,←Pq];exact Mk l ex sz hsz hl (Hz w) t
theorem Gx (l:List (Bool×Int)) (ex:Bool) (sz:Nat) (hsz:l≠[]→sz=2) (hl:l.length≤9223372036854775807) (t:Int) (b:Bool) (h:any l t=b):Ct Try.prog 50 [.w (.one (.pl (.R ex sz (Hw l)))),.w (.one (.pl (.i (-1)))),.w (.one (.pl (.i t)))] (fun v m=>v=.w (.one (.pl (.b b)))):=by
 rw [←h,←g1m];exact Mk l ex sz hsz hl (-1) t
theorem n0g (l:List (Bool×Int)) (ex:Bool) (sz:Nat) (hsz:l≠[]→sz=2) (hl:l.length≤9223372036854775807) (w b:Bool) (h:Aj l w=b):Ct Try.prog 51 [.w (.one (.pl (.R ex sz (Hw l)))),.w (.one (.pl (.i (Hz w))))] (fun v m=>v=.w (.one (.pl (.b b)))):=by
 rw [←h];exact x1k l ex sz hsz hl w
end Go.Sy
namespace Go.Sy
open Go.Proofs
attribute [local irreducible] Cj HT Bv Rj onC onE onO onG goV goA goS Tj Ck
theorem p0j {x:Int} (lk lm h1 h2 a1 b1 a2 b2 c3 c4 c5 c6:Bool) (hx:0≤x∧x≤7):(x=0∧lk=false)∨(x=0∧lk=true∧lm=true)∨(x=0∧lk=true∧lm=false)∨(x=1∧h1=false)∨(x=1∧h1=true)∨(x=2∧h2=true)∨(x=2∧h2=false∧lk=false)∨(x=2∧h2=false∧lk=true∧lm=true)∨(x=2∧h2=false∧lk=true∧lm=false)∨(x=3∧a1=false)∨(x=3∧a1=true∧b1=false)∨(x=3∧a1=true∧b1=true∧c3=true)∨(x=3∧a1=true∧b1=true∧c3=false)∨(x=4∧a1=false)∨(x=4∧a1=true∧b2=false)∨(x=4∧a1=true∧b2=true∧c4=true)∨(x=4∧a1=true∧b2=true∧c4=false)∨(x=5∧a2=false)∨(x=5∧a2=true∧b1=false)∨(x=5∧a2=true∧b1=true∧c5=true)∨(x=5∧a2=true∧b1=true∧c5=false)∨(x=6∧a2=false)∨(x=6∧a2=true∧b2=false)∨(x=6∧a2=true∧b2=true∧c6=true)∨(x=6∧a2=true∧b2=true∧c6=false)∨x=7:=by
 obtain rfl|rfl|rfl|rfl|rfl|rfl|rfl|rfl:x=0∨x=1∨x=2∨x=3∨x=4∨x=5∨x=6∨x=7:=by omega
 ·cases lk<;>cases lm<;>simp
 ·cases h1<;>simp
 ·cases h2<;>cases lk<;>cases lm<;>simp
 ·cases a1<;>cases b1<;>cases c3<;>simp
 ·cases a1<;>cases b2<;>cases c4<;>simp
 ·cases a2<;>cases b1<;>cases c5<;>simp
 ·cases a2<;>cases b2<;>cases c6<;>simp
 simp
theorem q0c (bs:List UInt8) (lt:Bool) (ps:List (List PL)) (p0 p1:List Int) (ts:List (List Int)) (h1:¬((ts.length:Nat):Int)=0) (h2:¬(5:Int)<((ts.length:Nat):Int)) (hz:scan (p0::p1::ts)=0) (hq: ∀ q0 q1,some q0=c0g [] false p0→some q1=c0g q0 true p1→q1≠[]):
 Ct Try.prog 38 [.w (.agg (Ow bs lt ps p0 p1 ts))] (fun v m=>v=.w (.one (.pl (.i (a0p lt p0 p1 ts))))):=by
 have hlen:¬(ts.length<1∨5<ts.length):=by omega
 have hts:ts.length≤1000000:=by omega
 have ht5:ts.length≤5:=by omega
 have hbb:(2+ts.length)*24≤140737488355328:=by omega
 have hrng:=i0r hz
 have hp0:=(hrng p0 (by simp)).2
 have hp1:=(hrng p1 (by simp)).2
 have hfo:=v0v (p0::p1::ts) false (by simp only [yH];omega)
 have hch:=e0u (p0::p1::ts)
 have hsz:(p0::p1::ts).length=2+ts.length:=by simp only [yH];omega
 rw [hsz] at hch
 rw [hz] at hfo
 have F0:=yA Ow.eq_1<|yA Fz<|yA Fx<|yA h1<|yA h2<|yA hbb<|yA Ez<|yA s0b<|yA k0x<|yA a0g<|yA s0a<|yA hch<|yA hsz<|yA m0b<|yA w0d<|yA c1e<|yA k1e<|yA k1d<|yA (@w0a 64 1 (by decide))<|yA m0e<|yA w0c<|yA c1n<|yA h0o<|yA v0x<|v0z
 have cv0:=Ct.cv (hfo)
 have zF:NF:=⟨⟩
 refine Ct.go Try.func38 rfl Try.ntmps38 Try.results38 fun w0 ro zZ zhZ=>?_
 have cq:=yA cv0<|trivial
 have zU:=yA ur<|trivial
 refine (fun zX=>goW) ?_
 refine Nq [(1,.w (.one (.p 1 []))),(39,.w (.one (.pl (.i 0)))),(5,.w (.one (.pl (.i 0)))),(45,.w (.one (.pl (.R false 1 (Kq p0))))),(46,.w (.one (.pl (.i ((p0.length:Nat):Int)))))] [(1,⟨false,Ow bs lt ps p0 p1 ts⟩)] (fun y=>[(47,.w (.one (.pl (.i ((y.1.1:Nat):Int))))),(3,evV 64 y.1.2)]) (fun y=>evM 64 y.1.2) (fun y=>p0.length-y.1.1) (⟨(0,[]),yP _,rfl,yV _⟩:{y:Nat×List (Bool×Int)//y.1≤p0.length∧c0g y.2 false (p0.drop y.1)=c0g [] false p0∧y.2.length≤y.1}) ?_ (by (simp only [go_sem,leX,yC,yD,a0f,Fx,F0];try simp)) (by (simp only [go_sem,leX,yC,yD,d0c,F0];try simp))
 intro zz xN0 xM0 xhN0 xhM0
 simp only [yC,yD]
 obtain ⟨⟨j,q0⟩,g1,g4,g5⟩:=zz
 simp only at g1 g4 g5
 have hd:(j<p0.length∧2<p0.getD j 0)∨(j<p0.length∧¬2<p0.getD j 0∧hap q0 false (p0.getD j 0)=true∧q0≠[])∨(j<p0.length∧¬2<p0.getD j 0∧hap q0 false (p0.getD j 0)=false∧q0=[])∨(j<p0.length∧¬2<p0.getD j 0∧hap q0 false (p0.getD j 0)=false∧q0≠[])∨j=p0.length:=by
  rcases (by omega:(j<p0.length∧2<p0.getD j 0)∨(j<p0.length∧¬2<p0.getD j 0)∨j=p0.length) with h|⟨h,h2⟩|h
  ·exact .inl h
  ·by_cases hn:q0=[]
   ·subst hn;exact .inr (.inr (.inl ⟨h,h2,rfl,rfl⟩))
   cases hh:hap q0 false (p0.getD j 0)
   ·exact .inr (.inr (.inr (.inl ⟨h,h2,rfl,hn⟩)))
   exact .inr (.inl ⟨h,h2,rfl,hn⟩)
  exact .inr (.inr (.inr (.inr h)))
 rcases hd with ⟨glt,hbad⟩|⟨glt,hbad,hfl,hne⟩|⟨glt,hbad,hfl,rfl⟩|⟨glt,hbad,hfl,hne⟩|rfl
 ·have gcq:=q0o glt
  have gj:=yN j
  have gg:=Bj glt
  obtain ⟨x,hx⟩: ∃ x,p0.getD j 0=x:=⟨_,rfl⟩
  have hxr:=Dk (hrng p0 (by simp)).1 x (hx▸Cw glt)
  rw [Ak (z:=0) glt,c0g,hx] at g4
  rw [hx] at gg hbad
  rw [if_pos (.inl hbad)] at g4
  have F0:=yA gcq<|yA gj<|yA glt<|yA gg<|yA hbad<|F0
  have zE:=o0t (lt:=lt) hlen hz g4
  exact goW
 ·have gcq:=q0o glt
  have gj:=yN j
  have gg:=Bj glt
  obtain ⟨x,hx⟩: ∃ x,p0.getD j 0=x:=⟨_,rfl⟩
  have hxr:=Dk (hrng p0 (by simp)).1 x (hx▸Cw glt)
  rw [Ak (z:=0) glt,c0g,hx] at g4
  rw [hx] at gg hbad
  have hv:=Tk (nm:=64) hne
  have hm:=Uz (nm:=64) hne
  have h60:q0.length≤60:=o2v g5 glt hp0
  have hcap:=h0w h60
  rw [hx] at hfl
  rw [if_pos (.inr hfl)] at g4
  have F0:=yA gcq<|yA gj<|yA glt<|yA gg<|yA hv<|yA hm<|yA hcap<|yA hbad<|F0
  have cv0:=Ct.cv (Dx q0 false 2 (fun _=>rfl) (Fy h60) false x true hfl)
  have zE:=o0t (lt:=lt) hlen hz g4
  exact goW
 ·have gcq:=q0o glt
  have gj:=yN j
  have gg:=Bj glt
  obtain ⟨x,hx⟩: ∃ x,p0.getD j 0=x:=⟨_,rfl⟩
  have hxr:=Dk (hrng p0 (by simp)).1 x (hx▸Cw glt)
  rw [Ak (z:=0) glt,c0g,hx] at g4
  rw [hx] at gg hbad
  rw [hx] at hfl
  rw [if_neg (by simp [hbad,hfl])] at g4
  have gs1:=b0k glt (yJ hp0 (by decide))
  have F0:=yA gcq<|yA gj<|yA glt<|yA gg<|yA hbad<|yA gs1<|yA (a0f 64)<|yA (d0c 64)<|yA (r0h 64)<|yA (r0i 64)<|F0
  have cv0:=Ct.cv (Dx [] true 1 (fun h=>absurd rfl h) (by decide) false x false rfl)
  have zL:=fun S2=>xhN0 ⟨(j+1,[]++[(false,x)]),glt,g4,Ey g5⟩ S2 (by exact yB glt (yE j))
  exact goW
 ·have gcq:=q0o glt
  have gj:=yN j
  have gg:=Bj glt
  obtain ⟨x,hx⟩: ∃ x,p0.getD j 0=x:=⟨_,rfl⟩
  have hxr:=Dk (hrng p0 (by simp)).1 x (hx▸Cw glt)
  rw [Ak (z:=0) glt,c0g,hx] at g4
  rw [hx] at gg hbad
  have hv:=Tk (nm:=64) hne
  have hm:=Uz (nm:=64) hne
  have h60:q0.length≤60:=o2v g5 glt hp0
  have hcap:=h0w h60
  rw [hx] at hfl
  rw [if_neg (by simp [hbad,hfl])] at g4
  have gs1:=b0k glt (yJ hp0 (by decide))
  have F0:=yA gcq<|yA gj<|yA glt<|yA gg<|yA hv<|yA hm<|yA hcap<|yA hbad<|yA gs1<|F0
  have cv0:=Ct.cv (Dx q0 false 2 (fun _=>rfl) (Fy h60) false x false hfl)
  have zL:=fun S2=>xhN0 ⟨(j+1,q0++[(false,x)]),glt,g4,Ey g5⟩ S2 (by exact yB glt (yE j))
  exact goW
 rw [yG,c0g] at g4
 have gcq:=v0e (n:=p0.length)
 have hq0:=g4
 have hl0:q0.length≤6:=by omega
 have F0:=yA gcq<|F0
 have zU:=trivial
 refine (fun zX=>goW) ?_
 refine Nq [(1,.w (.one (.p 1 []))),(39,.w (.one (.pl (.i 1)))),(5,.w (.one (.pl (.i 1)))),(45,.w (.one (.pl (.R false 1 (Kq p1))))),(46,.w (.one (.pl (.i ((p1.length:Nat):Int)))))] [(1,⟨false,Ow bs lt ps p0 p1 ts⟩)] (fun y=>[(47,.w (.one (.pl (.i ((y.1.1:Nat):Int))))),(3,evV 64 y.1.2)]) (fun y=>evM 64 y.1.2) (fun y=>p1.length-y.1.1) (⟨(0,q0),yP _,rfl,hl0⟩:{y:Nat×List (Bool×Int)//y.1≤p1.length∧c0g y.2 true (p1.drop y.1)=c0g q0 true p1∧y.2.length≤6+y.1}) ?_ (by (simp only [go_sem,leX,yC,yD,a0f,Fx,F0];try simp)) (by (simp only [go_sem,Ow.eq_1];first|exact Yj _|(rw [←Ow.eq_1];exact Yj _)))
 intro zz xN1 xM1 xhN1 xhM1
 simp only [yC,yD]
 obtain ⟨⟨j,q1⟩,g1,g4,g5⟩:=zz
 simp only at g1 g4 g5
 have hd:(j<p1.length∧2<p1.getD j 0)∨(j<p1.length∧¬2<p1.getD j 0∧hap q1 true (p1.getD j 0)=true∧q1≠[])∨(j<p1.length∧¬2<p1.getD j 0∧hap q1 true (p1.getD j 0)=false∧q1=[])∨(j<p1.length∧¬2<p1.getD j 0∧hap q1 true (p1.getD j 0)=false∧q1≠[])∨j=p1.length:=by
  rcases (by omega:(j<p1.length∧2<p1.getD j 0)∨(j<p1.length∧¬2<p1.getD j 0)∨j=p1.length) with h|⟨h,h2⟩|h
  ·exact .inl h
  ·by_cases hn:q1=[]
   ·subst hn;exact .inr (.inr (.inl ⟨h,h2,rfl,rfl⟩))
   cases hh:hap q1 true (p1.getD j 0)
   ·exact .inr (.inr (.inr (.inl ⟨h,h2,rfl,hn⟩)))
   exact .inr (.inl ⟨h,h2,rfl,hn⟩)
  exact .inr (.inr (.inr (.inr h)))
 rcases hd with ⟨glt,hbad⟩|⟨glt,hbad,hfl,hne⟩|⟨glt,hbad,hfl,rfl⟩|⟨glt,hbad,hfl,hne⟩|rfl
 ·have gcq:=q0o glt
  have gj:=yN j
  have gg:=Bj glt
  obtain ⟨x,hx⟩: ∃ x,p1.getD j 0=x:=⟨_,rfl⟩
  have hxr:=Dk (hrng p1 (by simp)).1 x (hx▸Cw glt)
  rw [Ak (z:=0) glt,c0g,hx] at g4
  rw [hx] at gg hbad
  rw [if_pos (.inl hbad)] at g4
  have F0:=yA gcq<|yA gj<|yA glt<|yA gg<|yA hbad<|F0
  have zE:=o0s (lt:=lt) hlen hz hq0 g4
  exact goW
 ·have gcq:=q0o glt
  have gj:=yN j
  have gg:=Bj glt
  obtain ⟨x,hx⟩: ∃ x,p1.getD j 0=x:=⟨_,rfl⟩
  have hxr:=Dk (hrng p1 (by simp)).1 x (hx▸Cw glt)
  rw [Ak (z:=0) glt,c0g,hx] at g4
  rw [hx] at gg hbad
  have hv:=Tk (nm:=64) hne
  have hm:=Uz (nm:=64) hne
  have h60:q1.length≤60:=o2u g5 glt hp1
  have hcap:=h0w h60
  rw [hx] at hfl
  rw [if_pos (.inr hfl)] at g4
  have F0:=yA gcq<|yA gj<|yA glt<|yA gg<|yA hv<|yA hm<|yA hcap<|yA hbad<|F0
  have cv0:=Ct.cv (Dx q1 false 2 (fun _=>rfl) (Fy h60) true x true hfl)
  have zE:=o0s (lt:=lt) hlen hz hq0 g4
  exact goW
 ·have gcq:=q0o glt
  have gj:=yN j
  have gg:=Bj glt
  obtain ⟨x,hx⟩: ∃ x,p1.getD j 0=x:=⟨_,rfl⟩
  have hxr:=Dk (hrng p1 (by simp)).1 x (hx▸Cw glt)
  rw [Ak (z:=0) glt,c0g,hx] at g4
  rw [hx] at gg hbad
  rw [hx] at hfl
  rw [if_neg (by simp [hbad,hfl])] at g4
  have gs1:=b0k glt (yJ hp1 (by decide))
  have F0:=yA gcq<|yA gj<|yA glt<|yA gg<|yA hbad<|yA gs1<|yA (a0f 64)<|yA (d0c 64)<|yA (r0h 64)<|yA (r0i 64)<|F0
  have cv0:=Ct.cv (Dx [] true 1 (fun h=>absurd rfl h) (by decide) true x false rfl)
  have zL:=fun S2=>xhN1 ⟨(j+1,[]++[(true,x)]),glt,g4,Ey g5⟩ S2 (by exact yB glt (yE j))
  exact goW
 ·have gcq:=q0o glt
  have gj:=yN j
  have gg:=Bj glt
  obtain ⟨x,hx⟩: ∃ x,p1.getD j 0=x:=⟨_,rfl⟩
  have hxr:=Dk (hrng p1 (by simp)).1 x (hx▸Cw glt)
  rw [Ak (z:=0) glt,c0g,hx] at g4
  rw [hx] at gg hbad
  have hv:=Tk (nm:=64) hne
  have hm:=Uz (nm:=64) hne
  have h60:q1.length≤60:=o2u g5 glt hp1
  have hcap:=h0w h60
  rw [hx] at hfl
  rw [if_neg (by simp [hbad,hfl])] at g4
  have gs1:=b0k glt (yJ hp1 (by decide))
  have F0:=yA gcq<|yA gj<|yA glt<|yA gg<|yA hv<|yA hm<|yA hcap<|yA hbad<|yA gs1<|F0
  have cv0:=Ct.cv (Dx q1 false 2 (fun _=>rfl) (Fy h60) true x false hfl)
  have zL:=fun S2=>xhN1 ⟨(j+1,q1++[(true,x)]),glt,g4,Ey g5⟩ S2 (by exact yB glt (yE j))
  exact goW
 rw [yG,c0g] at g4
 have gcq:=v0e (n:=p1.length)
 have hq1:=g4
 have hl1:q1.length≤12:=by omega
 have F0:=yA gcq<|F0
 have zU:=trivial
 have zG:ZG 18:=⟨⟩
 refine (fun zX=>goW) ?_
 refine ⟨?_⟩;clear zG
 have hne1:=hq q0 q1 hq0 hq1
 skip
 have zU:=trivial
 refine (fun zX=>goW) ?_
 refine Nq [(1,.w (.one (.p 1 []))),(68,.w (.one (.pl (.R false 1 (a0u ts))))),(69,.w (.one (.pl (.i ((ts.length:Nat):Int)))))] [(1,⟨false,Ow bs lt ps p0 p1 ts⟩)] (fun y=>[(70,.w (.one (.pl (.i ((y.1.1:Nat):Int))))),(3,evV 64 y.1.2)]) (fun y=>evM 64 y.1.2) (fun y=>ts.length-y.1.1) (⟨(0,q1),yP _,rfl,by omega,hne1⟩:{y:Nat×List (Bool×Int)//y.1≤ts.length∧c0j lt y.2 y.1 (ts.drop y.1)=c0j lt q1 0 ts∧y.2.length≤12+7*y.1∧y.2≠[]}) ?_ (by (simp only [go_sem,leX,yC,yD,a0f,Fz,F0];try simp)) (by (simp only [go_sem,Ow.eq_1];first|exact Yj _|(rw [←Ow.eq_1];exact Yj _)))
 intro yy xN2 xM2 xhN2 xhM2
 simp only [yC,yD]
 obtain ⟨⟨i,q2⟩,h1,h4,h5,hn2⟩:=yy
 simp only at h1 h4 h5 hn2
 rcases (by omega:i<ts.length∨i=ts.length) with hlt|rfl
 ·have hcq:=q0o hlt
  have hi0:=yN i
  have hg:=Vq hlt
  obtain ⟨l,hl⟩: ∃ l,ts.getD i []=l:=⟨_,rfl⟩
  have hlm:l∈ts:=hl▸Cw hlt
  have hlr:=hrng l (by simp [hlm])
  obtain ⟨wb,hwb⟩: ∃ wb,d0f lt i=wb:=⟨_,rfl⟩
  rw [Ak (z:=[]) hlt,c0j,hl,hwb,←n0n] at h4
  rw [hl] at hg
  have hln:(l++[0]).length=l.length+1:=by simp
  have hcl:=j2o (n:=l.length) (yJ hlr.2 (by decide))
  have hcl2:=j2o (n:=l.length+1) (yJ (xH hlr.2) (by decide))
  have hs1:=b0k hlt hts
  have hq40:=q2i h5 hlt ht5
  have hv:=Tk (nm:=64) hn2
  have hm:=Uz (nm:=64) hn2
  have h60:q2.length≤60:=yJ hq40 (by decide)
  have hcap:=h0w h60
  have hne:=hn2
  have F0:=yA hcq<|yA hi0<|yA hlt<|yA hg<|yA hs1<|yA q0x<|yA p1c<|yA g1e<|yA c1d<|yA hcl<|yA hcl2<|yA hv<|yA hm<|yA hcap<|F0
  have zU:=trivial
  have zG:ZG 22:=⟨⟩
  refine (fun zX=>goW) ?_
  refine ⟨?_⟩;clear zG
  refine g0d (fun w=>[(10,.w (.one (.pl (.i (Hz w)))))]) (fun _=>[]) (fun w=>d0f lt i=w) (fun xNj xMj xhNj xhMj=>?_) (fun wc hwc=>?_)
  ·rcases lt with _|_
   ·have hw1:=a1s i
    have F0:=yA hw1<|F0
    have zL:=fun S2=>xhNj (d0f false i) rfl S2
    exact goW
   have hw1:=k1c i
   have F0:=yA hw1<|F0
   have zL:=fun S2=>xhNj (d0f true i) rfl S2
   exact goW
  rw [hwb] at hwc
  subst hwc
  have zU:=trivial
  refine (fun zX=>goW) ?_
  refine Nq [(70,.w (.one (.pl (.i ((i:Nat):Int))))),(10,.w (.one (.pl (.i (Hz wb))))),(86,.w (.one (.s 82 [] (l.length+1) 1))),(87,.w (.one (.pl (.i ((l.length+1:Nat):Int))))),(1,.w (.one (.p 1 []))),(68,.w (.one (.pl (.R false 1 (a0u ts))))),(69,.w (.one (.pl (.i ((ts.length:Nat):Int)))))] [(82,⟨true,iC (l++[0])⟩),(1,⟨false,Ow bs lt ps p0 p1 ts⟩)] (fun y=>[(88,.w (.one (.pl (.i ((y.1.1:Nat):Int))))),(3,evV 64 y.1.2)]) (fun y=>evM 64 y.1.2) (fun y=>l.length+1-y.1.1) (⟨(0,q2),yP _,rfl,yV _,fun _=>hne⟩:{y:Nat×List (Bool×Int)//y.1≤l.length+1∧h0s y.2 wb ((l++[0]).drop y.1)=h0s q2 wb (l++[0])∧y.2.length≤q2.length+y.1∧(True→y.2≠[])}) ?_
  intro zz xN3 xM3 xhN3 xhM3
  simp only [yC,yD]
  obtain ⟨⟨j,q3⟩,g1,g4,g5,g6⟩:=zz
  simp only at g1 g4 g5 g6
  have hd:(j<l.length+1∧q3≠[])∨j=l.length+1:=by
   have hn:q3≠[]:=g6 trivial
   simp [hn];omega
  rcases hd with ⟨glt,hne⟩|rfl
  ·have gcq:=q0o glt
   have gj:=yN j
   have glt2:j<(l++[0]).length:=hln▸glt
   have glt3:j<l.length+1:=glt
   have hjl:j≤l.length:=Nat.le_of_lt_succ glt
   have gg:=g1f glt2
   obtain ⟨x,hx⟩: ∃ x,(l++[0]).getD j 0=x:=⟨_,rfl⟩
   have hxr:0≤x∧x≤7:=by
    have hm:=hx▸Cw (z:=(0:Int)) glt2
    rcases yU.mp hm with h|h
    ·have:=Dk hlr.1 x h;omega
    rw [xW.mp h];decide
   rw [Ak (z:=0) glt2,h0s,hx] at g4
   rw [hx] at gg
   have gs1:=b0k glt (yJ (xH hlr.2) (by decide))
   have hv:=Tk (nm:=64) hne
   have hm:=Uz (nm:=64) hne
   have h60:q3.length≤60:=j2p g5 hq40 g1 hlr.2
   have hcap:=h0w h60
   have F0:=yA gcq<|yA gj<|yA glt3<|yA hjl<|yA gg<|yA gs1<|yA hv<|yA hm<|yA hcap<|F0
   have zU:=trivial
   have zS:ZS 27:=⟨⟩
   refine (fun zX=>goW) ?_
   refine ⟨?_⟩;clear zS
   refine g0d (fun w=>[(13,.w (.one (.pl (.b w))))]) (fun _=>[]) (fun w=>Pv q3=w) (fun xNj xMj xhNj xhMj=>?_) (fun lk hlk=>?_)
   ·have hd:any q3 3=true∨(any q3 3=false∧any q3 4=true)∨(any q3 3=false∧any q3 4=false∧any q3 5=true)∨(any q3 3=false∧any q3 4=false∧any q3 5=false∧any q3 6=true)∨(any q3 3=false∧any q3 4=false∧any q3 5=false∧any q3 6=false∧any q3 7=true)∨(any q3 3=false∧any q3 4=false∧any q3 5=false∧any q3 6=false∧any q3 7=false):=by cases any q3 3<;>cases any q3 4<;>cases any q3 5<;>cases any q3 6<;>cases any q3 7<;>simp
    rcases hd with h3|⟨h3,h4'⟩|⟨h3,h4',h5⟩|⟨h3,h4',h5,h6⟩|⟨h3,h4',h5,h6,h7⟩|⟨h3,h4',h5,h6,h7⟩
    ·skip
     have cv0:=Ct.cv (Gx q3 false 2 (fun _=>rfl) (Fy h60) 3 true h3)
     have zL:=fun S2=>xhNj true (by rw [Pv,h3];simp) S2
     exact goW
    ·skip
     have cv0:=Ct.cv (Gx q3 false 2 (fun _=>rfl) (Fy h60) 3 false h3)
     have cv1:=Ct.cv (Gx q3 false 2 (fun _=>rfl) (Fy h60) 4 true h4')
     have zL:=fun S2=>xhNj true (by rw [Pv,h3,h4'];simp) S2
     exact goW
    ·skip
     have cv0:=Ct.cv (Gx q3 false 2 (fun _=>rfl) (Fy h60) 3 false h3)
     have cv1:=Ct.cv (Gx q3 false 2 (fun _=>rfl) (Fy h60) 4 false h4')
     have cv2:=Ct.cv (Gx q3 false 2 (fun _=>rfl) (Fy h60) 5 true h5)
     have zL:=fun S2=>xhNj true (by rw [Pv,h3,h4',h5];simp) S2
     exact goW
    ·skip
     have cv0:=Ct.cv (Gx q3 false 2 (fun _=>rfl) (Fy h60) 3 false h3)
     have cv1:=Ct.cv (Gx q3 false 2 (fun _=>rfl) (Fy h60) 4 false h4')
     have cv2:=Ct.cv (Gx q3 false 2 (fun _=>rfl) (Fy h60) 5 false h5)
     have cv3:=Ct.cv (Gx q3 false 2 (fun _=>rfl) (Fy h60) 6 true h6)
     have zL:=fun S2=>xhNj true (by rw [Pv,h3,h4',h5,h6];simp) S2
     exact goW
    ·skip
     have cv0:=Ct.cv (Gx q3 false 2 (fun _=>rfl) (Fy h60) 3 false h3)
     have cv1:=Ct.cv (Gx q3 false 2 (fun _=>rfl) (Fy h60) 4 false h4')
     have cv2:=Ct.cv (Gx q3 false 2 (fun _=>rfl) (Fy h60) 5 false h5)
     have cv3:=Ct.cv (Gx q3 false 2 (fun _=>rfl) (Fy h60) 6 false h6)
     have cv4:=Ct.cv (Gx q3 false 2 (fun _=>rfl) (Fy h60) 7 true h7)
     have zL:=fun S2=>xhNj true (by rw [Pv,h3,h4',h5,h6,h7];simp) S2
     exact goW
    skip
    have cv0:=Ct.cv (Gx q3 false 2 (fun _=>rfl) (Fy h60) 3 false h3)
    have cv1:=Ct.cv (Gx q3 false 2 (fun _=>rfl) (Fy h60) 4 false h4')
    have cv2:=Ct.cv (Gx q3 false 2 (fun _=>rfl) (Fy h60) 5 false h5)
    have cv3:=Ct.cv (Gx q3 false 2 (fun _=>rfl) (Fy h60) 6 false h6)
    have cv4:=Ct.cv (Gx q3 false 2 (fun _=>rfl) (Fy h60) 7 false h7)
    have zL:=fun S2=>xhNj false (by rw [Pv,h3,h4',h5,h6,h7];simp) S2
    exact goW
   skip
   rcases (p0j lk (Aj q3 wb) (hap q3 wb 1) (hap q3 wb 2) (hap q3 false 1) (hap q3 true 1) (hap q3 false 2) (hap q3 true 2) (any q3 3) (any q3 4) (any q3 5) (any q3 6) hxr:(x=0∧lk=false)∨(x=0∧lk=true∧Aj q3 wb=true)∨(x=0∧lk=true∧Aj q3 wb=false)∨(x=1∧hap q3 wb 1=false)∨(x=1∧hap q3 wb 1=true)∨(x=2∧hap q3 wb 2=true)∨(x=2∧hap q3 wb 2=false∧lk=false)∨(x=2∧hap q3 wb 2=false∧lk=true∧Aj q3 wb=true)∨(x=2∧hap q3 wb 2=false∧lk=true∧Aj q3 wb=false)∨(x=3∧hap q3 false 1=false)∨(x=3∧hap q3 false 1=true∧hap q3 true 1=false)∨(x=3∧hap q3 false 1=true∧hap q3 true 1=true∧any q3 3=true)∨(x=3∧hap q3 false 1=true∧hap q3 true 1=true∧any q3 3=false)∨(x=4∧hap q3 false 1=false)∨(x=4∧hap q3 false 1=true∧hap q3 true 2=false)∨(x=4∧hap q3 false 1=true∧hap q3 true 2=true∧any q3 4=true)∨(x=4∧hap q3 false 1=true∧hap q3 true 2=true∧any q3 4=false)∨(x=5∧hap q3 false 2=false)∨(x=5∧hap q3 false 2=true∧hap q3 true 1=false)∨(x=5∧hap q3 false 2=true∧hap q3 true 1=true∧any q3 5=true)∨(x=5∧hap q3 false 2=true∧hap q3 true 1=true∧any q3 5=false)∨(x=6∧hap q3 false 2=false)∨(x=6∧hap q3 false 2=true∧hap q3 true 2=false)∨(x=6∧hap q3 false 2=true∧hap q3 true 2=true∧any q3 6=true)∨(x=6∧hap q3 false 2=true∧hap q3 true 2=true∧any q3 6=false)∨x=7) with ⟨hx0,hk⟩|⟨hx0,hk,hm_⟩|⟨hx0,hk,hm_⟩|⟨hx0,ha⟩|⟨hx0,ha⟩|⟨hx0,ha⟩|⟨hx0,ha,hk⟩|⟨hx0,ha,hk,hm_⟩|⟨hx0,ha,hk,hm_⟩|⟨hx0,ha⟩|⟨hx0,ha,hb⟩|⟨hx0,ha,hb,hc⟩|⟨hx0,ha,hb,hc⟩|⟨hx0,ha⟩|⟨hx0,ha,hb⟩|⟨hx0,ha,hb,hc⟩|⟨hx0,ha,hb,hc⟩|⟨hx0,ha⟩|⟨hx0,ha,hb⟩|⟨hx0,ha,hb,hc⟩|⟨hx0,ha,hb,hc⟩|⟨hx0,ha⟩|⟨hx0,ha,hb⟩|⟨hx0,ha,hb,hc⟩|⟨hx0,ha,hb,hc⟩|hx0
   ·have hok:okE q3 wb x=true:=by rw [hx0];simp [okE,hk,hlk]
    rw [hok,if_pos rfl] at g4
    have F0:=yA hx0<|yA hk<|F0
    have zL:=fun S2=>xhN3 ⟨(j+1,q3++[(wb,x)]),glt,g4,Ey g5,fun _=>Jk _ _⟩ S2 (by exact yB glt (yE j))
    exact goW
   ·have hok:okE q3 wb x=true:=by rw [hx0];simp [okE,hk,hm_,hlk]
    rw [hok,if_pos rfl] at g4
    have F0:=yA hx0<|yA hk<|F0
    have cv0:=Ct.cv (n0g q3 false 2 (fun _=>rfl) (Fy h60) wb true hm_)
    have zL:=fun S2=>xhN3 ⟨(j+1,q3++[(wb,x)]),glt,g4,Ey g5,fun _=>Jk _ _⟩ S2 (by exact yB glt (yE j))
    exact goW
   ·have hok:okE q3 wb x=false:=by rw [hx0];simp [okE,hk,hm_,hlk]
    rw [hok,if_neg (by decide)] at g4
    rw [←g4] at h4
    have F0:=yA hx0<|yA hk<|F0
    have cv0:=Ct.cv (n0g q3 false 2 (fun _=>rfl) (Fy h60) wb false hm_)
    have zE:=(Cx (lt:=lt) hlen hz hq0 hq1).trans (show (3:Int)=_ from h4).symm
    exact goW
   ·have hok:okE q3 wb x=true:=by rw [hx0];simp [okE,ha,hlk]
    rw [hok,if_pos rfl] at g4
    have F0:=yA hx0<|F0
    have cv0:=Ct.cv (Dx q3 false 2 (fun _=>rfl) (Fy h60) wb 1 false ha)
    have zL:=fun S2=>xhN3 ⟨(j+1,q3++[(wb,x)]),glt,g4,Ey g5,fun _=>Jk _ _⟩ S2 (by exact yB glt (yE j))
    exact goW
   ·have hok:okE q3 wb x=false:=by rw [hx0];simp [okE,ha,hlk]
    rw [hok,if_neg (by decide)] at g4
    rw [←g4] at h4
    have F0:=yA hx0<|F0
    have cv0:=Ct.cv (Dx q3 false 2 (fun _=>rfl) (Fy h60) wb 1 true ha)
    have zE:=(Cx (lt:=lt) hlen hz hq0 hq1).trans (show (3:Int)=_ from h4).symm
    exact goW
   ·have hok:okE q3 wb x=false:=by rw [hx0];simp [okE,ha,hlk]
    rw [hok,if_neg (by decide)] at g4
    rw [←g4] at h4
    have F0:=yA hx0<|F0
    have cv0:=Ct.cv (Dx q3 false 2 (fun _=>rfl) (Fy h60) wb 2 true ha)
    have zE:=(Cx (lt:=lt) hlen hz hq0 hq1).trans (show (3:Int)=_ from h4).symm
    exact goW
   ·have hok:okE q3 wb x=true:=by rw [hx0];simp [okE,ha,hk,hlk]
    rw [hok,if_pos rfl] at g4
    have F0:=yA hx0<|yA hk<|F0
    have cv0:=Ct.cv (Dx q3 false 2 (fun _=>rfl) (Fy h60) wb 2 false ha)
    have zL:=fun S2=>xhN3 ⟨(j+1,q3++[(wb,x)]),glt,g4,Ey g5,fun _=>Jk _ _⟩ S2 (by exact yB glt (yE j))
    exact goW
   ·have hok:okE q3 wb x=true:=by rw [hx0];simp [okE,ha,hk,hm_,hlk]
    rw [hok,if_pos rfl] at g4
    have F0:=yA hx0<|yA hk<|F0
    have cv0:=Ct.cv (Dx q3 false 2 (fun _=>rfl) (Fy h60) wb 2 false ha)
    have cv1:=Ct.cv (n0g q3 false 2 (fun _=>rfl) (Fy h60) wb true hm_)
    have zL:=fun S2=>xhN3 ⟨(j+1,q3++[(wb,x)]),glt,g4,Ey g5,fun _=>Jk _ _⟩ S2 (by exact yB glt (yE j))
    exact goW
   ·have hok:okE q3 wb x=false:=by rw [hx0];simp [okE,ha,hk,hm_,hlk]
    rw [hok,if_neg (by decide)] at g4
    rw [←g4] at h4
    have F0:=yA hx0<|yA hk<|F0
    have cv0:=Ct.cv (Dx q3 false 2 (fun _=>rfl) (Fy h60) wb 2 false ha)
    have cv1:=Ct.cv (n0g q3 false 2 (fun _=>rfl) (Fy h60) wb false hm_)
    have zE:=(Cx (lt:=lt) hlen hz hq0 hq1).trans (show (3:Int)=_ from h4).symm
    exact goW
   ·have hok:okE q3 wb x=false:=by rw [hx0];simp [okE,ha,hlk]
    rw [hok,if_neg (by decide)] at g4
    rw [←g4] at h4
    have F0:=yA hx0<|F0
    have cv0:=Ct.cv (Dx q3 false 2 (fun _=>rfl) (Fy h60) false 1 false ha)
    have zE:=(Cx (lt:=lt) hlen hz hq0 hq1).trans (show (3:Int)=_ from h4).symm
    exact goW
   ·have hok:okE q3 wb x=false:=by rw [hx0];simp [okE,ha,hb,hlk]
    rw [hok,if_neg (by decide)] at g4
    rw [←g4] at h4
    have F0:=yA hx0<|F0
    have cv0:=Ct.cv (Dx q3 false 2 (fun _=>rfl) (Fy h60) false 1 true ha)
    have cv1:=Ct.cv (Dx q3 false 2 (fun _=>rfl) (Fy h60) true 1 false hb)
    have zE:=(Cx (lt:=lt) hlen hz hq0 hq1).trans (show (3:Int)=_ from h4).symm
    exact goW
   ·have hok:okE q3 wb x=false:=by rw [hx0];simp [okE,ha,hb,hc,hlk]
    rw [hok,if_neg (by decide)] at g4
    rw [←g4] at h4
    have F0:=yA hx0<|F0
    have cv0:=Ct.cv (Dx q3 false 2 (fun _=>rfl) (Fy h60) false 1 true ha)
    have cv1:=Ct.cv (Dx q3 false 2 (fun _=>rfl) (Fy h60) true 1 true hb)
    have cv2:=Ct.cv (Gx q3 false 2 (fun _=>rfl) (Fy h60) 3 true hc)
    have zE:=(Cx (lt:=lt) hlen hz hq0 hq1).trans (show (3:Int)=_ from h4).symm
    exact goW
   ·have hok:okE q3 wb x=true:=by rw [hx0];simp [okE,ha,hb,hc,hlk]
    rw [hok,if_pos rfl] at g4
    have F0:=yA hx0<|F0
    have cv0:=Ct.cv (Dx q3 false 2 (fun _=>rfl) (Fy h60) false 1 true ha)
    have cv1:=Ct.cv (Dx q3 false 2 (fun _=>rfl) (Fy h60) true 1 true hb)
    have cv2:=Ct.cv (Gx q3 false 2 (fun _=>rfl) (Fy h60) 3 false hc)
    have zL:=fun S2=>xhN3 ⟨(j+1,q3++[(wb,x)]),glt,g4,Ey g5,fun _=>Jk _ _⟩ S2 (by exact yB glt (yE j))
    exact goW
   ·have hok:okE q3 wb x=false:=by rw [hx0];simp [okE,ha,hlk]
    rw [hok,if_neg (by decide)] at g4
    rw [←g4] at h4
    have F0:=yA hx0<|F0
    have cv0:=Ct.cv (Dx q3 false 2 (fun _=>rfl) (Fy h60) false 1 false ha)
    have zE:=(Cx (lt:=lt) hlen hz hq0 hq1).trans (show (3:Int)=_ from h4).symm
    exact goW
   ·have hok:okE q3 wb x=false:=by rw [hx0];simp [okE,ha,hb,hlk]
    rw [hok,if_neg (by decide)] at g4
    rw [←g4] at h4
    have F0:=yA hx0<|F0
    have cv0:=Ct.cv (Dx q3 false 2 (fun _=>rfl) (Fy h60) false 1 true ha)
    have cv1:=Ct.cv (Dx q3 false 2 (fun _=>rfl) (Fy h60) true 2 false hb)
    have zE:=(Cx (lt:=lt) hlen hz hq0 hq1).trans (show (3:Int)=_ from h4).symm
    exact goW
   ·have hok:okE q3 wb x=false:=by rw [hx0];simp [okE,ha,hb,hc,hlk]
    rw [hok,if_neg (by decide)] at g4
    rw [←g4] at h4
    have F0:=yA hx0<|F0
    have cv0:=Ct.cv (Dx q3 false 2 (fun _=>rfl) (Fy h60) false 1 true ha)
    have cv1:=Ct.cv (Dx q3 false 2 (fun _=>rfl) (Fy h60) true 2 true hb)
    have cv2:=Ct.cv (Gx q3 false 2 (fun _=>rfl) (Fy h60) 4 true hc)
    have zE:=(Cx (lt:=lt) hlen hz hq0 hq1).trans (show (3:Int)=_ from h4).symm
    exact goW
   ·have hok:okE q3 wb x=true:=by rw [hx0];simp [okE,ha,hb,hc,hlk]
    rw [hok,if_pos rfl] at g4
    have F0:=yA hx0<|F0
    have cv0:=Ct.cv (Dx q3 false 2 (fun _=>rfl) (Fy h60) false 1 true ha)
    have cv1:=Ct.cv (Dx q3 false 2 (fun _=>rfl) (Fy h60) true 2 true hb)
    have cv2:=Ct.cv (Gx q3 false 2 (fun _=>rfl) (Fy h60) 4 false hc)
    have zL:=fun S2=>xhN3 ⟨(j+1,q3++[(wb,x)]),glt,g4,Ey g5,fun _=>Jk _ _⟩ S2 (by exact yB glt (yE j))
    exact goW
   ·have hok:okE q3 wb x=false:=by rw [hx0];simp [okE,ha,hlk]
    rw [hok,if_neg (by decide)] at g4
    rw [←g4] at h4
    have F0:=yA hx0<|F0
    have cv0:=Ct.cv (Dx q3 false 2 (fun _=>rfl) (Fy h60) false 2 false ha)
    have zE:=(Cx (lt:=lt) hlen hz hq0 hq1).trans (show (3:Int)=_ from h4).symm
    exact goW
   ·have hok:okE q3 wb x=false:=by rw [hx0];simp [okE,ha,hb,hlk]
    rw [hok,if_neg (by decide)] at g4
    rw [←g4] at h4
    have F0:=yA hx0<|F0
    have cv0:=Ct.cv (Dx q3 false 2 (fun _=>rfl) (Fy h60) false 2 true ha)
    have cv1:=Ct.cv (Dx q3 false 2 (fun _=>rfl) (Fy h60) true 1 false hb)
    have zE:=(Cx (lt:=lt) hlen hz hq0 hq1).trans (show (3:Int)=_ from h4).symm
    exact goW
   ·have hok:okE q3 wb x=false:=by rw [hx0];simp [okE,ha,hb,hc,hlk]
    rw [hok,if_neg (by decide)] at g4
    rw [←g4] at h4
    have F0:=yA hx0<|F0
    have cv0:=Ct.cv (Dx q3 false 2 (fun _=>rfl) (Fy h60) false 2 true ha)
    have cv1:=Ct.cv (Dx q3 false 2 (fun _=>rfl) (Fy h60) true 1 true hb)
    have cv2:=Ct.cv (Gx q3 false 2 (fun _=>rfl) (Fy h60) 5 true hc)
    have zE:=(Cx (lt:=lt) hlen hz hq0 hq1).trans (show (3:Int)=_ from h4).symm
    exact goW
   ·have hok:okE q3 wb x=true:=by rw [hx0];simp [okE,ha,hb,hc,hlk]
    rw [hok,if_pos rfl] at g4
    have F0:=yA hx0<|F0
    have cv0:=Ct.cv (Dx q3 false 2 (fun _=>rfl) (Fy h60) false 2 true ha)
    have cv1:=Ct.cv (Dx q3 false 2 (fun _=>rfl) (Fy h60) true 1 true hb)
    have cv2:=Ct.cv (Gx q3 false 2 (fun _=>rfl) (Fy h60) 5 false hc)
    have zL:=fun S2=>xhN3 ⟨(j+1,q3++[(wb,x)]),glt,g4,Ey g5,fun _=>Jk _ _⟩ S2 (by exact yB glt (yE j))
    exact goW
   ·have hok:okE q3 wb x=false:=by rw [hx0];simp [okE,ha,hlk]
    rw [hok,if_neg (by decide)] at g4
    rw [←g4] at h4
    have F0:=yA hx0<|F0
    have cv0:=Ct.cv (Dx q3 false 2 (fun _=>rfl) (Fy h60) false 2 false ha)
    have zE:=(Cx (lt:=lt) hlen hz hq0 hq1).trans (show (3:Int)=_ from h4).symm
    exact goW
   ·have hok:okE q3 wb x=false:=by rw [hx0];simp [okE,ha,hb,hlk]
    rw [hok,if_neg (by decide)] at g4
    rw [←g4] at h4
    have F0:=yA hx0<|F0
    have cv0:=Ct.cv (Dx q3 false 2 (fun _=>rfl) (Fy h60) false 2 true ha)
    have cv1:=Ct.cv (Dx q3 false 2 (fun _=>rfl) (Fy h60) true 2 false hb)
    have zE:=(Cx (lt:=lt) hlen hz hq0 hq1).trans (show (3:Int)=_ from h4).symm
    exact goW
   ·have hok:okE q3 wb x=false:=by rw [hx0];simp [okE,ha,hb,hc,hlk]
    rw [hok,if_neg (by decide)] at g4
    rw [←g4] at h4
    have F0:=yA hx0<|F0
    have cv0:=Ct.cv (Dx q3 false 2 (fun _=>rfl) (Fy h60) false 2 true ha)
    have cv1:=Ct.cv (Dx q3 false 2 (fun _=>rfl) (Fy h60) true 2 true hb)
    have cv2:=Ct.cv (Gx q3 false 2 (fun _=>rfl) (Fy h60) 6 true hc)
    have zE:=(Cx (lt:=lt) hlen hz hq0 hq1).trans (show (3:Int)=_ from h4).symm
    exact goW
   ·have hok:okE q3 wb x=true:=by rw [hx0];simp [okE,ha,hb,hc,hlk]
    rw [hok,if_pos rfl] at g4
    have F0:=yA hx0<|F0
    have cv0:=Ct.cv (Dx q3 false 2 (fun _=>rfl) (Fy h60) false 2 true ha)
    have cv1:=Ct.cv (Dx q3 false 2 (fun _=>rfl) (Fy h60) true 2 true hb)
    have cv2:=Ct.cv (Gx q3 false 2 (fun _=>rfl) (Fy h60) 6 false hc)
    have zL:=fun S2=>xhN3 ⟨(j+1,q3++[(wb,x)]),glt,g4,Ey g5,fun _=>Jk _ _⟩ S2 (by exact yB glt (yE j))
    exact goW
   have hok:okE q3 wb x=true:=by rw [hx0];simp [okE,hlk]
   rw [hok,if_pos rfl] at g4
   have F0:=yA hx0<|F0
   have zL:=fun S2=>xhN3 ⟨(j+1,q3++[(wb,x)]),glt,g4,Ey g5,fun _=>Jk _ _⟩ S2 (by exact yB glt (yE j))
   exact goW
  rw [List.drop_eq_nil_of_le (Nat.le_of_eq hln),h0s] at g4
  have gcq:=v0e (n:=l.length+1)
  have hne:q3≠[]:=g6 trivial
  rw [←g4] at h4
  have hv:=Tk (nm:=64) hne
  have hm:=Uz (nm:=64) hne
  have h60:q3.length≤60:=j2p g5 hq40 g1 hlr.2
  have hcap:=h0w h60
  have F0:=yA gcq<|yA hv<|yA hm<|yA hcap<|F0
  have zL:=fun S2=>xhN2 ⟨(i+1,q3),hlt,h4,v0k g5 h5 hlr.2,hne⟩ S2 (by exact yB hlt (yE i))
  exact goW
 rw [yG,c0j] at h4
 have hcq:=v0e (n:=ts.length)
 have F0:=yA hcq<|F0
 have zE:=(Cx (lt:=lt) hlen hz hq0 hq1).trans h4.symm
 exact goW
end Go.Sy
namespace Go.Sy
open Go.Proofs
attribute [local irreducible] Cj HT Bv Rj onC onE onO onG goV goA goS Tj Ck
theorem i1j (bs:List UInt8) (lt:Bool) (ps:List (List PL)) (p0 p1:List Int) (ts:List (List Int)) (h1:¬((ts.length:Nat):Int)=0) (h2:¬(5:Int)<((ts.length:Nat):Int)) (hz:scan (p0::p1::ts)=0) (hq: ∀ q0 q1,some q0=c0g [] false p0→some q1=c0g q0 true p1→q1=[]):
 Ct Try.prog 38 [.w (.agg (Ow bs lt ps p0 p1 ts))] (fun v m=>v=.w (.one (.pl (.i (a0p lt p0 p1 ts))))):=by
 have hlen:¬(ts.length<1∨5<ts.length):=by omega
 have hts:ts.length≤1000000:=by omega
 have ht5:ts.length≤5:=by omega
 have hbb:(2+ts.length)*24≤140737488355328:=by omega
 have hrng:=i0r hz
 have hp0:=(hrng p0 (by simp)).2
 have hp1:=(hrng p1 (by simp)).2
 have hfo:=v0v (p0::p1::ts) false (by simp only [yH];omega)
 have hch:=e0u (p0::p1::ts)
 have hsz:(p0::p1::ts).length=2+ts.length:=by simp only [yH];omega
 rw [hsz] at hch
 rw [hz] at hfo
 have F0:=yA Ow.eq_1<|yA Fz<|yA Fx<|yA h1<|yA h2<|yA hbb<|yA Ez<|yA s0b<|yA k0x<|yA a0g<|yA s0a<|yA hch<|yA hsz<|yA m0b<|yA w0d<|yA c1e<|yA k1e<|yA k1d<|yA (@w0a 64 1 (by decide))<|yA m0e<|yA w0c<|yA c1n<|yA h0o<|yA v0x<|v0z
 have cv0:=Ct.cv (hfo)
 have zF:NF:=⟨⟩
 refine Ct.go Try.func38 rfl Try.ntmps38 Try.results38 fun w0 ro zZ zhZ=>?_
 have cq:=yA cv0<|trivial
 have zU:=yA ur<|trivial
 refine (fun zX=>goW) ?_
 refine Nq [(1,.w (.one (.p 1 []))),(39,.w (.one (.pl (.i 0)))),(5,.w (.one (.pl (.i 0)))),(45,.w (.one (.pl (.R false 1 (Kq p0))))),(46,.w (.one (.pl (.i ((p0.length:Nat):Int)))))] [(1,⟨false,Ow bs lt ps p0 p1 ts⟩)] (fun y=>[(47,.w (.one (.pl (.i ((y.1.1:Nat):Int))))),(3,evV 64 y.1.2)]) (fun y=>evM 64 y.1.2) (fun y=>p0.length-y.1.1) (⟨(0,[]),yP _,rfl,yV _⟩:{y:Nat×List (Bool×Int)//y.1≤p0.length∧c0g y.2 false (p0.drop y.1)=c0g [] false p0∧y.2.length≤y.1}) ?_ (by (simp only [go_sem,leX,yC,yD,a0f,Fx,F0];try simp)) (by (simp only [go_sem,leX,yC,yD,d0c,F0];try simp))
 intro zz xN0 xM0 xhN0 xhM0
 simp only [yC,yD]
 obtain ⟨⟨j,q0⟩,g1,g4,g5⟩:=zz
 simp only at g1 g4 g5
 have hd:(j<p0.length∧2<p0.getD j 0)∨(j<p0.length∧¬2<p0.getD j 0∧hap q0 false (p0.getD j 0)=true∧q0≠[])∨(j<p0.length∧¬2<p0.getD j 0∧hap q0 false (p0.getD j 0)=false∧q0=[])∨(j<p0.length∧¬2<p0.getD j 0∧hap q0 false (p0.getD j 0)=false∧q0≠[])∨j=p0.length:=by
  rcases (by omega:(j<p0.length∧2<p0.getD j 0)∨(j<p0.length∧¬2<p0.getD j 0)∨j=p0.length) with h|⟨h,h2⟩|h
  ·exact .inl h
  ·by_cases hn:q0=[]
   ·subst hn;exact .inr (.inr (.inl ⟨h,h2,rfl,rfl⟩))
   cases hh:hap q0 false (p0.getD j 0)
   ·exact .inr (.inr (.inr (.inl ⟨h,h2,rfl,hn⟩)))
   exact .inr (.inl ⟨h,h2,rfl,hn⟩)
  exact .inr (.inr (.inr (.inr h)))
 rcases hd with ⟨glt,hbad⟩|⟨glt,hbad,hfl,hne⟩|⟨glt,hbad,hfl,rfl⟩|⟨glt,hbad,hfl,hne⟩|rfl
 ·have gcq:=q0o glt
  have gj:=yN j
  have gg:=Bj glt
  obtain ⟨x,hx⟩: ∃ x,p0.getD j 0=x:=⟨_,rfl⟩
  have hxr:=Dk (hrng p0 (by simp)).1 x (hx▸Cw glt)
  rw [Ak (z:=0) glt,c0g,hx] at g4
  rw [hx] at gg hbad
  rw [if_pos (.inl hbad)] at g4
  have F0:=yA gcq<|yA gj<|yA glt<|yA gg<|yA hbad<|F0
  have zE:=o0t (lt:=lt) hlen hz g4
  exact goW
 ·have gcq:=q0o glt
  have gj:=yN j
  have gg:=Bj glt
  obtain ⟨x,hx⟩: ∃ x,p0.getD j 0=x:=⟨_,rfl⟩
  have hxr:=Dk (hrng p0 (by simp)).1 x (hx▸Cw glt)
  rw [Ak (z:=0) glt,c0g,hx] at g4
  rw [hx] at gg hbad
  have hv:=Tk (nm:=64) hne
  have hm:=Uz (nm:=64) hne
  have h60:q0.length≤60:=o2v g5 glt hp0
  have hcap:=h0w h60
  rw [hx] at hfl
  rw [if_pos (.inr hfl)] at g4
  have F0:=yA gcq<|yA gj<|yA glt<|yA gg<|yA hv<|yA hm<|yA hcap<|yA hbad<|F0
  have cv0:=Ct.cv (Dx q0 false 2 (fun _=>rfl) (Fy h60) false x true hfl)
  have zE:=o0t (lt:=lt) hlen hz g4
  exact goW
 ·have gcq:=q0o glt
  have gj:=yN j
  have gg:=Bj glt
  obtain ⟨x,hx⟩: ∃ x,p0.getD j 0=x:=⟨_,rfl⟩
  have hxr:=Dk (hrng p0 (by simp)).1 x (hx▸Cw glt)
  rw [Ak (z:=0) glt,c0g,hx] at g4
  rw [hx] at gg hbad
  rw [hx] at hfl
  rw [if_neg (by simp [hbad,hfl])] at g4
  have gs1:=b0k glt (yJ hp0 (by decide))
  have F0:=yA gcq<|yA gj<|yA glt<|yA gg<|yA hbad<|yA gs1<|yA (a0f 64)<|yA (d0c 64)<|yA (r0h 64)<|yA (r0i 64)<|F0
  have cv0:=Ct.cv (Dx [] true 1 (fun h=>absurd rfl h) (by decide) false x false rfl)
  have zL:=fun S2=>xhN0 ⟨(j+1,[]++[(false,x)]),glt,g4,Ey g5⟩ S2 (by exact yB glt (yE j))
  exact goW
 ·have gcq:=q0o glt
  have gj:=yN j
  have gg:=Bj glt
  obtain ⟨x,hx⟩: ∃ x,p0.getD j 0=x:=⟨_,rfl⟩
  have hxr:=Dk (hrng p0 (by simp)).1 x (hx▸Cw glt)
  rw [Ak (z:=0) glt,c0g,hx] at g4
  rw [hx] at gg hbad
  have hv:=Tk (nm:=64) hne
  have hm:=Uz (nm:=64) hne
  have h60:q0.length≤60:=o2v g5 glt hp0
  have hcap:=h0w h60
  rw [hx] at hfl
  rw [if_neg (by simp [hbad,hfl])] at g4
  have gs1:=b0k glt (yJ hp0 (by decide))
  have F0:=yA gcq<|yA gj<|yA glt<|yA gg<|yA hv<|yA hm<|yA hcap<|yA hbad<|yA gs1<|F0
  have cv0:=Ct.cv (Dx q0 false 2 (fun _=>rfl) (Fy h60) false x false hfl)
  have zL:=fun S2=>xhN0 ⟨(j+1,q0++[(false,x)]),glt,g4,Ey g5⟩ S2 (by exact yB glt (yE j))
  exact goW
 rw [yG,c0g] at g4
 have gcq:=v0e (n:=p0.length)
 have hq0:=g4
 have hl0:q0.length≤6:=by omega
 have F0:=yA gcq<|F0
 have zU:=trivial
 refine (fun zX=>goW) ?_
 refine Nq [(1,.w (.one (.p 1 []))),(39,.w (.one (.pl (.i 1)))),(5,.w (.one (.pl (.i 1)))),(45,.w (.one (.pl (.R false 1 (Kq p1))))),(46,.w (.one (.pl (.i ((p1.length:Nat):Int)))))] [(1,⟨false,Ow bs lt ps p0 p1 ts⟩)] (fun y=>[(47,.w (.one (.pl (.i ((y.1.1:Nat):Int))))),(3,evV 64 y.1.2)]) (fun y=>evM 64 y.1.2) (fun y=>p1.length-y.1.1) (⟨(0,q0),yP _,rfl,hl0⟩:{y:Nat×List (Bool×Int)//y.1≤p1.length∧c0g y.2 true (p1.drop y.1)=c0g q0 true p1∧y.2.length≤6+y.1}) ?_ (by (simp only [go_sem,leX,yC,yD,a0f,Fx,F0];try simp)) (by (simp only [go_sem,Ow.eq_1];first|exact Yj _|(rw [←Ow.eq_1];exact Yj _)))
 intro zz xN1 xM1 xhN1 xhM1
 simp only [yC,yD]
 obtain ⟨⟨j,q1⟩,g1,g4,g5⟩:=zz
 simp only at g1 g4 g5
 have hd:(j<p1.length∧2<p1.getD j 0)∨(j<p1.length∧¬2<p1.getD j 0∧hap q1 true (p1.getD j 0)=true∧q1≠[])∨(j<p1.length∧¬2<p1.getD j 0∧hap q1 true (p1.getD j 0)=false∧q1=[])∨(j<p1.length∧¬2<p1.getD j 0∧hap q1 true (p1.getD j 0)=false∧q1≠[])∨j=p1.length:=by
  rcases (by omega:(j<p1.length∧2<p1.getD j 0)∨(j<p1.length∧¬2<p1.getD j 0)∨j=p1.length) with h|⟨h,h2⟩|h
  ·exact .inl h
  ·by_cases hn:q1=[]
   ·subst hn;exact .inr (.inr (.inl ⟨h,h2,rfl,rfl⟩))
   cases hh:hap q1 true (p1.getD j 0)
   ·exact .inr (.inr (.inr (.inl ⟨h,h2,rfl,hn⟩)))
   exact .inr (.inl ⟨h,h2,rfl,hn⟩)
  exact .inr (.inr (.inr (.inr h)))
 rcases hd with ⟨glt,hbad⟩|⟨glt,hbad,hfl,hne⟩|⟨glt,hbad,hfl,rfl⟩|⟨glt,hbad,hfl,hne⟩|rfl
 ·have gcq:=q0o glt
  have gj:=yN j
  have gg:=Bj glt
  obtain ⟨x,hx⟩: ∃ x,p1.getD j 0=x:=⟨_,rfl⟩
  have hxr:=Dk (hrng p1 (by simp)).1 x (hx▸Cw glt)
  rw [Ak (z:=0) glt,c0g,hx] at g4
  rw [hx] at gg hbad
  rw [if_pos (.inl hbad)] at g4
  have F0:=yA gcq<|yA gj<|yA glt<|yA gg<|yA hbad<|F0
  have zE:=o0s (lt:=lt) hlen hz hq0 g4
  exact goW
 ·have gcq:=q0o glt
  have gj:=yN j
  have gg:=Bj glt
  obtain ⟨x,hx⟩: ∃ x,p1.getD j 0=x:=⟨_,rfl⟩
  have hxr:=Dk (hrng p1 (by simp)).1 x (hx▸Cw glt)
  rw [Ak (z:=0) glt,c0g,hx] at g4
  rw [hx] at gg hbad
  have hv:=Tk (nm:=64) hne
  have hm:=Uz (nm:=64) hne
  have h60:q1.length≤60:=o2u g5 glt hp1
  have hcap:=h0w h60
  rw [hx] at hfl
  rw [if_pos (.inr hfl)] at g4
  have F0:=yA gcq<|yA gj<|yA glt<|yA gg<|yA hv<|yA hm<|yA hcap<|yA hbad<|F0
  have cv0:=Ct.cv (Dx q1 false 2 (fun _=>rfl) (Fy h60) true x true hfl)
  have zE:=o0s (lt:=lt) hlen hz hq0 g4
  exact goW
 ·have gcq:=q0o glt
  have gj:=yN j
  have gg:=Bj glt
  obtain ⟨x,hx⟩: ∃ x,p1.getD j 0=x:=⟨_,rfl⟩
  have hxr:=Dk (hrng p1 (by simp)).1 x (hx▸Cw glt)
  rw [Ak (z:=0) glt,c0g,hx] at g4
  rw [hx] at gg hbad
  rw [hx] at hfl
  rw [if_neg (by simp [hbad,hfl])] at g4
  have gs1:=b0k glt (yJ hp1 (by decide))
  have F0:=yA gcq<|yA gj<|yA glt<|yA gg<|yA hbad<|yA gs1<|yA (a0f 64)<|yA (d0c 64)<|yA (r0h 64)<|yA (r0i 64)<|F0
  have cv0:=Ct.cv (Dx [] true 1 (fun h=>absurd rfl h) (by decide) true x false rfl)
  have zL:=fun S2=>xhN1 ⟨(j+1,[]++[(true,x)]),glt,g4,Ey g5⟩ S2 (by exact yB glt (yE j))
  exact goW
 ·have gcq:=q0o glt
  have gj:=yN j
  have gg:=Bj glt
  obtain ⟨x,hx⟩: ∃ x,p1.getD j 0=x:=⟨_,rfl⟩
  have hxr:=Dk (hrng p1 (by simp)).1 x (hx▸Cw glt)
  rw [Ak (z:=0) glt,c0g,hx] at g4
  rw [hx] at gg hbad
  have hv:=Tk (nm:=64) hne
  have hm:=Uz (nm:=64) hne
  have h60:q1.length≤60:=o2u g5 glt hp1
  have hcap:=h0w h60
  rw [hx] at hfl
  rw [if_neg (by simp [hbad,hfl])] at g4
  have gs1:=b0k glt (yJ hp1 (by decide))
  have F0:=yA gcq<|yA gj<|yA glt<|yA gg<|yA hv<|yA hm<|yA hcap<|yA hbad<|yA gs1<|F0
  have cv0:=Ct.cv (Dx q1 false 2 (fun _=>rfl) (Fy h60) true x false hfl)
  have zL:=fun S2=>xhN1 ⟨(j+1,q1++[(true,x)]),glt,g4,Ey g5⟩ S2 (by exact yB glt (yE j))
  exact goW
 rw [yG,c0g] at g4
 have gcq:=v0e (n:=p1.length)
 have hq1:=g4
 have hl1:q1.length≤12:=by omega
 have F0:=yA gcq<|F0
 have zU:=trivial
 have zG:ZG 18:=⟨⟩
 refine (fun zX=>goW) ?_
 refine ⟨?_⟩;clear zG
 have hne1:=hq q0 q1 hq0 hq1
 subst hne1
 have F0:=yA (a0f 64)<|yA (d0c 64)<|F0
 have zU:=trivial
 refine (fun zX=>goW) ?_
 refine Nq [(1,.w (.one (.p 1 []))),(68,.w (.one (.pl (.R false 1 (a0u ts))))),(69,.w (.one (.pl (.i ((ts.length:Nat):Int)))))] [(1,⟨false,Ow bs lt ps p0 p1 ts⟩)] (fun y=>[(70,.w (.one (.pl (.i ((y.1.1:Nat):Int))))),(3,evV 204 y.1.2)]) (fun y=>evM 204 y.1.2) (fun y=>ts.length-y.1.1) (⟨(0,([]:List (Bool×Int))),yP _,rfl,yP _⟩:{y:Nat×List (Bool×Int)//y.1≤ts.length∧c0j lt y.2 y.1 (ts.drop y.1)=c0j lt ([]:List (Bool×Int)) 0 ts∧y.2.length≤12+7*y.1}) ?_ (by (simp only [go_sem,leX,yC,yD,a0f,Fz,F0];try simp)) (by (simp only [go_sem,leX,yC,yD,d0c,F0];try simp))
 intro yy xN2 xM2 xhN2 xhM2
 simp only [yC,yD]
 obtain ⟨⟨i,q2⟩,h1,h4,h5⟩:=yy
 simp only at h1 h4 h5
 have hd:(i<ts.length∧q2=[])∨(i<ts.length∧q2≠[])∨i=ts.length:=by
  by_cases hn:q2=[]<;>simp [hn]<;>omega
 rcases hd with ⟨hlt,rfl⟩|⟨hlt,hn2⟩|rfl
 ·have hcq:=q0o hlt
  have hi0:=yN i
  have hg:=Vq hlt
  obtain ⟨l,hl⟩: ∃ l,ts.getD i []=l:=⟨_,rfl⟩
  have hlm:l∈ts:=hl▸Cw hlt
  have hlr:=hrng l (by simp [hlm])
  obtain ⟨wb,hwb⟩: ∃ wb,d0f lt i=wb:=⟨_,rfl⟩
  rw [Ak (z:=[]) hlt,c0j,hl,hwb,←n0n] at h4
  rw [hl] at hg
  have hln:(l++[0]).length=l.length+1:=by simp
  have hcl:=j2o (n:=l.length) (yJ hlr.2 (by decide))
  have hcl2:=j2o (n:=l.length+1) (yJ (xH hlr.2) (by decide))
  have hs1:=b0k hlt hts
  have hq40:=q2i h5 hlt ht5
  have F0:=yA hcq<|yA hi0<|yA hlt<|yA hg<|yA hs1<|yA q0x<|yA p1c<|yA g1e<|yA c1d<|yA hcl<|yA hcl2<|yA (a0f 204)<|yA (d0c 204)<|F0
  have zU:=trivial
  have zG:ZG 22:=⟨⟩
  refine (fun zX=>goW) ?_
  refine ⟨?_⟩;clear zG
  refine g0d (fun w=>[(10,.w (.one (.pl (.i (Hz w)))))]) (fun _=>[]) (fun w=>d0f lt i=w) (fun xNj xMj xhNj xhMj=>?_) (fun wc hwc=>?_)
  ·rcases lt with _|_
   ·have hw1:=a1s i
    have F0:=yA hw1<|F0
    have zL:=fun S2=>xhNj (d0f false i) rfl S2
    exact goW
   have hw1:=k1c i
   have F0:=yA hw1<|F0
   have zL:=fun S2=>xhNj (d0f true i) rfl S2
   exact goW
  rw [hwb] at hwc
  subst hwc
  have zU:=trivial
  refine (fun zX=>goW) ?_
  refine Nq [(70,.w (.one (.pl (.i ((i:Nat):Int))))),(10,.w (.one (.pl (.i (Hz wb))))),(86,.w (.one (.s 82 [] (l.length+1) 1))),(87,.w (.one (.pl (.i ((l.length+1:Nat):Int))))),(1,.w (.one (.p 1 []))),(68,.w (.one (.pl (.R false 1 (a0u ts))))),(69,.w (.one (.pl (.i ((ts.length:Nat):Int)))))] [(82,⟨true,iC (l++[0])⟩),(1,⟨false,Ow bs lt ps p0 p1 ts⟩)] (fun y=>[(88,.w (.one (.pl (.i ((y.1.1:Nat):Int))))),(3,evV 204 y.1.2)]) (fun y=>evM 204 y.1.2) (fun y=>l.length+1-y.1.1) (⟨(0,([]:List (Bool×Int))),yP _,rfl,yV _,fun h=>absurd h (Nat.lt_irrefl 0)⟩:{y:Nat×List (Bool×Int)//y.1≤l.length+1∧h0s y.2 wb ((l++[0]).drop y.1)=h0s ([]:List (Bool×Int)) wb (l++[0])∧y.2.length≤([]:List (Bool×Int)).length+y.1∧(0<y.1→y.2≠[])}) ?_
  intro zz xN3 xM3 xhN3 xhM3
  simp only [yC,yD]
  obtain ⟨⟨j,q3⟩,g1,g4,g5,g6⟩:=zz
  simp only at g1 g4 g5 g6
  have hd:(j<l.length+1∧q3=[])∨(j<l.length+1∧q3≠[])∨j=l.length+1:=by
   by_cases hn:q3=[]<;>simp [hn]<;>omega
  rcases hd with ⟨glt,rfl⟩|⟨glt,hne⟩|rfl
  ·have gcq:=q0o glt
   have gj:=yN j
   have glt2:j<(l++[0]).length:=hln▸glt
   have glt3:j<l.length+1:=glt
   have hjl:j≤l.length:=Nat.le_of_lt_succ glt
   have gg:=g1f glt2
   obtain ⟨x,hx⟩: ∃ x,(l++[0]).getD j 0=x:=⟨_,rfl⟩
   have hxr:0≤x∧x≤7:=by
    have hm:=hx▸Cw (z:=(0:Int)) glt2
    rcases yU.mp hm with h|h
    ·have:=Dk hlr.1 x h;omega
    rw [xW.mp h];decide
   rw [Ak (z:=0) glt2,h0s,hx] at g4
   rw [hx] at gg
   have gs1:=b0k glt (yJ (xH hlr.2) (by decide))
   have F0:=yA gcq<|yA gj<|yA glt3<|yA hjl<|yA gg<|yA gs1<|yA (a0f 204)<|yA (d0c 204)<|yA (r0h 204)<|yA (r0i 204)<|F0
   have zU:=trivial
   have zS:ZS 27:=⟨⟩
   refine (fun zX=>goW) ?_
   refine ⟨?_⟩;clear zS
   refine g0d (fun w=>[(13,.w (.one (.pl (.b w))))]) (fun _=>[]) (fun w=>Pv []=w) (fun xNj xMj xhNj xhMj=>?_) (fun lk hlk=>?_)
   ·skip
    skip
    have cv0:=Ct.cv (Gx [] true 1 (fun h=>absurd rfl h) (by decide) 3 false rfl)
    have cv1:=Ct.cv (Gx [] true 1 (fun h=>absurd rfl h) (by decide) 4 false rfl)
    have cv2:=Ct.cv (Gx [] true 1 (fun h=>absurd rfl h) (by decide) 5 false rfl)
    have cv3:=Ct.cv (Gx [] true 1 (fun h=>absurd rfl h) (by decide) 6 false rfl)
    have cv4:=Ct.cv (Gx [] true 1 (fun h=>absurd rfl h) (by decide) 7 false rfl)
    have zL:=fun S2=>xhNj false rfl S2
    exact goW
   have hk:lk=false:=hlk.symm
   have F0:=yA hk<|F0
   rcases (by omega:x=0∨x=1∨x=2∨x=3∨x=4∨x=5∨x=6∨x=7) with hx0|hx0|hx0|hx0|hx0|hx0|hx0|hx0
   ·have hok:okE [] wb x=true:=by rw [hx0];rfl
    rw [hok,if_pos rfl] at g4
    have F0:=yA hx0<|F0
    have zL:=fun S2=>xhN3 ⟨(j+1,[]++[(wb,x)]),glt,g4,Ey g5,fun _=>Jk _ _⟩ S2 (by exact yB glt (yE j))
    exact goW
   ·have hok:okE [] wb x=true:=by rw [hx0];rfl
    rw [hok,if_pos rfl] at g4
    have F0:=yA hx0<|F0
    have cv0:=Ct.cv (Dx [] true 1 (fun h=>absurd rfl h) (by decide) wb 1 false rfl)
    have zL:=fun S2=>xhN3 ⟨(j+1,[]++[(wb,x)]),glt,g4,Ey g5,fun _=>Jk _ _⟩ S2 (by exact yB glt (yE j))
    exact goW
   ·have hok:okE [] wb x=true:=by rw [hx0];rfl
    rw [hok,if_pos rfl] at g4
    have F0:=yA hx0<|F0
    have cv0:=Ct.cv (Dx [] true 1 (fun h=>absurd rfl h) (by decide) wb 2 false rfl)
    have zL:=fun S2=>xhN3 ⟨(j+1,[]++[(wb,x)]),glt,g4,Ey g5,fun _=>Jk _ _⟩ S2 (by exact yB glt (yE j))
    exact goW
   ·have hok:okE [] wb x=false:=by rw [hx0];rfl
    rw [hok,if_neg (by decide)] at g4
    rw [←g4] at h4
    have F0:=yA hx0<|F0
    have cv0:=Ct.cv (Dx [] true 1 (fun h=>absurd rfl h) (by decide) false 1 false rfl)
    have zE:=(Cx (lt:=lt) hlen hz hq0 hq1).trans (show (3:Int)=_ from h4).symm
    exact goW
   ·have hok:okE [] wb x=false:=by rw [hx0];rfl
    rw [hok,if_neg (by decide)] at g4
    rw [←g4] at h4
    have F0:=yA hx0<|F0
    have cv0:=Ct.cv (Dx [] true 1 (fun h=>absurd rfl h) (by decide) false 1 false rfl)
    have zE:=(Cx (lt:=lt) hlen hz hq0 hq1).trans (show (3:Int)=_ from h4).symm
    exact goW
   ·have hok:okE [] wb x=false:=by rw [hx0];rfl
    rw [hok,if_neg (by decide)] at g4
    rw [←g4] at h4
    have F0:=yA hx0<|F0
    have cv0:=Ct.cv (Dx [] true 1 (fun h=>absurd rfl h) (by decide) false 2 false rfl)
    have zE:=(Cx (lt:=lt) hlen hz hq0 hq1).trans (show (3:Int)=_ from h4).symm
    exact goW
   ·have hok:okE [] wb x=false:=by rw [hx0];rfl
    rw [hok,if_neg (by decide)] at g4
    rw [←g4] at h4
    have F0:=yA hx0<|F0
    have cv0:=Ct.cv (Dx [] true 1 (fun h=>absurd rfl h) (by decide) false 2 false rfl)
    have zE:=(Cx (lt:=lt) hlen hz hq0 hq1).trans (show (3:Int)=_ from h4).symm
    exact goW
   have hok:okE [] wb x=true:=by rw [hx0];rfl
   rw [hok,if_pos rfl] at g4
   have F0:=yA hx0<|F0
   have zL:=fun S2=>xhN3 ⟨(j+1,[]++[(wb,x)]),glt,g4,Ey g5,fun _=>Jk _ _⟩ S2 (by exact yB glt (yE j))
   exact goW
  ·have gcq:=q0o glt
   have gj:=yN j
   have glt2:j<(l++[0]).length:=hln▸glt
   have glt3:j<l.length+1:=glt
   have hjl:j≤l.length:=Nat.le_of_lt_succ glt
   have gg:=g1f glt2
   obtain ⟨x,hx⟩: ∃ x,(l++[0]).getD j 0=x:=⟨_,rfl⟩
   have hxr:0≤x∧x≤7:=by
    have hm:=hx▸Cw (z:=(0:Int)) glt2
    rcases yU.mp hm with h|h
    ·have:=Dk hlr.1 x h;omega
    rw [xW.mp h];decide
   rw [Ak (z:=0) glt2,h0s,hx] at g4
   rw [hx] at gg
   have gs1:=b0k glt (yJ (xH hlr.2) (by decide))
   have hv:=Tk (nm:=204) hne
   have hm:=Uz (nm:=204) hne
   have h60:q3.length≤60:=j2p g5 hq40 g1 hlr.2
   have hcap:=h0w h60
   have F0:=yA gcq<|yA gj<|yA glt3<|yA hjl<|yA gg<|yA gs1<|yA hv<|yA hm<|yA hcap<|F0
   have zU:=trivial
   have zS:ZS 27:=⟨⟩
   refine (fun zX=>goW) ?_
   refine ⟨?_⟩;clear zS
   refine g0d (fun w=>[(13,.w (.one (.pl (.b w))))]) (fun _=>[]) (fun w=>Pv q3=w) (fun xNj xMj xhNj xhMj=>?_) (fun lk hlk=>?_)
   ·have hd:any q3 3=true∨(any q3 3=false∧any q3 4=true)∨(any q3 3=false∧any q3 4=false∧any q3 5=true)∨(any q3 3=false∧any q3 4=false∧any q3 5=false∧any q3 6=true)∨(any q3 3=false∧any q3 4=false∧any q3 5=false∧any q3 6=false∧any q3 7=true)∨(any q3 3=false∧any q3 4=false∧any q3 5=false∧any q3 6=false∧any q3 7=false):=by cases any q3 3<;>cases any q3 4<;>cases any q3 5<;>cases any q3 6<;>cases any q3 7<;>simp
    rcases hd with h3|⟨h3,h4'⟩|⟨h3,h4',h5⟩|⟨h3,h4',h5,h6⟩|⟨h3,h4',h5,h6,h7⟩|⟨h3,h4',h5,h6,h7⟩
    ·skip
     have cv0:=Ct.cv (Gx q3 false 2 (fun _=>rfl) (Fy h60) 3 true h3)
     have zL:=fun S2=>xhNj true (by rw [Pv,h3];simp) S2
     exact goW
    ·skip
     have cv0:=Ct.cv (Gx q3 false 2 (fun _=>rfl) (Fy h60) 3 false h3)
     have cv1:=Ct.cv (Gx q3 false 2 (fun _=>rfl) (Fy h60) 4 true h4')
     have zL:=fun S2=>xhNj true (by rw [Pv,h3,h4'];simp) S2
     exact goW
    ·skip
     have cv0:=Ct.cv (Gx q3 false 2 (fun _=>rfl) (Fy h60) 3 false h3)
     have cv1:=Ct.cv (Gx q3 false 2 (fun _=>rfl) (Fy h60) 4 false h4')
     have cv2:=Ct.cv (Gx q3 false 2 (fun _=>rfl) (Fy h60) 5 true h5)
     have zL:=fun S2=>xhNj true (by rw [Pv,h3,h4',h5];simp) S2
     exact goW
    ·skip
     have cv0:=Ct.cv (Gx q3 false 2 (fun _=>rfl) (Fy h60) 3 false h3)
     have cv1:=Ct.cv (Gx q3 false 2 (fun _=>rfl) (Fy h60) 4 false h4')
     have cv2:=Ct.cv (Gx q3 false 2 (fun _=>rfl) (Fy h60) 5 false h5)
     have cv3:=Ct.cv (Gx q3 false 2 (fun _=>rfl) (Fy h60) 6 true h6)
     have zL:=fun S2=>xhNj true (by rw [Pv,h3,h4',h5,h6];simp) S2
     exact goW
    ·skip
     have cv0:=Ct.cv (Gx q3 false 2 (fun _=>rfl) (Fy h60) 3 false h3)
     have cv1:=Ct.cv (Gx q3 false 2 (fun _=>rfl) (Fy h60) 4 false h4')
     have cv2:=Ct.cv (Gx q3 false 2 (fun _=>rfl) (Fy h60) 5 false h5)
     have cv3:=Ct.cv (Gx q3 false 2 (fun _=>rfl) (Fy h60) 6 false h6)
     have cv4:=Ct.cv (Gx q3 false 2 (fun _=>rfl) (Fy h60) 7 true h7)
     have zL:=fun S2=>xhNj true (by rw [Pv,h3,h4',h5,h6,h7];simp) S2
     exact goW
    skip
    have cv0:=Ct.cv (Gx q3 false 2 (fun _=>rfl) (Fy h60) 3 false h3)
    have cv1:=Ct.cv (Gx q3 false 2 (fun _=>rfl) (Fy h60) 4 false h4')
    have cv2:=Ct.cv (Gx q3 false 2 (fun _=>rfl) (Fy h60) 5 false h5)
    have cv3:=Ct.cv (Gx q3 false 2 (fun _=>rfl) (Fy h60) 6 false h6)
    have cv4:=Ct.cv (Gx q3 false 2 (fun _=>rfl) (Fy h60) 7 false h7)
    have zL:=fun S2=>xhNj false (by rw [Pv,h3,h4',h5,h6,h7];simp) S2
    exact goW
   skip
   rcases (p0j lk (Aj q3 wb) (hap q3 wb 1) (hap q3 wb 2) (hap q3 false 1) (hap q3 true 1) (hap q3 false 2) (hap q3 true 2) (any q3 3) (any q3 4) (any q3 5) (any q3 6) hxr:(x=0∧lk=false)∨(x=0∧lk=true∧Aj q3 wb=true)∨(x=0∧lk=true∧Aj q3 wb=false)∨(x=1∧hap q3 wb 1=false)∨(x=1∧hap q3 wb 1=true)∨(x=2∧hap q3 wb 2=true)∨(x=2∧hap q3 wb 2=false∧lk=false)∨(x=2∧hap q3 wb 2=false∧lk=true∧Aj q3 wb=true)∨(x=2∧hap q3 wb 2=false∧lk=true∧Aj q3 wb=false)∨(x=3∧hap q3 false 1=false)∨(x=3∧hap q3 false 1=true∧hap q3 true 1=false)∨(x=3∧hap q3 false 1=true∧hap q3 true 1=true∧any q3 3=true)∨(x=3∧hap q3 false 1=true∧hap q3 true 1=true∧any q3 3=false)∨(x=4∧hap q3 false 1=false)∨(x=4∧hap q3 false 1=true∧hap q3 true 2=false)∨(x=4∧hap q3 false 1=true∧hap q3 true 2=true∧any q3 4=true)∨(x=4∧hap q3 false 1=true∧hap q3 true 2=true∧any q3 4=false)∨(x=5∧hap q3 false 2=false)∨(x=5∧hap q3 false 2=true∧hap q3 true 1=false)∨(x=5∧hap q3 false 2=true∧hap q3 true 1=true∧any q3 5=true)∨(x=5∧hap q3 false 2=true∧hap q3 true 1=true∧any q3 5=false)∨(x=6∧hap q3 false 2=false)∨(x=6∧hap q3 false 2=true∧hap q3 true 2=false)∨(x=6∧hap q3 false 2=true∧hap q3 true 2=true∧any q3 6=true)∨(x=6∧hap q3 false 2=true∧hap q3 true 2=true∧any q3 6=false)∨x=7) with ⟨hx0,hk⟩|⟨hx0,hk,hm_⟩|⟨hx0,hk,hm_⟩|⟨hx0,ha⟩|⟨hx0,ha⟩|⟨hx0,ha⟩|⟨hx0,ha,hk⟩|⟨hx0,ha,hk,hm_⟩|⟨hx0,ha,hk,hm_⟩|⟨hx0,ha⟩|⟨hx0,ha,hb⟩|⟨hx0,ha,hb,hc⟩|⟨hx0,ha,hb,hc⟩|⟨hx0,ha⟩|⟨hx0,ha,hb⟩|⟨hx0,ha,hb,hc⟩|⟨hx0,ha,hb,hc⟩|⟨hx0,ha⟩|⟨hx0,ha,hb⟩|⟨hx0,ha,hb,hc⟩|⟨hx0,ha,hb,hc⟩|⟨hx0,ha⟩|⟨hx0,ha,hb⟩|⟨hx0,ha,hb,hc⟩|⟨hx0,ha,hb,hc⟩|hx0
   ·have hok:okE q3 wb x=true:=by rw [hx0];simp [okE,hk,hlk]
    rw [hok,if_pos rfl] at g4
    have F0:=yA hx0<|yA hk<|F0
    have zL:=fun S2=>xhN3 ⟨(j+1,q3++[(wb,x)]),glt,g4,Ey g5,fun _=>Jk _ _⟩ S2 (by exact yB glt (yE j))
    exact goW
   ·have hok:okE q3 wb x=true:=by rw [hx0];simp [okE,hk,hm_,hlk]
    rw [hok,if_pos rfl] at g4
    have F0:=yA hx0<|yA hk<|F0
    have cv0:=Ct.cv (n0g q3 false 2 (fun _=>rfl) (Fy h60) wb true hm_)
    have zL:=fun S2=>xhN3 ⟨(j+1,q3++[(wb,x)]),glt,g4,Ey g5,fun _=>Jk _ _⟩ S2 (by exact yB glt (yE j))
    exact goW
   ·have hok:okE q3 wb x=false:=by rw [hx0];simp [okE,hk,hm_,hlk]
    rw [hok,if_neg (by decide)] at g4
    rw [←g4] at h4
    have F0:=yA hx0<|yA hk<|F0
    have cv0:=Ct.cv (n0g q3 false 2 (fun _=>rfl) (Fy h60) wb false hm_)
    have zE:=(Cx (lt:=lt) hlen hz hq0 hq1).trans (show (3:Int)=_ from h4).symm
    exact goW
   ·have hok:okE q3 wb x=true:=by rw [hx0];simp [okE,ha,hlk]
    rw [hok,if_pos rfl] at g4
    have F0:=yA hx0<|F0
    have cv0:=Ct.cv (Dx q3 false 2 (fun _=>rfl) (Fy h60) wb 1 false ha)
    have zL:=fun S2=>xhN3 ⟨(j+1,q3++[(wb,x)]),glt,g4,Ey g5,fun _=>Jk _ _⟩ S2 (by exact yB glt (yE j))
    exact goW
   ·have hok:okE q3 wb x=false:=by rw [hx0];simp [okE,ha,hlk]
    rw [hok,if_neg (by decide)] at g4
    rw [←g4] at h4
    have F0:=yA hx0<|F0
    have cv0:=Ct.cv (Dx q3 false 2 (fun _=>rfl) (Fy h60) wb 1 true ha)
    have zE:=(Cx (lt:=lt) hlen hz hq0 hq1).trans (show (3:Int)=_ from h4).symm
    exact goW
   ·have hok:okE q3 wb x=false:=by rw [hx0];simp [okE,ha,hlk]
    rw [hok,if_neg (by decide)] at g4
    rw [←g4] at h4
    have F0:=yA hx0<|F0
    have cv0:=Ct.cv (Dx q3 false 2 (fun _=>rfl) (Fy h60) wb 2 true ha)
    have zE:=(Cx (lt:=lt) hlen hz hq0 hq1).trans (show (3:Int)=_ from h4).symm
    exact goW
   ·have hok:okE q3 wb x=true:=by rw [hx0];simp [okE,ha,hk,hlk]
    rw [hok,if_pos rfl] at g4
    have F0:=yA hx0<|yA hk<|F0
    have cv0:=Ct.cv (Dx q3 false 2 (fun _=>rfl) (Fy h60) wb 2 false ha)
    have zL:=fun S2=>xhN3 ⟨(j+1,q3++[(wb,x)]),glt,g4,Ey g5,fun _=>Jk _ _⟩ S2 (by exact yB glt (yE j))
    exact goW
   ·have hok:okE q3 wb x=true:=by rw [hx0];simp [okE,ha,hk,hm_,hlk]
    rw [hok,if_pos rfl] at g4
    have F0:=yA hx0<|yA hk<|F0
    have cv0:=Ct.cv (Dx q3 false 2 (fun _=>rfl) (Fy h60) wb 2 false ha)
    have cv1:=Ct.cv (n0g q3 false 2 (fun _=>rfl) (Fy h60) wb true hm_)
    have zL:=fun S2=>xhN3 ⟨(j+1,q3++[(wb,x)]),glt,g4,Ey g5,fun _=>Jk _ _⟩ S2 (by exact yB glt (yE j))
    exact goW
   ·have hok:okE q3 wb x=false:=by rw [hx0];simp [okE,ha,hk,hm_,hlk]
    rw [hok,if_neg (by decide)] at g4
    rw [←g4] at h4
    have F0:=yA hx0<|yA hk<|F0
    have cv0:=Ct.cv (Dx q3 false 2 (fun _=>rfl) (Fy h60) wb 2 false ha)
    have cv1:=Ct.cv (n0g q3 false 2 (fun _=>rfl) (Fy h60) wb false hm_)
    have zE:=(Cx (lt:=lt) hlen hz hq0 hq1).trans (show (3:Int)=_ from h4).symm
    exact goW
   ·have hok:okE q3 wb x=false:=by rw [hx0];simp [okE,ha,hlk]
    rw [hok,if_neg (by decide)] at g4
    rw [←g4] at h4
    have F0:=yA hx0<|F0
    have cv0:=Ct.cv (Dx q3 false 2 (fun _=>rfl) (Fy h60) false 1 false ha)
    have zE:=(Cx (lt:=lt) hlen hz hq0 hq1).trans (show (3:Int)=_ from h4).symm
    exact goW
   ·have hok:okE q3 wb x=false:=by rw [hx0];simp [okE,ha,hb,hlk]
    rw [hok,if_neg (by decide)] at g4
    rw [←g4] at h4
    have F0:=yA hx0<|F0
    have cv0:=Ct.cv (Dx q3 false 2 (fun _=>rfl) (Fy h60) false 1 true ha)
    have cv1:=Ct.cv (Dx q3 false 2 (fun _=>rfl) (Fy h60) true 1 false hb)
    have zE:=(Cx (lt:=lt) hlen hz hq0 hq1).trans (show (3:Int)=_ from h4).symm
    exact goW
   ·have hok:okE q3 wb x=false:=by rw [hx0];simp [okE,ha,hb,hc,hlk]
    rw [hok,if_neg (by decide)] at g4
    rw [←g4] at h4
    have F0:=yA hx0<|F0
    have cv0:=Ct.cv (Dx q3 false 2 (fun _=>rfl) (Fy h60) false 1 true ha)
    have cv1:=Ct.cv (Dx q3 false 2 (fun _=>rfl) (Fy h60) true 1 true hb)
    have cv2:=Ct.cv (Gx q3 false 2 (fun _=>rfl) (Fy h60) 3 true hc)
    have zE:=(Cx (lt:=lt) hlen hz hq0 hq1).trans (show (3:Int)=_ from h4).symm
    exact goW
   ·have hok:okE q3 wb x=true:=by rw [hx0];simp [okE,ha,hb,hc,hlk]
    rw [hok,if_pos rfl] at g4
    have F0:=yA hx0<|F0
    have cv0:=Ct.cv (Dx q3 false 2 (fun _=>rfl) (Fy h60) false 1 true ha)
    have cv1:=Ct.cv (Dx q3 false 2 (fun _=>rfl) (Fy h60) true 1 true hb)
    have cv2:=Ct.cv (Gx q3 false 2 (fun _=>rfl) (Fy h60) 3 false hc)
    have zL:=fun S2=>xhN3 ⟨(j+1,q3++[(wb,x)]),glt,g4,Ey g5,fun _=>Jk _ _⟩ S2 (by exact yB glt (yE j))
    exact goW
   ·have hok:okE q3 wb x=false:=by rw [hx0];simp [okE,ha,hlk]
    rw [hok,if_neg (by decide)] at g4
    rw [←g4] at h4
    have F0:=yA hx0<|F0
    have cv0:=Ct.cv (Dx q3 false 2 (fun _=>rfl) (Fy h60) false 1 false ha)
    have zE:=(Cx (lt:=lt) hlen hz hq0 hq1).trans (show (3:Int)=_ from h4).symm
    exact goW
   ·have hok:okE q3 wb x=false:=by rw [hx0];simp [okE,ha,hb,hlk]
    rw [hok,if_neg (by decide)] at g4
    rw [←g4] at h4
    have F0:=yA hx0<|F0
    have cv0:=Ct.cv (Dx q3 false 2 (fun _=>rfl) (Fy h60) false 1 true ha)
    have cv1:=Ct.cv (Dx q3 false 2 (fun _=>rfl) (Fy h60) true 2 false hb)
    have zE:=(Cx (lt:=lt) hlen hz hq0 hq1).trans (show (3:Int)=_ from h4).symm
    exact goW
   ·have hok:okE q3 wb x=false:=by rw [hx0];simp [okE,ha,hb,hc,hlk]
    rw [hok,if_neg (by decide)] at g4
    rw [←g4] at h4
    have F0:=yA hx0<|F0
    have cv0:=Ct.cv (Dx q3 false 2 (fun _=>rfl) (Fy h60) false 1 true ha)
    have cv1:=Ct.cv (Dx q3 false 2 (fun _=>rfl) (Fy h60) true 2 true hb)
    have cv2:=Ct.cv (Gx q3 false 2 (fun _=>rfl) (Fy h60) 4 true hc)
    have zE:=(Cx (lt:=lt) hlen hz hq0 hq1).trans (show (3:Int)=_ from h4).symm
    exact goW
   ·have hok:okE q3 wb x=true:=by rw [hx0];simp [okE,ha,hb,hc,hlk]
    rw [hok,if_pos rfl] at g4
    have F0:=yA hx0<|F0
    have cv0:=Ct.cv (Dx q3 false 2 (fun _=>rfl) (Fy h60) false 1 true ha)
    have cv1:=Ct.cv (Dx q3 false 2 (fun _=>rfl) (Fy h60) true 2 true hb)
    have cv2:=Ct.cv (Gx q3 false 2 (fun _=>rfl) (Fy h60) 4 false hc)
    have zL:=fun S2=>xhN3 ⟨(j+1,q3++[(wb,x)]),glt,g4,Ey g5,fun _=>Jk _ _⟩ S2 (by exact yB glt (yE j))
    exact goW
   ·have hok:okE q3 wb x=false:=by rw [hx0];simp [okE,ha,hlk]
    rw [hok,if_neg (by decide)] at g4
    rw [←g4] at h4
    have F0:=yA hx0<|F0
    have cv0:=Ct.cv (Dx q3 false 2 (fun _=>rfl) (Fy h60) false 2 false ha)
    have zE:=(Cx (lt:=lt) hlen hz hq0 hq1).trans (show (3:Int)=_ from h4).symm
    exact goW
   ·have hok:okE q3 wb x=false:=by rw [hx0];simp [okE,ha,hb,hlk]
    rw [hok,if_neg (by decide)] at g4
    rw [←g4] at h4
    have F0:=yA hx0<|F0
    have cv0:=Ct.cv (Dx q3 false 2 (fun _=>rfl) (Fy h60) false 2 true ha)
    have cv1:=Ct.cv (Dx q3 false 2 (fun _=>rfl) (Fy h60) true 1 false hb)
    have zE:=(Cx (lt:=lt) hlen hz hq0 hq1).trans (show (3:Int)=_ from h4).symm
    exact goW
   ·have hok:okE q3 wb x=false:=by rw [hx0];simp [okE,ha,hb,hc,hlk]
    rw [hok,if_neg (by decide)] at g4
    rw [←g4] at h4
    have F0:=yA hx0<|F0
    have cv0:=Ct.cv (Dx q3 false 2 (fun _=>rfl) (Fy h60) false 2 true ha)
    have cv1:=Ct.cv (Dx q3 false 2 (fun _=>rfl) (Fy h60) true 1 true hb)
    have cv2:=Ct.cv (Gx q3 false 2 (fun _=>rfl) (Fy h60) 5 true hc)
    have zE:=(Cx (lt:=lt) hlen hz hq0 hq1).trans (show (3:Int)=_ from h4).symm
    exact goW
   ·have hok:okE q3 wb x=true:=by rw [hx0];simp [okE,ha,hb,hc,hlk]
    rw [hok,if_pos rfl] at g4
    have F0:=yA hx0<|F0
    have cv0:=Ct.cv (Dx q3 false 2 (fun _=>rfl) (Fy h60) false 2 true ha)
    have cv1:=Ct.cv (Dx q3 false 2 (fun _=>rfl) (Fy h60) true 1 true hb)
    have cv2:=Ct.cv (Gx q3 false 2 (fun _=>rfl) (Fy h60) 5 false hc)
    have zL:=fun S2=>xhN3 ⟨(j+1,q3++[(wb,x)]),glt,g4,Ey g5,fun _=>Jk _ _⟩ S2 (by exact yB glt (yE j))
    exact goW
   ·have hok:okE q3 wb x=false:=by rw [hx0];simp [okE,ha,hlk]
    rw [hok,if_neg (by decide)] at g4
    rw [←g4] at h4
    have F0:=yA hx0<|F0
    have cv0:=Ct.cv (Dx q3 false 2 (fun _=>rfl) (Fy h60) false 2 false ha)
    have zE:=(Cx (lt:=lt) hlen hz hq0 hq1).trans (show (3:Int)=_ from h4).symm
    exact goW
   ·have hok:okE q3 wb x=false:=by rw [hx0];simp [okE,ha,hb,hlk]
    rw [hok,if_neg (by decide)] at g4
    rw [←g4] at h4
    have F0:=yA hx0<|F0
    have cv0:=Ct.cv (Dx q3 false 2 (fun _=>rfl) (Fy h60) false 2 true ha)
    have cv1:=Ct.cv (Dx q3 false 2 (fun _=>rfl) (Fy h60) true 2 false hb)
    have zE:=(Cx (lt:=lt) hlen hz hq0 hq1).trans (show (3:Int)=_ from h4).symm
    exact goW
   ·have hok:okE q3 wb x=false:=by rw [hx0];simp [okE,ha,hb,hc,hlk]
    rw [hok,if_neg (by decide)] at g4
    rw [←g4] at h4
    have F0:=yA hx0<|F0
    have cv0:=Ct.cv (Dx q3 false 2 (fun _=>rfl) (Fy h60) false 2 true ha)
    have cv1:=Ct.cv (Dx q3 false 2 (fun _=>rfl) (Fy h60) true 2 true hb)
    have cv2:=Ct.cv (Gx q3 false 2 (fun _=>rfl) (Fy h60) 6 true hc)
    have zE:=(Cx (lt:=lt) hlen hz hq0 hq1).trans (show (3:Int)=_ from h4).symm
    exact goW
   ·have hok:okE q3 wb x=true:=by rw [hx0];simp [okE,ha,hb,hc,hlk]
    rw [hok,if_pos rfl] at g4
    have F0:=yA hx0<|F0
    have cv0:=Ct.cv (Dx q3 false 2 (fun _=>rfl) (Fy h60) false 2 true ha)
    have cv1:=Ct.cv (Dx q3 false 2 (fun _=>rfl) (Fy h60) true 2 true hb)
    have cv2:=Ct.cv (Gx q3 false 2 (fun _=>rfl) (Fy h60) 6 false hc)
    have zL:=fun S2=>xhN3 ⟨(j+1,q3++[(wb,x)]),glt,g4,Ey g5,fun _=>Jk _ _⟩ S2 (by exact yB glt (yE j))
    exact goW
   have hok:okE q3 wb x=true:=by rw [hx0];simp [okE,hlk]
   rw [hok,if_pos rfl] at g4
   have F0:=yA hx0<|F0
   have zL:=fun S2=>xhN3 ⟨(j+1,q3++[(wb,x)]),glt,g4,Ey g5,fun _=>Jk _ _⟩ S2 (by exact yB glt (yE j))
   exact goW
  rw [List.drop_eq_nil_of_le (Nat.le_of_eq hln),h0s] at g4
  have gcq:=v0e (n:=l.length+1)
  have hne:q3≠[]:=g6 (Nat.succ_pos _)
  rw [←g4] at h4
  have hv:=Tk (nm:=204) hne
  have hm:=Uz (nm:=204) hne
  have h60:q3.length≤60:=j2p g5 hq40 g1 hlr.2
  have hcap:=h0w h60
  have F0:=yA gcq<|yA hv<|yA hm<|yA hcap<|F0
  have zL:=fun S2=>xhN2 ⟨(i+1,q3),hlt,h4,v0k g5 h5 hlr.2⟩ S2 (by exact yB hlt (yE i))
  exact goW
 ·have hcq:=q0o hlt
  have hi0:=yN i
  have hg:=Vq hlt
  obtain ⟨l,hl⟩: ∃ l,ts.getD i []=l:=⟨_,rfl⟩
  have hlm:l∈ts:=hl▸Cw hlt
  have hlr:=hrng l (by simp [hlm])
  obtain ⟨wb,hwb⟩: ∃ wb,d0f lt i=wb:=⟨_,rfl⟩
  rw [Ak (z:=[]) hlt,c0j,hl,hwb,←n0n] at h4
  rw [hl] at hg
  have hln:(l++[0]).length=l.length+1:=by simp
  have hcl:=j2o (n:=l.length) (yJ hlr.2 (by decide))
  have hcl2:=j2o (n:=l.length+1) (yJ (xH hlr.2) (by decide))
  have hs1:=b0k hlt hts
  have hq40:=q2i h5 hlt ht5
  have hv:=Tk (nm:=204) hn2
  have hm:=Uz (nm:=204) hn2
  have h60:q2.length≤60:=yJ hq40 (by decide)
  have hcap:=h0w h60
  have hne:=hn2
  have F0:=yA hcq<|yA hi0<|yA hlt<|yA hg<|yA hs1<|yA q0x<|yA p1c<|yA g1e<|yA c1d<|yA hcl<|yA hcl2<|yA hv<|yA hm<|yA hcap<|F0
  have zU:=trivial
  have zG:ZG 22:=⟨⟩
  refine (fun zX=>goW) ?_
  refine ⟨?_⟩;clear zG
  refine g0d (fun w=>[(10,.w (.one (.pl (.i (Hz w)))))]) (fun _=>[]) (fun w=>d0f lt i=w) (fun xNj xMj xhNj xhMj=>?_) (fun wc hwc=>?_)
  ·rcases lt with _|_
   ·have hw1:=a1s i
    have F0:=yA hw1<|F0
    have zL:=fun S2=>xhNj (d0f false i) rfl S2
    exact goW
   have hw1:=k1c i
   have F0:=yA hw1<|F0
   have zL:=fun S2=>xhNj (d0f true i) rfl S2
   exact goW
  rw [hwb] at hwc
  subst hwc
  have zU:=trivial
  refine (fun zX=>goW) ?_
  refine Nq [(70,.w (.one (.pl (.i ((i:Nat):Int))))),(10,.w (.one (.pl (.i (Hz wb))))),(86,.w (.one (.s 82 [] (l.length+1) 1))),(87,.w (.one (.pl (.i ((l.length+1:Nat):Int))))),(1,.w (.one (.p 1 []))),(68,.w (.one (.pl (.R false 1 (a0u ts))))),(69,.w (.one (.pl (.i ((ts.length:Nat):Int)))))] [(82,⟨true,iC (l++[0])⟩),(1,⟨false,Ow bs lt ps p0 p1 ts⟩)] (fun y=>[(88,.w (.one (.pl (.i ((y.1.1:Nat):Int))))),(3,evV 204 y.1.2)]) (fun y=>evM 204 y.1.2) (fun y=>l.length+1-y.1.1) (⟨(0,q2),yP _,rfl,yV _,fun _=>hne⟩:{y:Nat×List (Bool×Int)//y.1≤l.length+1∧h0s y.2 wb ((l++[0]).drop y.1)=h0s q2 wb (l++[0])∧y.2.length≤q2.length+y.1∧(True→y.2≠[])}) ?_
  intro zz xN3 xM3 xhN3 xhM3
  simp only [yC,yD]
  obtain ⟨⟨j,q3⟩,g1,g4,g5,g6⟩:=zz
  simp only at g1 g4 g5 g6
  have hd:(j<l.length+1∧q3≠[])∨j=l.length+1:=by
   have hn:q3≠[]:=g6 trivial
   simp [hn];omega
  rcases hd with ⟨glt,hne⟩|rfl
  ·have gcq:=q0o glt
   have gj:=yN j
   have glt2:j<(l++[0]).length:=hln▸glt
   have glt3:j<l.length+1:=glt
   have hjl:j≤l.length:=Nat.le_of_lt_succ glt
   have gg:=g1f glt2
   obtain ⟨x,hx⟩: ∃ x,(l++[0]).getD j 0=x:=⟨_,rfl⟩
   have hxr:0≤x∧x≤7:=by
    have hm:=hx▸Cw (z:=(0:Int)) glt2
    rcases yU.mp hm with h|h
    ·have:=Dk hlr.1 x h;omega
    rw [xW.mp h];decide
   rw [Ak (z:=0) glt2,h0s,hx] at g4
   rw [hx] at gg
   have gs1:=b0k glt (yJ (xH hlr.2) (by decide))
   have hv:=Tk (nm:=204) hne
   have hm:=Uz (nm:=204) hne
   have h60:q3.length≤60:=j2p g5 hq40 g1 hlr.2
   have hcap:=h0w h60
   have F0:=yA gcq<|yA gj<|yA glt3<|yA hjl<|yA gg<|yA gs1<|yA hv<|yA hm<|yA hcap<|F0
   have zU:=trivial
   have zS:ZS 27:=⟨⟩
   refine (fun zX=>goW) ?_
   refine ⟨?_⟩;clear zS
   refine g0d (fun w=>[(13,.w (.one (.pl (.b w))))]) (fun _=>[]) (fun w=>Pv q3=w) (fun xNj xMj xhNj xhMj=>?_) (fun lk hlk=>?_)
   ·have hd:any q3 3=true∨(any q3 3=false∧any q3 4=true)∨(any q3 3=false∧any q3 4=false∧any q3 5=true)∨(any q3 3=false∧any q3 4=false∧any q3 5=false∧any q3 6=true)∨(any q3 3=false∧any q3 4=false∧any q3 5=false∧any q3 6=false∧any q3 7=true)∨(any q3 3=false∧any q3 4=false∧any q3 5=false∧any q3 6=false∧any q3 7=false):=by cases any q3 3<;>cases any q3 4<;>cases any q3 5<;>cases any q3 6<;>cases any q3 7<;>simp
    rcases hd with h3|⟨h3,h4'⟩|⟨h3,h4',h5⟩|⟨h3,h4',h5,h6⟩|⟨h3,h4',h5,h6,h7⟩|⟨h3,h4',h5,h6,h7⟩
    ·skip
     have cv0:=Ct.cv (Gx q3 false 2 (fun _=>rfl) (Fy h60) 3 true h3)
     have zL:=fun S2=>xhNj true (by rw [Pv,h3];simp) S2
     exact goW
    ·skip
     have cv0:=Ct.cv (Gx q3 false 2 (fun _=>rfl) (Fy h60) 3 false h3)
     have cv1:=Ct.cv (Gx q3 false 2 (fun _=>rfl) (Fy h60) 4 true h4')
     have zL:=fun S2=>xhNj true (by rw [Pv,h3,h4'];simp) S2
     exact goW
    ·skip
     have cv0:=Ct.cv (Gx q3 false 2 (fun _=>rfl) (Fy h60) 3 false h3)
     have cv1:=Ct.cv (Gx q3 false 2 (fun _=>rfl) (Fy h60) 4 false h4')
     have cv2:=Ct.cv (Gx q3 false 2 (fun _=>rfl) (Fy h60) 5 true h5)
     have zL:=fun S2=>xhNj true (by rw [Pv,h3,h4',h5];simp) S2
     exact goW
    ·skip
     have cv0:=Ct.cv (Gx q3 false 2 (fun _=>rfl) (Fy h60) 3 false h3)
     have cv1:=Ct.cv (Gx q3 false 2 (fun _=>rfl) (Fy h60) 4 false h4')
     have cv2:=Ct.cv (Gx q3 false 2 (fun _=>rfl) (Fy h60) 5 false h5)
     have cv3:=Ct.cv (Gx q3 false 2 (fun _=>rfl) (Fy h60) 6 true h6)
     have zL:=fun S2=>xhNj true (by rw [Pv,h3,h4',h5,h6];simp) S2
     exact goW
    ·skip
     have cv0:=Ct.cv (Gx q3 false 2 (fun _=>rfl) (Fy h60) 3 false h3)
     have cv1:=Ct.cv (Gx q3 false 2 (fun _=>rfl) (Fy h60) 4 false h4')
     have cv2:=Ct.cv (Gx q3 false 2 (fun _=>rfl) (Fy h60) 5 false h5)
     have cv3:=Ct.cv (Gx q3 false 2 (fun _=>rfl) (Fy h60) 6 false h6)
     have cv4:=Ct.cv (Gx q3 false 2 (fun _=>rfl) (Fy h60) 7 true h7)
     have zL:=fun S2=>xhNj true (by rw [Pv,h3,h4',h5,h6,h7];simp) S2
     exact goW
    skip
    have cv0:=Ct.cv (Gx q3 false 2 (fun _=>rfl) (Fy h60) 3 false h3)
    have cv1:=Ct.cv (Gx q3 false 2 (fun _=>rfl) (Fy h60) 4 false h4')
    have cv2:=Ct.cv (Gx q3 false 2 (fun _=>rfl) (Fy h60) 5 false h5)
    have cv3:=Ct.cv (Gx q3 false 2 (fun _=>rfl) (Fy h60) 6 false h6)
    have cv4:=Ct.cv (Gx q3 false 2 (fun _=>rfl) (Fy h60) 7 false h7)
    have zL:=fun S2=>xhNj false (by rw [Pv,h3,h4',h5,h6,h7];simp) S2
    exact goW
   skip
   rcases (p0j lk (Aj q3 wb) (hap q3 wb 1) (hap q3 wb 2) (hap q3 false 1) (hap q3 true 1) (hap q3 false 2) (hap q3 true 2) (any q3 3) (any q3 4) (any q3 5) (any q3 6) hxr:(x=0∧lk=false)∨(x=0∧lk=true∧Aj q3 wb=true)∨(x=0∧lk=true∧Aj q3 wb=false)∨(x=1∧hap q3 wb 1=false)∨(x=1∧hap q3 wb 1=true)∨(x=2∧hap q3 wb 2=true)∨(x=2∧hap q3 wb 2=false∧lk=false)∨(x=2∧hap q3 wb 2=false∧lk=true∧Aj q3 wb=true)∨(x=2∧hap q3 wb 2=false∧lk=true∧Aj q3 wb=false)∨(x=3∧hap q3 false 1=false)∨(x=3∧hap q3 false 1=true∧hap q3 true 1=false)∨(x=3∧hap q3 false 1=true∧hap q3 true 1=true∧any q3 3=true)∨(x=3∧hap q3 false 1=true∧hap q3 true 1=true∧any q3 3=false)∨(x=4∧hap q3 false 1=false)∨(x=4∧hap q3 false 1=true∧hap q3 true 2=false)∨(x=4∧hap q3 false 1=true∧hap q3 true 2=true∧any q3 4=true)∨(x=4∧hap q3 false 1=true∧hap q3 true 2=true∧any q3 4=false)∨(x=5∧hap q3 false 2=false)∨(x=5∧hap q3 false 2=true∧hap q3 true 1=false)∨(x=5∧hap q3 false 2=true∧hap q3 true 1=true∧any q3 5=true)∨(x=5∧hap q3 false 2=true∧hap q3 true 1=true∧any q3 5=false)∨(x=6∧hap q3 false 2=false)∨(x=6∧hap q3 false 2=true∧hap q3 true 2=false)∨(x=6∧hap q3 false 2=true∧hap q3 true 2=true∧any q3 6=true)∨(x=6∧hap q3 false 2=true∧hap q3 true 2=true∧any q3 6=false)∨x=7) with ⟨hx0,hk⟩|⟨hx0,hk,hm_⟩|⟨hx0,hk,hm_⟩|⟨hx0,ha⟩|⟨hx0,ha⟩|⟨hx0,ha⟩|⟨hx0,ha,hk⟩|⟨hx0,ha,hk,hm_⟩|⟨hx0,ha,hk,hm_⟩|⟨hx0,ha⟩|⟨hx0,ha,hb⟩|⟨hx0,ha,hb,hc⟩|⟨hx0,ha,hb,hc⟩|⟨hx0,ha⟩|⟨hx0,ha,hb⟩|⟨hx0,ha,hb,hc⟩|⟨hx0,ha,hb,hc⟩|⟨hx0,ha⟩|⟨hx0,ha,hb⟩|⟨hx0,ha,hb,hc⟩|⟨hx0,ha,hb,hc⟩|⟨hx0,ha⟩|⟨hx0,ha,hb⟩|⟨hx0,ha,hb,hc⟩|⟨hx0,ha,hb,hc⟩|hx0
   ·have hok:okE q3 wb x=true:=by rw [hx0];simp [okE,hk,hlk]
    rw [hok,if_pos rfl] at g4
    have F0:=yA hx0<|yA hk<|F0
    have zL:=fun S2=>xhN3 ⟨(j+1,q3++[(wb,x)]),glt,g4,Ey g5,fun _=>Jk _ _⟩ S2 (by exact yB glt (yE j))
    exact goW
   ·have hok:okE q3 wb x=true:=by rw [hx0];simp [okE,hk,hm_,hlk]
    rw [hok,if_pos rfl] at g4
    have F0:=yA hx0<|yA hk<|F0
    have cv0:=Ct.cv (n0g q3 false 2 (fun _=>rfl) (Fy h60) wb true hm_)
    have zL:=fun S2=>xhN3 ⟨(j+1,q3++[(wb,x)]),glt,g4,Ey g5,fun _=>Jk _ _⟩ S2 (by exact yB glt (yE j))
    exact goW
   ·have hok:okE q3 wb x=false:=by rw [hx0];simp [okE,hk,hm_,hlk]
    rw [hok,if_neg (by decide)] at g4
    rw [←g4] at h4
    have F0:=yA hx0<|yA hk<|F0
    have cv0:=Ct.cv (n0g q3 false 2 (fun _=>rfl) (Fy h60) wb false hm_)
    have zE:=(Cx (lt:=lt) hlen hz hq0 hq1).trans (show (3:Int)=_ from h4).symm
    exact goW
   ·have hok:okE q3 wb x=true:=by rw [hx0];simp [okE,ha,hlk]
    rw [hok,if_pos rfl] at g4
    have F0:=yA hx0<|F0
    have cv0:=Ct.cv (Dx q3 false 2 (fun _=>rfl) (Fy h60) wb 1 false ha)
    have zL:=fun S2=>xhN3 ⟨(j+1,q3++[(wb,x)]),glt,g4,Ey g5,fun _=>Jk _ _⟩ S2 (by exact yB glt (yE j))
    exact goW
   ·have hok:okE q3 wb x=false:=by rw [hx0];simp [okE,ha,hlk]
    rw [hok,if_neg (by decide)] at g4
    rw [←g4] at h4
    have F0:=yA hx0<|F0
    have cv0:=Ct.cv (Dx q3 false 2 (fun _=>rfl) (Fy h60) wb 1 true ha)
    have zE:=(Cx (lt:=lt) hlen hz hq0 hq1).trans (show (3:Int)=_ from h4).symm
    exact goW
   ·have hok:okE q3 wb x=false:=by rw [hx0];simp [okE,ha,hlk]
    rw [hok,if_neg (by decide)] at g4
    rw [←g4] at h4
    have F0:=yA hx0<|F0
    have cv0:=Ct.cv (Dx q3 false 2 (fun _=>rfl) (Fy h60) wb 2 true ha)
    have zE:=(Cx (lt:=lt) hlen hz hq0 hq1).trans (show (3:Int)=_ from h4).symm
    exact goW
   ·have hok:okE q3 wb x=true:=by rw [hx0];simp [okE,ha,hk,hlk]
    rw [hok,if_pos rfl] at g4
    have F0:=yA hx0<|yA hk<|F0
    have cv0:=Ct.cv (Dx q3 false 2 (fun _=>rfl) (Fy h60) wb 2 false ha)
    have zL:=fun S2=>xhN3 ⟨(j+1,q3++[(wb,x)]),glt,g4,Ey g5,fun _=>Jk _ _⟩ S2 (by exact yB glt (yE j))
    exact goW
   ·have hok:okE q3 wb x=true:=by rw [hx0];simp [okE,ha,hk,hm_,hlk]
    rw [hok,if_pos rfl] at g4
    have F0:=yA hx0<|yA hk<|F0
    have cv0:=Ct.cv (Dx q3 false 2 (fun _=>rfl) (Fy h60) wb 2 false ha)
    have cv1:=Ct.cv (n0g q3 false 2 (fun _=>rfl) (Fy h60) wb true hm_)
    have zL:=fun S2=>xhN3 ⟨(j+1,q3++[(wb,x)]),glt,g4,Ey g5,fun _=>Jk _ _⟩ S2 (by exact yB glt (yE j))
    exact goW
   ·have hok:okE q3 wb x=false:=by rw [hx0];simp [okE,ha,hk,hm_,hlk]
    rw [hok,if_neg (by decide)] at g4
    rw [←g4] at h4
    have F0:=yA hx0<|yA hk<|F0
    have cv0:=Ct.cv (Dx q3 false 2 (fun _=>rfl) (Fy h60) wb 2 false ha)
    have cv1:=Ct.cv (n0g q3 false 2 (fun _=>rfl) (Fy h60) wb false hm_)
    have zE:=(Cx (lt:=lt) hlen hz hq0 hq1).trans (show (3:Int)=_ from h4).symm
    exact goW
   ·have hok:okE q3 wb x=false:=by rw [hx0];simp [okE,ha,hlk]
    rw [hok,if_neg (by decide)] at g4
    rw [←g4] at h4
    have F0:=yA hx0<|F0
    have cv0:=Ct.cv (Dx q3 false 2 (fun _=>rfl) (Fy h60) false 1 false ha)
    have zE:=(Cx (lt:=lt) hlen hz hq0 hq1).trans (show (3:Int)=_ from h4).symm
    exact goW
   ·have hok:okE q3 wb x=false:=by rw [hx0];simp [okE,ha,hb,hlk]
    rw [hok,if_neg (by decide)] at g4
    rw [←g4] at h4
    have F0:=yA hx0<|F0
    have cv0:=Ct.cv (Dx q3 false 2 (fun _=>rfl) (Fy h60) false 1 true ha)
    have cv1:=Ct.cv (Dx q3 false 2 (fun _=>rfl) (Fy h60) true 1 false hb)
    have zE:=(Cx (lt:=lt) hlen hz hq0 hq1).trans (show (3:Int)=_ from h4).symm
    exact goW
   ·have hok:okE q3 wb x=false:=by rw [hx0];simp [okE,ha,hb,hc,hlk]
    rw [hok,if_neg (by decide)] at g4
    rw [←g4] at h4
    have F0:=yA hx0<|F0
    have cv0:=Ct.cv (Dx q3 false 2 (fun _=>rfl) (Fy h60) false 1 true ha)
    have cv1:=Ct.cv (Dx q3 false 2 (fun _=>rfl) (Fy h60) true 1 true hb)
    have cv2:=Ct.cv (Gx q3 false 2 (fun _=>rfl) (Fy h60) 3 true hc)
    have zE:=(Cx (lt:=lt) hlen hz hq0 hq1).trans (show (3:Int)=_ from h4).symm
    exact goW
   ·have hok:okE q3 wb x=true:=by rw [hx0];simp [okE,ha,hb,hc,hlk]
    rw [hok,if_pos rfl] at g4
    have F0:=yA hx0<|F0
    have cv0:=Ct.cv (Dx q3 false 2 (fun _=>rfl) (Fy h60) false 1 true ha)
    have cv1:=Ct.cv (Dx q3 false 2 (fun _=>rfl) (Fy h60) true 1 true hb)
    have cv2:=Ct.cv (Gx q3 false 2 (fun _=>rfl) (Fy h60) 3 false hc)
    have zL:=fun S2=>xhN3 ⟨(j+1,q3++[(wb,x)]),glt,g4,Ey g5,fun _=>Jk _ _⟩ S2 (by exact yB glt (yE j))
    exact goW
   ·have hok:okE q3 wb x=false:=by rw [hx0];simp [okE,ha,hlk]
    rw [hok,if_neg (by decide)] at g4
    rw [←g4] at h4
    have F0:=yA hx0<|F0
    have cv0:=Ct.cv (Dx q3 false 2 (fun _=>rfl) (Fy h60) false 1 false ha)
    have zE:=(Cx (lt:=lt) hlen hz hq0 hq1).trans (show (3:Int)=_ from h4).symm
    exact goW
   ·have hok:okE q3 wb x=false:=by rw [hx0];simp [okE,ha,hb,hlk]
    rw [hok,if_neg (by decide)] at g4
    rw [←g4] at h4
    have F0:=yA hx0<|F0
    have cv0:=Ct.cv (Dx q3 false 2 (fun _=>rfl) (Fy h60) false 1 true ha)
    have cv1:=Ct.cv (Dx q3 false 2 (fun _=>rfl) (Fy h60) true 2 false hb)
    have zE:=(Cx (lt:=lt) hlen hz hq0 hq1).trans (show (3:Int)=_ from h4).symm
    exact goW
   ·have hok:okE q3 wb x=false:=by rw [hx0];simp [okE,ha,hb,hc,hlk]
    rw [hok,if_neg (by decide)] at g4
    rw [←g4] at h4
    have F0:=yA hx0<|F0
    have cv0:=Ct.cv (Dx q3 false 2 (fun _=>rfl) (Fy h60) false 1 true ha)
    have cv1:=Ct.cv (Dx q3 false 2 (fun _=>rfl) (Fy h60) true 2 true hb)
    have cv2:=Ct.cv (Gx q3 false 2 (fun _=>rfl) (Fy h60) 4 true hc)
    have zE:=(Cx (lt:=lt) hlen hz hq0 hq1).trans (show (3:Int)=_ from h4).symm
    exact goW
   ·have hok:okE q3 wb x=true:=by rw [hx0];simp [okE,ha,hb,hc,hlk]
    rw [hok,if_pos rfl] at g4
    have F0:=yA hx0<|F0
    have cv0:=Ct.cv (Dx q3 false 2 (fun _=>rfl) (Fy h60) false 1 true ha)
    have cv1:=Ct.cv (Dx q3 false 2 (fun _=>rfl) (Fy h60) true 2 true hb)
    have cv2:=Ct.cv (Gx q3 false 2 (fun _=>rfl) (Fy h60) 4 false hc)
    have zL:=fun S2=>xhN3 ⟨(j+1,q3++[(wb,x)]),glt,g4,Ey g5,fun _=>Jk _ _⟩ S2 (by exact yB glt (yE j))
    exact goW
   ·have hok:okE q3 wb x=false:=by rw [hx0];simp [okE,ha,hlk]
    rw [hok,if_neg (by decide)] at g4
    rw [←g4] at h4
    have F0:=yA hx0<|F0
    have cv0:=Ct.cv (Dx q3 false 2 (fun _=>rfl) (Fy h60) false 2 false ha)
    have zE:=(Cx (lt:=lt) hlen hz hq0 hq1).trans (show (3:Int)=_ from h4).symm
    exact goW
   ·have hok:okE q3 wb x=false:=by rw [hx0];simp [okE,ha,hb,hlk]
    rw [hok,if_neg (by decide)] at g4
    rw [←g4] at h4
    have F0:=yA hx0<|F0
    have cv0:=Ct.cv (Dx q3 false 2 (fun _=>rfl) (Fy h60) false 2 true ha)
    have cv1:=Ct.cv (Dx q3 false 2 (fun _=>rfl) (Fy h60) true 1 false hb)
    have zE:=(Cx (lt:=lt) hlen hz hq0 hq1).trans (show (3:Int)=_ from h4).symm
    exact goW
   ·have hok:okE q3 wb x=false:=by rw [hx0];simp [okE,ha,hb,hc,hlk]
    rw [hok,if_neg (by decide)] at g4
    rw [←g4] at h4
    have F0:=yA hx0<|F0
    have cv0:=Ct.cv (Dx q3 false 2 (fun _=>rfl) (Fy h60) false 2 true ha)
    have cv1:=Ct.cv (Dx q3 false 2 (fun _=>rfl) (Fy h60) true 1 true hb)
    have cv2:=Ct.cv (Gx q3 false 2 (fun _=>rfl) (Fy h60) 5 true hc)
    have zE:=(Cx (lt:=lt) hlen hz hq0 hq1).trans (show (3:Int)=_ from h4).symm
    exact goW
   ·have hok:okE q3 wb x=true:=by rw [hx0];simp [okE,ha,hb,hc,hlk]
    rw [hok,if_pos rfl] at g4
    have F0:=yA hx0<|F0
    have cv0:=Ct.cv (Dx q3 false 2 (fun _=>rfl) (Fy h60) false 2 true ha)
    have cv1:=Ct.cv (Dx q3 false 2 (fun _=>rfl) (Fy h60) true 1 true hb)
    have cv2:=Ct.cv (Gx q3 false 2 (fun _=>rfl) (Fy h60) 5 false hc)
    have zL:=fun S2=>xhN3 ⟨(j+1,q3++[(wb,x)]),glt,g4,Ey g5,fun _=>Jk _ _⟩ S2 (by exact yB glt (yE j))
    exact goW
   ·have hok:okE q3 wb x=false:=by rw [hx0];simp [okE,ha,hlk]
    rw [hok,if_neg (by decide)] at g4
    rw [←g4] at h4
    have F0:=yA hx0<|F0
    have cv0:=Ct.cv (Dx q3 false 2 (fun _=>rfl) (Fy h60) false 2 false ha)
    have zE:=(Cx (lt:=lt) hlen hz hq0 hq1).trans (show (3:Int)=_ from h4).symm
    exact goW
   ·have hok:okE q3 wb x=false:=by rw [hx0];simp [okE,ha,hb,hlk]
    rw [hok,if_neg (by decide)] at g4
    rw [←g4] at h4
    have F0:=yA hx0<|F0
    have cv0:=Ct.cv (Dx q3 false 2 (fun _=>rfl) (Fy h60) false 2 true ha)
    have cv1:=Ct.cv (Dx q3 false 2 (fun _=>rfl) (Fy h60) true 2 false hb)
    have zE:=(Cx (lt:=lt) hlen hz hq0 hq1).trans (show (3:Int)=_ from h4).symm
    exact goW
   ·have hok:okE q3 wb x=false:=by rw [hx0];simp [okE,ha,hb,hc,hlk]
    rw [hok,if_neg (by decide)] at g4
    rw [←g4] at h4
    have F0:=yA hx0<|F0
    have cv0:=Ct.cv (Dx q3 false 2 (fun _=>rfl) (Fy h60) false 2 true ha)
    have cv1:=Ct.cv (Dx q3 false 2 (fun _=>rfl) (Fy h60) true 2 true hb)
    have cv2:=Ct.cv (Gx q3 false 2 (fun _=>rfl) (Fy h60) 6 true hc)
    have zE:=(Cx (lt:=lt) hlen hz hq0 hq1).trans (show (3:Int)=_ from h4).symm
    exact goW
   ·have hok:okE q3 wb x=true:=by rw [hx0];simp [okE,ha,hb,hc,hlk]
    rw [hok,if_pos rfl] at g4
    have F0:=yA hx0<|F0
    have cv0:=Ct.cv (Dx q3 false 2 (fun _=>rfl) (Fy h60) false 2 true ha)
    have cv1:=Ct.cv (Dx q3 false 2 (fun _=>rfl) (Fy h60) true 2 true hb)
    have cv2:=Ct.cv (Gx q3 false 2 (fun _=>rfl) (Fy h60) 6 false hc)
    have zL:=fun S2=>xhN3 ⟨(j+1,q3++[(wb,x)]),glt,g4,Ey g5,fun _=>Jk _ _⟩ S2 (by exact yB glt (yE j))
    exact goW
   have hok:okE q3 wb x=true:=by rw [hx0];simp [okE,hlk]
   rw [hok,if_pos rfl] at g4
   have F0:=yA hx0<|F0
   have zL:=fun S2=>xhN3 ⟨(j+1,q3++[(wb,x)]),glt,g4,Ey g5,fun _=>Jk _ _⟩ S2 (by exact yB glt (yE j))
   exact goW
  rw [List.drop_eq_nil_of_le (Nat.le_of_eq hln),h0s] at g4
  have gcq:=v0e (n:=l.length+1)
  have hne:q3≠[]:=g6 trivial
  rw [←g4] at h4
  have hv:=Tk (nm:=204) hne
  have hm:=Uz (nm:=204) hne
  have h60:q3.length≤60:=j2p g5 hq40 g1 hlr.2
  have hcap:=h0w h60
  have F0:=yA gcq<|yA hv<|yA hm<|yA hcap<|F0
  have zL:=fun S2=>xhN2 ⟨(i+1,q3),hlt,h4,v0k g5 h5 hlr.2⟩ S2 (by exact yB hlt (yE i))
  exact goW
 rw [yG,c0j] at h4
 have hcq:=v0e (n:=ts.length)
 have F0:=yA hcq<|F0
 have zE:=(Cx (lt:=lt) hlen hz hq0 hq1).trans h4.symm
 exact goW
end Go.Sy
