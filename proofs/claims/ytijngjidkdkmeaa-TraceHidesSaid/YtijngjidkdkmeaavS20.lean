/- Walks and what they compute. CONDITIONS: those that each theorem names. -/
import Derived.Test.YtijngjidkdkmeaavS1
import Derived.Test.YtijngjidkdkmeaavS11
import Derived.Test.YtijngjidkdkmeaavE3
import Derived.Test.YtijngjidkdkmeaavE5
set_option linter.unusedVariables false
set_option linter.unusedSimpArgs false
set_option maxHeartbeats 400000
set_option maxRecDepth 100000
namespace Go.Sy
open Go.Proofs
attribute [local irreducible] Cj HT Bv Rj onC onE onO onG goV goA goS Tj Ck
abbrev Gj (t:Aw):V:=.w (.agg (pls t.cells))
theorem g1t {ex':Bool} {sz':Nat} {ro:Ro} {y:Value} (h:PL.den ro (.R true 1 []) y):PL.den ro (.R ex' sz' []) y:=by
 rw [PL.den] at h ⊢
 rcases h with h|⟨blk,off,cap,h1,h2,h3,h4,_⟩|⟨a,cap,h1,h2,h3,h4⟩
 ·exact .inl h
 ·exact .inr (.inl ⟨blk,off,cap,h1,h2,h3,fun _=>h4 rfl,by rw [PL.denRows];trivial⟩)
 exact .inr (.inr ⟨a,cap,h1,h2,h3,fun _=>h4 rfl⟩)
theorem a0k {R:V→List (Nat×Ob)→Prop} {m:List (Nat×Ob)} {k i o:Int} (h:R (Gj (.mk k i o [])) []):Told R (.w (.agg [.pl (.i k),.pl (.i i),.pl (.i o),.pl (.R true 1 [])])) m:=by
 refine p0d (v':=.w (.agg [.pl (.i k),.pl (.i i),.pl (.i o),.pl (.R false 4 [])])) (fun d y hd=>?_) (told_plain rfl ?_)
 ·obtain ⟨vs,e,hd⟩:=hd
  refine ⟨vs,e,?_⟩
  generalize vs.toList=l at hd ⊢
  cases hd with
  |cons h1 hd=>cases hd with
   |cons h2 hd=>cases hd with
    |cons h3 hd=>cases hd with
     |cons h4 hd=>exact .cons h1 (.cons h2 (.cons h3 (.cons (g1t h4) hd)))
 have e:Gj (.mk k i o [])=.w (.agg [.pl (.i k),.pl (.i i),.pl (.i o),.pl (.R false 4 [])]):=by rw [Gj,Aw.cells,Ay];rfl
 rw [←e];exact h
end Go.Sy
namespace Go.Sy
open Go.Proofs
attribute [local irreducible] Cj HT Bv Rj onC onE onO onG goV goA goS Tj Ck
theorem o2e (n:Int):
 Ct Try.prog 22 [.w (.one (.pl (.i n)))] (Told (fun v m=>v=Gj (Fv n))):=by
 have zE:=fun m=>a0k (R:=(fun v m=>v=Gj (Fv n))) (m:=m) rfl
 have F0:=trivial
 exact Ct.go Try.func22 rfl Try.ntmps22 Try.results22
theorem n0l (n:Int):Ct Try.prog 22 [.w (.one (.pl (.i n)))] (fun v m=>v=Gj (Fv n)):=(o2e n).told
theorem p2k (n:Int):
 Ct Try.prog 23 [.w (.one (.pl (.i n)))] (Told (fun v m=>v=Gj (Mv n))):=by
 have zE:=fun m=>a0k (R:=(fun v m=>v=Gj (Mv n))) (m:=m) rfl
 have F0:=trivial
 exact Ct.go Try.func23 rfl Try.ntmps23 Try.results23
theorem a1o (n:Int):Ct Try.prog 23 [.w (.one (.pl (.i n)))] (fun v m=>v=Gj (Mv n)):=(p2k n).told
theorem b2m (n:Int):
 Ct Try.prog 25 [.w (.one (.pl (.i n)))] (Told (fun v m=>v=Gj (Fv n))):=by
 have zE:=fun m=>a0k (R:=(fun v m=>v=Gj (Fv n))) (m:=m) rfl
 have F0:=trivial
 exact Ct.go Try.func25 rfl Try.ntmps25 Try.results25
theorem c0e (n:Int):Ct Try.prog 25 [.w (.one (.pl (.i n)))] (fun v m=>v=Gj (Fv n)):=(b2m n).told
theorem f2c (n:Int):
 Ct Try.prog 26 [.w (.one (.pl (.i n)))] (Told (fun v m=>v=Gj (Mv n))):=by
 have zE:=fun m=>a0k (R:=(fun v m=>v=Gj (Mv n))) (m:=m) rfl
 have F0:=trivial
 exact Ct.go Try.func26 rfl Try.ntmps26 Try.results26
theorem c0m (n:Int):Ct Try.prog 26 [.w (.one (.pl (.i n)))] (fun v m=>v=Gj (Mv n)):=(f2c n).told
theorem n2o :
 Ct Try.prog 48 [.w (.one (.pl (.i 3))),.w (.one (.pl (.i 4)))] (Told (fun v m=>v=Gj (dhT 3 4))):=by
 have zE:=fun m=>a0k (R:=(fun v m=>v=Gj (dhT 3 4))) (m:=m) rfl
 have F0:=trivial
 exact Ct.go Try.func48 rfl Try.ntmps48 Try.results48
theorem n2p :Ct Try.prog 48 [.w (.one (.pl (.i 3))),.w (.one (.pl (.i 4)))] (fun v m=>v=Gj (dhT 3 4)):=n2o.told
theorem n2q :
 Ct Try.prog 48 [.w (.one (.pl (.i 3))),.w (.one (.pl (.i 2)))] (Told (fun v m=>v=Gj (dhT 2 3))):=by
 have zE:=fun m=>a0k (R:=(fun v m=>v=Gj (dhT 2 3))) (m:=m) rfl
 have F0:=trivial
 exact Ct.go Try.func48 rfl Try.ntmps48 Try.results48
theorem n2r :Ct Try.prog 48 [.w (.one (.pl (.i 3))),.w (.one (.pl (.i 2)))] (fun v m=>v=Gj (dhT 2 3)):=n2q.told
theorem n2s :
 Ct Try.prog 48 [.w (.one (.pl (.i 1))),.w (.one (.pl (.i 4)))] (Told (fun v m=>v=Gj (dhT 1 4))):=by
 have zE:=fun m=>a0k (R:=(fun v m=>v=Gj (dhT 1 4))) (m:=m) rfl
 have F0:=trivial
 exact Ct.go Try.func48 rfl Try.ntmps48 Try.results48
theorem n2t :Ct Try.prog 48 [.w (.one (.pl (.i 1))),.w (.one (.pl (.i 4)))] (fun v m=>v=Gj (dhT 1 4)):=n2s.told
theorem n2u :
 Ct Try.prog 48 [.w (.one (.pl (.i 1))),.w (.one (.pl (.i 2)))] (Told (fun v m=>v=Gj (dhT 1 2))):=by
 have zE:=fun m=>a0k (R:=(fun v m=>v=Gj (dhT 1 2))) (m:=m) rfl
 have F0:=trivial
 exact Ct.go Try.func48 rfl Try.ntmps48 Try.results48
theorem n2v :Ct Try.prog 48 [.w (.one (.pl (.i 1))),.w (.one (.pl (.i 2)))] (fun v m=>v=Gj (dhT 1 2)):=n2u.told
theorem Dy (t:Aw):t.cells.length=4:=by obtain ⟨k,i,o,l⟩:=t;rw [Aw.cells];rfl
end Go.Sy
namespace Go.Sy
open Go.Proofs
attribute [local irreducible] Cj HT Bv Rj onC onE onO onG goV goA goS Tj Ck
theorem Mq (l:List Aw):(Ay l).flatten.length=l.length*4:=by
 induction l with
 |nil=>rw [Ay];rfl
 |cons a r ih=>rw [Ay,xU,yL,ih,Dy,yH];omega
theorem p0l : ∀ l:List Aw,chunks 4 l.length (Ay l).flatten=Ay l
 | []=>by rw [Ay];rfl
 |a::r=>by
  have ih:=p0l r
  have ha:=Dy a
  rw [Ay,xU,yH]
  simp only [chunks]
  rw [←ha,List.take_left,List.drop_left,ha,ih]
theorem m1h (k:Nat) (kd i o:Int) (ts:List Aw):s0i k (Ay ts).flatten (.w (.agg [.pl (.i kd),.pl (.i i),.pl (.i o),.s k [] ts.length 4]))=Gj (.mk kd i o ts):=by
 rw [Gj,Aw.cells]
 simp only [s0i,i1c,yM,wC,b0a,if_true,pok,psz,Mq,and_self,rd,p0l,pls]
theorem t0h (t:Aw):q0a (Gj t)=true:=by
 obtain ⟨k,i,o,l⟩:=t
 rw [Gj,Aw.cells];rfl
theorem k1i {R:V→List (Nat×Ob)→Prop} {m:List (Nat×Ob)} {k:Nat} {b:Bool} {kd i o:Int} (ts:List Aw) {n:Nat} (hn:ts.length=n) (hl:k<500000) (h:R (Gj (.mk kd i o ts)) []) (hk:look m k=some ⟨b,pls (Ay ts).flatten⟩):
 Told R (.w (.agg [.pl (.i kd),.pl (.i i),.pl (.i o),.s k [] n 4])) m:=by
 subst hn
 refine b0n k _ hk hl ?_
 rw [m1h]
 exact told_plain (t0h _) h
theorem a2b (a b:Aw):pls (Ay [a,b]).flatten=pls a.cells++pls b.cells:=by simp [Ay,pls]
theorem flat3 (a b c:Aw):pls (Ay [a,b,c]).flatten=pls a.cells++(pls b.cells++pls c.cells):=by simp [Ay,pls]
theorem p2v (w:Int) (c x:Aw):
 Ct Try.prog 47 [.w (.one (.pl (.i w))),Gj c,Gj x] (Told (fun v m=>v=Gj (a0t w c x))):=by
 have zE:=fun m=>k1i (R:=(fun v m=>v=Gj (a0t w c x))) (m:=m) (b:=true) (k:=10) (n:=2) [c,x] rfl (by decide) rfl
 have F0:=yA Dy<|yA Fq<|yA Ez<|a2b
 exact Ct.w Try.func47 rfl Try.ntmps47 Try.results47
theorem o2q (w:Int) (c x:Aw):Ct Try.prog 47 [.w (.one (.pl (.i w))),Gj c,Gj x] (fun v m=>v=Gj (a0t w c x)):=(p2v w c x).told
end Go.Sy
namespace Go.Sy
open Go.Proofs
attribute [local irreducible] Cj HT Bv Rj onC onE onO onG goV goA goS Tj Ck
def Ew (c:Aw) (k:List PL) (has:Bool) (ps:Int) (o:L):List L:=pls c.cells++(pls k++[.pl (.b has),.pl (.i ps),o])
theorem k1l {R:V→List (Nat×Ob)→Prop} {v:V} {m:List (Nat×Ob)} {a b:Nat} {oa ob:Ob} (h:R v [(a,oa),(b,ob)]) (h1:look m a=some oa) (h2:look m b=some ob):Told R v m:=Vv (fun x hx=>by
 rcases yT.mp hx with rfl|hx
 ·exact h1
 rw [xW] at hx;subst hx;exact h2) h
def tC (l:List Aw):List L:=pls (Ay l).flatten
def hM (c:Aw) (k:List PL) (has:Bool) (ps:Int) (l:List Aw):List (Nat×Ob):=match l with
 | []=>[(500000,⟨false,Ew c k has ps (.pl (.R true 1 []))⟩)]
 |_::_=>[(500000,⟨false,Ew c k has ps (.s 500001 [] l.length 4)⟩),(500001,⟨true,tC l⟩)]
theorem q0l (c x:Aw) (k:List PL) (hk:k.length=4) (has:Bool) (ps:Int):
 CtM Try.prog 35 [.w (.one (.p 500000 [])),Gj x] [(500000,⟨false,Ew c k has ps (.pl (.R true 1 []))⟩)] (Told (fun v m=>v=.tup []∧m=(500000,⟨false,Ew (a0t 1 c x) (a0t 2 c x).cells true ps (.pl (.R true 1 []))⟩)::[])):=by
 have F0:=yA Dy<|yA Fq<|yA Ez<|yA Ew.eq_1<|hk
 refine CtM.go Try.func35 rfl Try.ntmps35 Try.results35 fun w0 ro may fx zZ zhZ=>?_
 refine (fun zX=>goW) ?_
 refine Zq (id:=1) mixed fun zE zhE=>?_
 refine Aq (p:=0) 21 [4,5,6,7,8,9,10,11,12,13,14,15,16,17,18,19,20,21,22] [0,0,0,0,8,24,56,0,248,0,512,1536,3584,0,16376,32761,65529,131065,262139,524283,1048571,2097151,4194303,8388607] [(1,17),(2,17),(2,20)] rfl (by kernel_rfl) rfl (by simp only [go_sem]) fun zR zK zhR zhK=>?_
 simp only [go_sem,F0]
 repeat' (first|apply yA|intro _)
 all_goals (refine Iz false (fun k=>k) (Gj (a0t 1 c x)) [] (fun _ _=>rfl) ?_ ?_ ?_ ((o2q 1 c x).plain fun _ _ h=>h).hands ?_ ?_;(iterate 2 (focus (first|rfl|(simp only [go_sem,F0]<;>first|done|rfl|simp))));(first|kernel_rfl|rfl|simp [l0e,l0f,pls]))
 all_goals try (refine yA ?_ (yA ?_ (yA ?_ ?_))<;>(first|rfl|(simp only [go_sem,F0];done)|(simp [go_sem,look,F0];done)))
 all_goals (try simp only [go_sem,F0])
 all_goals (try simp only [go_sem,F0])
 all_goals repeat' (first|apply yA|intro _)
 all_goals (refine Iz false (fun k=>k) (Gj (a0t 2 c x)) [] (fun _ _=>rfl) ?_ ?_ ?_ ((o2q 2 c x).plain fun _ _ h=>h).hands ?_ ?_;(iterate 2 (focus (first|rfl|(simp only [go_sem,F0]<;>first|done|rfl|simp))));(first|kernel_rfl|rfl|simp [l0e,l0f,pls]))
 all_goals try (refine yA ?_ (yA ?_ (yA ?_ ?_))<;>(first|rfl|(simp only [go_sem,F0];done)|(simp [go_sem,look,F0];done)))
 all_goals (try simp only [go_sem,F0])
 all_goals (try simp only [go_sem,F0])
 all_goals repeat' (first|apply yA|intro _)
 refine zhK _ _ ?_ (zhR _ ?_)
 focus (first|trivial|(simp only [go_sem];done)|(simp only [go_sem];simp;done)|(simp only [go_sem];simp;simp only [go_sem]))
 refine Cz 3 24 rfl (by kernel_rfl) rfl rfl fun zR zhR=>?_
 simp only [go_sem,F0]
 repeat' (first|apply yA|intro _)
 refine zhR _ ?_
 refine Gv rfl (zhE _ ?_)
 exact goW
theorem q0k (c x:Aw) (k:List PL) (hk:k.length=4) (has:Bool) (ps:Int) (n:Nat) (cs:List PL) (hcs:cs.length=n*4):
 CtM Try.prog 35 [.w (.one (.p 500000 [])),Gj x] [(500000,⟨false,Ew c k has ps (.s 500001 [] n 4)⟩),(500001,⟨true,pls cs⟩)] (Told (fun v m=>v=.tup []∧m=(500000,⟨false,Ew (a0t 1 c x) (a0t 2 c x).cells true ps (.s 500001 [] n 4)⟩)::[(500001,⟨true,pls cs⟩)])):=by
 have F0:=yA Dy<|yA Fq<|yA Ez<|yA Ew.eq_1<|hk
 refine CtM.go Try.func35 rfl Try.ntmps35 Try.results35 fun w0 ro may fx zZ zhZ=>?_
 refine (fun zX=>goW) ?_
 refine Zq (id:=1) mixed fun zE zhE=>?_
 refine Aq (p:=0) 21 [4,5,6,7,8,9,10,11,12,13,14,15,16,17,18,19,20,21,22] [0,0,0,0,8,24,56,0,248,0,512,1536,3584,0,16376,32761,65529,131065,262139,524283,1048571,2097151,4194303,8388607] [(1,17),(2,17),(2,20)] rfl (by kernel_rfl) rfl (by simp only [go_sem]) fun zR zK zhR zhK=>?_
 simp only [go_sem,F0]
 repeat' (first|apply yA|intro _)
 all_goals (refine Iz false (fun k=>k) (Gj (a0t 1 c x)) [] (fun _ _=>rfl) ?_ ?_ ?_ ((o2q 1 c x).plain fun _ _ h=>h).hands ?_ ?_;(iterate 2 (focus (first|rfl|(simp only [go_sem,F0]<;>first|done|rfl|simp))));(first|kernel_rfl|rfl|simp [l0e,l0f,pls]))
 all_goals try (refine yA ?_ (yA ?_ (yA ?_ ?_))<;>(first|rfl|(simp only [go_sem,F0];done)|(simp [go_sem,look,F0];done)))
 all_goals (try simp only [go_sem,F0])
 all_goals (try simp only [go_sem,F0])
 all_goals repeat' (first|apply yA|intro _)
 all_goals (refine Iz false (fun k=>k) (Gj (a0t 2 c x)) [] (fun _ _=>rfl) ?_ ?_ ?_ ((o2q 2 c x).plain fun _ _ h=>h).hands ?_ ?_;(iterate 2 (focus (first|rfl|(simp only [go_sem,F0]<;>first|done|rfl|simp))));(first|kernel_rfl|rfl|simp [l0e,l0f,pls]))
 all_goals try (refine yA ?_ (yA ?_ (yA ?_ ?_))<;>(first|rfl|(simp only [go_sem,F0];done)|(simp [go_sem,look,F0];done)))
 all_goals (try simp only [go_sem,F0])
 all_goals (try simp only [go_sem,F0])
 all_goals repeat' (first|apply yA|intro _)
 refine zhK _ _ ?_ (zhR _ ?_)
 focus (first|trivial|(simp only [go_sem];done)|(simp only [go_sem];simp;done)|(simp only [go_sem];simp;simp only [go_sem]))
 refine Cz 3 24 rfl (by kernel_rfl) rfl rfl fun zR zhR=>?_
 simp only [go_sem,F0]
 repeat' (first|apply yA|intro _)
 refine zhR _ ?_
 refine Gv rfl (zhE _ ?_)
 exact goW
end Go.Sy
namespace Go.Sy
open Go.Proofs
attribute [local irreducible] Cj HT Bv Rj onC onE onO onG goV goA goS Tj Ck
theorem f2e (a b:List PL):pls a++pls b=pls (a++b):=by simp [pls]
theorem l0r (k:Nat) (ts:List Aw):b0a k (Ay ts).flatten (.s k [] ts.length 4)=.pl (.R false 4 (Ay ts)):=by
 simp only [b0a,if_true,pok,psz,Mq,and_self,rd,p0l]
theorem e0f (k:Nat) (a b c:Aw):b0a k (Ay [a,b,c]).flatten (.s k [] 3 4)=.pl (.R false 4 (Ay [a,b,c])):=l0r k [a,b,c]
theorem Vj (k:Nat) (d:List PL) (c:List PL):(pls c).map (b0a k d)=pls c:=by
 simp only [pls,List.map_map];rfl
theorem f0q {k j:Nat} (d:List PL) (p:Path) (n z:Nat) (h:¬j=k):b0a k d (.s j p n z)=.s j p n z:=by
 simp only [b0a,if_neg h]
theorem l0s (k:Nat) (d:List PL) (x:PL):b0a k d (.pl x)=.pl x:=rfl
theorem h0h (a b c:Aw):(Aw.mk 7 0 0 [a,b,c]).cells=[.i 7,.i 0,.i 0,.R false 4 (Ay [a,b,c])]:=by rw [Aw.cells]
theorem Ij :lit (.agg #[.int .i64 0,.int .i64 0,.int .i64 0,.slice none 0 0])=some (.agg [.pl (.i 0),.pl (.i 0),.pl (.i 0),.pl (.R true 1 [])]):=rfl
theorem e1p (c t:Aw) (k:List PL) (hk:k.length=4) (ps:Int):
 CtM Try.prog 37 [.w (.one (.p 500000 [])),Gj t] [(500000,⟨false,Ew c k false ps (.pl (.R true 1 []))⟩)] (Told (fun v m=>v=.tup []∧m=[(500000,⟨false,Ew c k false ps (.s 29 [] 1 4)⟩),(29,⟨true,pls t.cells⟩)])):=by
 have F0:=yA Ij<|yA Dy<|yA Fq<|yA Ez<|yA Ew.eq_1<|hk
 refine CtM.go Try.func37 rfl Try.ntmps37 Try.results37 fun w0 ro may fx zZ zhZ=>?_
 refine (fun zX=>goW) ?_
 refine Zq (id:=3) mixed fun zE zhE=>?_
 refine Aq (p:=0) 7 [22,23,24,25,26,27,28] [0,1,3,7,0,15,0,127,255,511,255,1279,3327] [] rfl (by kernel_rfl) rfl (by simp only [go_sem]) fun zR zK zhR zhK=>?_
 simp only [go_sem,F0]
 repeat' (first|apply yA|intro _)
 refine zhK _ _ trivial (zhR _ ?_)
 refine Cz 1 8 rfl (by kernel_rfl) rfl rfl fun zR zhR=>?_
 simp only [go_sem,F0]
 repeat' (first|apply yA|intro _)
 refine zhR _ ?_
 refine Aq (p:=8) 13 [30,31,32] [0,1,3,7,0,15,0,127,255,511,255,1279,3327] [(1,2),(1,3),(0,4),(1,4)] rfl (by kernel_rfl) rfl (by simp only [go_sem]) fun zR zK zhR zhK=>?_
 simp only [go_sem,F0]
 repeat' (first|apply yA|intro _)
 refine zhK _ _ ?_ (zhR _ ?_)
 focus (first|trivial|(simp only [go_sem];done)|(simp only [go_sem];simp;done)|(simp only [go_sem];simp;simp only [go_sem]))
 refine Gv rfl (zhE _ ?_)
 exact goW
theorem e1o (c t:Aw) (k:List PL) (hk:k.length=4) (ps:Int) (n:Nat) (hn:n≤1000000) (cs:List PL) (hcs:cs.length=n*4):
 CtM Try.prog 37 [.w (.one (.p 500000 [])),Gj t] [(500000,⟨false,Ew c k false ps (.s 750001 [] n 4)⟩),(750001,⟨true,pls cs⟩)] (Told (fun v m=>v=.tup []∧m=[(500000,⟨false,Ew c k false ps (.s 750001 [] (n+1) 4)⟩),(750001,⟨true,pls (cs++t.cells)⟩)])):=by
 have hn1:(n+1)*48≤140737488355328:=by omega
 have hn2:(n+1)*4=n*4+4:=by omega
 have hi0:(0:Int)≤(n:Int):=by omega
 have hi1:(n:Int)<((n+1:Nat):Int):=by omega
 have F0:=yA Ij<|yA Dy<|yA Fq<|yA Ez<|yA Ew.eq_1<|yA hk<|yA hcs<|yA hn1<|yA hn2<|yA hi0<|hi1
 refine CtM.go Try.func37 rfl Try.ntmps37 Try.results37 fun w0 ro may fx zZ zhZ=>?_
 refine (fun zX=>goW) ?_
 refine Zq (id:=3) mixed fun zE zhE=>?_
 refine Aq (p:=0) 7 [22,23,24,25,26,27,28] [0,1,3,7,0,15,0,127,255,511,255,1279,3327] [] rfl (by kernel_rfl) rfl (by simp only [go_sem]) fun zR zK zhR zhK=>?_
 simp only [go_sem,F0]
 repeat' (first|apply yA|intro _)
 refine zhK _ _ trivial (zhR _ ?_)
 refine Cz 1 8 rfl (by kernel_rfl) rfl rfl fun zR zhR=>?_
 simp only [go_sem,F0]
 repeat' (first|apply yA|intro _)
 refine zhR _ ?_
 refine Aq (p:=8) 13 [30,31,32] [0,1,3,7,0,15,0,127,255,511,255,1279,3327] [(1,2),(1,3),(0,4),(1,4)] rfl (by kernel_rfl) rfl (by simp only [go_sem]) fun zR zK zhR zhK=>?_
 simp only [go_sem,F0]
 repeat' (first|apply yA|intro _)
 refine zhK _ _ ?_ (zhR _ ?_)
 focus (first|trivial|(simp only [go_sem];done)|(simp only [go_sem];simp;done)|(simp only [go_sem];simp;simp only [go_sem]))
 refine Gv rfl (zhE _ ?_)
 exact goW
theorem e1n (c t:Aw) (kt:Aw) (ps:Int):
 CtM Try.prog 37 [.w (.one (.p 500000 [])),Gj t] [(500000,⟨false,Ew c kt.cells true ps (.pl (.R true 1 []))⟩)] (Told (fun v m=>v=.tup []∧m=[(500000,⟨false,Ew c kt.cells true ps (.s 29 [] 1 4)⟩),(29,⟨true,pls (f0x kt 100 t).cells⟩)])):=by
 have F0:=yA Ij<|yA Dy<|yA Fq<|yA Ez<|Ew.eq_1
 refine CtM.go Try.func37 rfl Try.ntmps37 Try.results37 fun w0 ro may fx zZ zhY=>?_
 refine (fun zX=>goW) ?_
 refine Zq (id:=2) mixed fun zE zhE=>?_
 refine Aq (p:=0) 12 [8,9,10,11,12,13,14,15,16,17,18,19] [0,1,3,7,0,16,48,112,240,496,1008,0,4095,8191,16383] [] rfl (by kernel_rfl) rfl (by simp only [go_sem]) fun zR zK zhR zhK=>?_
 simp only [go_sem,F0]
 repeat' (first|apply yA|intro _)
 all_goals (refine Iz false (fun k=>k) (Gj (Fv 100)) [] (fun _ _=>rfl) ?_ ?_ ?_ ((n0l 100).plain fun _ _ h=>h).hands ?_ ?_;(iterate 2 (focus (first|rfl|(simp only [go_sem,F0]<;>first|done|rfl|simp))));(first|kernel_rfl|rfl|simp [l0e,l0f,pls]))
 all_goals try (refine yA ?_ (yA ?_ (yA ?_ ?_))<;>(first|rfl|(simp only [go_sem,F0];done)|(simp [go_sem,look,F0];done)))
 all_goals (try simp only [go_sem,F0])
 all_goals (try simp only [go_sem,F0])
 all_goals repeat' (first|apply yA|intro _)
 refine zhK _ _ trivial (zhR _ ?_)
 refine Cz 3 15 rfl (by kernel_rfl) rfl rfl fun zR zhR=>?_
 simp only [go_sem,F0]
 repeat' (first|apply yA|intro _)
 refine zhR _ ?_
 refine Gv rfl (zhE _ ?_)
 refine (fun zX=>goW) ?_
 refine Zq (id:=3) mixed fun zE zhE=>?_
 refine Aq (p:=0) 7 [22,23,24,25,26,27,28] [0,1,3,7,0,15,0,127,255,511,255,1279,3327] [] rfl (by kernel_rfl) rfl (by simp only [go_sem]) fun zR zK zhR zhK=>?_
 simp only [go_sem,F0]
 repeat' (first|apply yA|intro _)
 refine zhK _ _ trivial (zhR _ ?_)
 refine Cz 1 8 rfl (by kernel_rfl) rfl rfl fun zR zhR=>?_
 simp only [go_sem,F0]
 repeat' (first|apply yA|intro _)
 refine zhR _ ?_
 refine Aq (p:=8) 13 [30,31,32] [0,1,3,7,0,15,0,127,255,511,255,1279,3327] [(1,2),(1,3),(0,4),(1,4)] rfl (by kernel_rfl) rfl (by simp only [go_sem]) fun zR zK zhR zhK=>?_
 simp only [go_sem,F0]
 repeat' (first|apply yA|intro _)
 refine zhK _ _ ?_ (zhR _ ?_)
 focus (first|trivial|(simp only [go_sem];done)|(simp only [go_sem];simp;done)|(simp only [go_sem];simp;simp only [go_sem]))
 refine Gv rfl (zhE _ ?_)
 refine zhY _ _ ?_
 simp only [go_sem,F0]
 all_goals (refine b0n 20 (b:=true) (Ay [kt,(Fv 100),t]).flatten (by rw [flat3];simp [look]) (by decide) ?_;refine k1l ⟨rfl,rfl⟩ ?_ ?_<;>simp only [j0s,look,xK,yM,wC,Vj,l0s,e0f,Nat.reduceEqDiff,if_true,if_false,Nat.reduceLT]<;>simp [look,f0q,Vj,f0x,h0h,pls])
theorem e1m (c t:Aw) (kt:Aw) (ps:Int) (n:Nat) (hn:n≤1000000) (cs:List PL) (hcs:cs.length=n*4):
 CtM Try.prog 37 [.w (.one (.p 500000 [])),Gj t] [(500000,⟨false,Ew c kt.cells true ps (.s 750001 [] n 4)⟩),(750001,⟨true,pls cs⟩)] (Told (fun v m=>v=.tup []∧m=[(500000,⟨false,Ew c kt.cells true ps (.s 750001 [] (n+1) 4)⟩),(750001,⟨true,pls (cs++(f0x kt (100+(n:Int)) t).cells)⟩)])):=by
 have hn1:(n+1)*48≤140737488355328:=by omega
 have hn2:(n+1)*4=n*4+4:=by omega
 have hi0:(0:Int)≤(n:Int):=by omega
 have hi1:(n:Int)<((n+1:Nat):Int):=by omega
 have hw:Go.RowKit.wrap64 (100+(n:Int))=100+(n:Int):=w64 (by omega)
 have F0:=yA Ij<|yA Dy<|yA Fq<|yA Ez<|yA Ew.eq_1<|yA hcs<|yA hn1<|yA hn2<|yA hi0<|yA hi1<|hw
 refine CtM.go Try.func37 rfl Try.ntmps37 Try.results37 fun w0 ro may fx zZ zhY=>?_
 refine (fun zX=>goW) ?_
 refine Zq (id:=2) mixed fun zE zhE=>?_
 refine Aq (p:=0) 12 [8,9,10,11,12,13,14,15,16,17,18,19] [0,1,3,7,0,16,48,112,240,496,1008,0,4095,8191,16383] [] rfl (by kernel_rfl) rfl (by simp only [go_sem]) fun zR zK zhR zhK=>?_
 simp only [go_sem,F0]
 repeat' (first|apply yA|intro _)
 all_goals (refine Iz false (fun k=>k) (Gj (Fv (100+(n:Int)))) [] (fun _ _=>rfl) ?_ ?_ ?_ ((n0l (100+(n:Int))).plain fun _ _ h=>h).hands ?_ ?_;(iterate 2 (focus (first|rfl|(simp only [go_sem,F0]<;>first|done|rfl|simp))));(first|kernel_rfl|rfl|simp [l0e,l0f,pls]))
 all_goals try (refine yA ?_ (yA ?_ (yA ?_ ?_))<;>(first|rfl|(simp only [go_sem,F0];done)|(simp [go_sem,look,F0];done)))
 all_goals (try simp only [go_sem,F0])
 all_goals (try simp only [go_sem,F0])
 all_goals repeat' (first|apply yA|intro _)
 refine zhK _ _ trivial (zhR _ ?_)
 refine Cz 3 15 rfl (by kernel_rfl) rfl rfl fun zR zhR=>?_
 simp only [go_sem,F0]
 repeat' (first|apply yA|intro _)
 refine zhR _ ?_
 refine Gv rfl (zhE _ ?_)
 refine (fun zX=>goW) ?_
 refine Zq (id:=3) mixed fun zE zhE=>?_
 refine Aq (p:=0) 7 [22,23,24,25,26,27,28] [0,1,3,7,0,15,0,127,255,511,255,1279,3327] [] rfl (by kernel_rfl) rfl (by simp only [go_sem]) fun zR zK zhR zhK=>?_
 simp only [go_sem,F0]
 repeat' (first|apply yA|intro _)
 refine zhK _ _ trivial (zhR _ ?_)
 refine Cz 1 8 rfl (by kernel_rfl) rfl rfl fun zR zhR=>?_
 simp only [go_sem,F0]
 repeat' (first|apply yA|intro _)
 refine zhR _ ?_
 refine Aq (p:=8) 13 [30,31,32] [0,1,3,7,0,15,0,127,255,511,255,1279,3327] [(1,2),(1,3),(0,4),(1,4)] rfl (by kernel_rfl) rfl (by simp only [go_sem]) fun zR zK zhR zhK=>?_
 simp only [go_sem,F0]
 repeat' (first|apply yA|intro _)
 refine zhK _ _ ?_ (zhR _ ?_)
 focus (first|trivial|(simp only [go_sem];done)|(simp only [go_sem];simp;done)|(simp only [go_sem];simp;simp only [go_sem]))
 refine Gv rfl (zhE _ ?_)
 refine zhY _ _ ?_
 simp only [go_sem,F0]
 all_goals (refine b0n 20 (b:=true) (Ay [kt,(Fv (100+(n:Int))),t]).flatten (by rw [flat3];simp [look]) (by decide) ?_;refine k1l ⟨rfl,rfl⟩ ?_ ?_<;>simp only [j0s,look,xK,yM,wC,Vj,l0s,e0f,Nat.reduceEqDiff,if_true,if_false,Nat.reduceLT]<;>simp [look,f0q,Vj,f0x,h0h,pls])
end Go.Sy
namespace Go.Sy
open Go.Proofs
attribute [local irreducible] Cj HT Bv Rj onC onE onO onG goV goA goS Tj Ck
attribute [go_sem] x1i
theorem Iy (a b c:List L):a++b++c=a++(b++c):=wD a b c
theorem Oz (a:List L):a++[]=a:=xX a
theorem d0d (a b c d:L):List.drop 4 (pls ([]:List (List PL)).flatten++[a,b,c,d])=[]:=rfl
theorem Kw (f:Nat→Nat) (c:List PL):(pls c).map (L.ren f)=pls c:=by simp only [pls,List.map_map];rfl
theorem v1m (c:Aw) (w:Int) (hw:0≤w∧w≤1) (k:List PL) (hk:k.length=4) (has:Bool) (ps:Int):
 CtM Try.prog 36 [.w (.one (.p 500000 [])),.w (.one (.pl (.i w))),.w (.one (.pl (.i 1))),.w (.one (.pl (.b false)))] [(500000,⟨false,Ew c k has ps (.pl (.R true 1 []))⟩)] (Told (fun v m=>v=.tup []∧m=[(500000,⟨false,Ew c k has ps (.s 20 [] 1 4)⟩),(20,⟨true,pls (Mv (3+w)).cells⟩)])):=by
 have hw3:Go.RowKit.wrap64 (3+w)=3+w:=w64 (by omega)
 have hl:(Mv (3+w)).cells.length=1*4:=by rw [Dy]
 have F0:=yA Iy<|yA d0d<|yA Kw<|yA Cv<|yA Dz<|yA Dj<|yA Gw<|yA Oz<|yA Ij<|yA Dy<|yA Fq<|yA Ez<|yA Ew.eq_1<|yA hk<|hw3
 refine CtM.go Try.func36 rfl Try.ntmps36 Try.results36 fun w0 ro may fx zZ zhZ=>?_
 refine (fun zX=>goW) ?_
 refine Zq (id:=2) mixed fun zE zhE=>?_
 refine Aq (p:=0) 9 [11,12,13,14,15,16,17,18,19] [0,1,3,7,0,16,48,15,0,511,1023,2047,1023,5119,13311] [] rfl (by kernel_rfl) rfl (by simp only [go_sem]) fun zR zK zhR zhK=>?_
 simp only [go_sem,F0]
 repeat' (first|apply yA|intro _)
 all_goals (refine Iz false (fun k=>k) (Gj (Mv (3+w))) [] (fun _ _=>rfl) ?_ ?_ ?_ ((a1o (3+w)).plain fun _ _ h=>h).hands ?_ ?_;(iterate 2 (focus (first|rfl|(simp only [go_sem,F0]<;>first|done|rfl|simp))));(first|kernel_rfl|rfl|simp [l0e,l0f,pls]))
 all_goals try (refine yA ?_ (yA ?_ (yA ?_ ?_))<;>(first|rfl|(simp only [go_sem,F0];done)|(simp [go_sem,look,F0];done)))
 all_goals (try simp only [go_sem,F0])
 all_goals (try simp only [go_sem,F0])
 all_goals repeat' (first|apply yA|intro _)
 refine zhK _ _ trivial (zhR _ ?_)
 refine Cz 1 10 rfl (by kernel_rfl) rfl rfl fun zR zhR=>?_
 simp only [go_sem,F0]
 repeat' (first|apply yA|intro _)
 refine zhR _ ?_
 refine Aq (p:=10) 15 [21,22,23] [0,1,3,7,0,16,48,15,0,511,1023,2047,1023,5119,13311] [(1,2),(1,3),(0,4),(1,4)] rfl (by kernel_rfl) rfl (by simp only [go_sem]) fun zR zK zhR zhK=>?_
 simp only [go_sem,F0]
 repeat' (first|apply yA|intro _)
 refine zhK _ _ ?_ (zhR _ ?_)
 focus (first|trivial|(simp only [go_sem];done)|(simp only [go_sem];simp;done)|(simp only [go_sem];simp;simp only [go_sem]))
 refine Gv rfl (zhE _ ?_)
 exact goW
theorem v1l (c:Aw) (w:Int) (hw:0≤w∧w≤1) (k:List PL) (hk:k.length=4) (has:Bool) (ps:Int):
 CtM Try.prog 36 [.w (.one (.p 500000 [])),.w (.one (.pl (.i w))),.w (.one (.pl (.i 1))),.w (.one (.pl (.b true)))] [(500000,⟨false,Ew c k has ps (.pl (.R true 1 []))⟩)] (Told (fun v m=>v=.tup []∧m=[(500000,⟨false,Ew (a0t 1 c (Mv (3+w))) (a0t 2 c (Mv (3+w))).cells true ps (.s 20 [] 1 4)⟩),(20,⟨true,pls (Mv (3+w)).cells⟩)])):=by
 have hw3:Go.RowKit.wrap64 (3+w)=3+w:=w64 (by omega)
 have hl:(Mv (3+w)).cells.length=1*4:=by rw [Dy]
 have F0:=yA Iy<|yA d0d<|yA Kw<|yA Cv<|yA Dz<|yA Dj<|yA Gw<|yA Oz<|yA Ij<|yA Dy<|yA Fq<|yA Ez<|yA Ew.eq_1<|yA hk<|hw3
 refine CtM.go Try.func36 rfl Try.ntmps36 Try.results36 fun w0 ro may fx zZ zhZ=>?_
 refine (fun zX=>goW) ?_
 refine Zq (id:=2) mixed fun zE zhE=>?_
 refine Aq (p:=0) 9 [11,12,13,14,15,16,17,18,19] [0,1,3,7,0,16,48,15,0,511,1023,2047,1023,5119,13311] [] rfl (by kernel_rfl) rfl (by simp only [go_sem]) fun zR zK zhR zhK=>?_
 simp only [go_sem,F0]
 repeat' (first|apply yA|intro _)
 all_goals (refine Iz false (fun k=>k) (Gj (Mv (3+w))) [] (fun _ _=>rfl) ?_ ?_ ?_ ((a1o (3+w)).plain fun _ _ h=>h).hands ?_ ?_;(iterate 2 (focus (first|rfl|(simp only [go_sem,F0]<;>first|done|rfl|simp))));(first|kernel_rfl|rfl|simp [l0e,l0f,pls]))
 all_goals try (refine yA ?_ (yA ?_ (yA ?_ ?_))<;>(first|rfl|(simp only [go_sem,F0];done)|(simp [go_sem,look,F0];done)))
 all_goals (try simp only [go_sem,F0])
 all_goals (try simp only [go_sem,F0])
 all_goals repeat' (first|apply yA|intro _)
 refine zhK _ _ trivial (zhR _ ?_)
 refine Cz 1 10 rfl (by kernel_rfl) rfl rfl fun zR zhR=>?_
 simp only [go_sem,F0]
 repeat' (first|apply yA|intro _)
 refine zhR _ ?_
 refine Aq (p:=10) 15 [21,22,23] [0,1,3,7,0,16,48,15,0,511,1023,2047,1023,5119,13311] [(1,2),(1,3),(0,4),(1,4)] rfl (by kernel_rfl) rfl (by simp only [go_sem]) fun zR zK zhR zhK=>?_
 simp only [go_sem,F0]
 repeat' (first|apply yA|intro _)
 refine zhK _ _ ?_ (zhR _ ?_)
 focus (first|trivial|(simp only [go_sem];done)|(simp only [go_sem];simp;done)|(simp only [go_sem];simp;simp only [go_sem]))
 refine Gv rfl (zhE _ ?_)
 have zS:ZS 4:=⟨⟩
 refine (fun zX=>goW) ?_
 refine ⟨?_⟩;clear zS
 refine Jv fun zK zhK=>?_
 simp only [go_sem,F0]
 repeat' (first|apply yA|intro _)
 all_goals (refine Iq false [] (fun k=>k) (fun _ _=>rfl) ?_ (by decide) ?_ ((a1o (3+w)).plain fun _ _ h=>h).hands ?_;iterate 2 (focus (first|rfl|(simp only [go_sem,F0]<;>first|done|rfl|simp))))
 all_goals (rintro v m ⟨hR,hm⟩;subst hR;subst hm)
 all_goals (refine yA ?_ (yA ?_ (yA ?_ ?_));iterate 3 (focus (first|rfl|(simp only [go_sem,F0];done)|(simp [go_sem,look,F0];done))))
 all_goals (try simp only [go_sem,F0])
 all_goals (try simp only [go_sem,F0])
 all_goals repeat' (first|apply yA|intro _)
 all_goals (refine Iq false [(500000,500000),(500001,20)] (fun k=>k) (fun _ _=>rfl) ?_ (by decide) ?_ (q0k c (Mv (3+w)) k hk has ps 1 (Mv (3+w)).cells hl).told ?_;iterate 2 (focus (first|rfl|(simp only [go_sem,F0]<;>first|done|rfl|simp))))
 all_goals (rintro v m ⟨hR,hm⟩;subst hR;subst hm)
 all_goals (refine yA ?_ (yA ?_ (yA ?_ ?_));iterate 3 (focus (first|rfl|(simp only [go_sem,F0];done)|(simp [go_sem,look,F0];done))))
 all_goals (try simp only [go_sem,F0])
 all_goals (try simp only [go_sem,F0])
 all_goals repeat' (first|apply yA|intro _)
 refine zhK _ ?_
 exact goW
theorem v1k (c:Aw) (w:Int) (hw:0≤w∧w≤1) (k:List PL) (hk:k.length=4) (has:Bool) (ps:Int) (n:Nat) (hn:n≤1000000) (cs:List PL) (hcs:cs.length=n*4):
 CtM Try.prog 36 [.w (.one (.p 500000 [])),.w (.one (.pl (.i w))),.w (.one (.pl (.i 1))),.w (.one (.pl (.b false)))] [(500000,⟨false,Ew c k has ps (.s 750001 [] n 4)⟩),(750001,⟨true,pls cs⟩)] (Told (fun v m=>v=.tup []∧m=[(500000,⟨false,Ew c k has ps (.s 750001 [] (n+1) 4)⟩),(750001,⟨true,pls (cs++(Mv (3+w)).cells)⟩)])):=by
 have hn1:(n+1)*48≤140737488355328:=by omega
 have hn2:(n+1)*4=n*4+4:=by omega
 have hi0:(0:Int)≤(n:Int):=by omega
 have hi1:(n:Int)<((n+1:Nat):Int):=by omega
 have hw3:Go.RowKit.wrap64 (3+w)=3+w:=w64 (by omega)
 have hl:(cs++(Mv (3+w)).cells).length=(n+1)*4:=by rw [yL,hcs,Dy];omega
 have F0:=yA Iy<|yA d0d<|yA Kw<|yA Cv<|yA Dz<|yA Dj<|yA Gw<|yA Oz<|yA Ij<|yA Dy<|yA Fq<|yA Ez<|yA Ew.eq_1<|yA hk<|yA hcs<|yA hn1<|yA hn2<|yA hi0<|yA hi1<|hw3
 refine CtM.go Try.func36 rfl Try.ntmps36 Try.results36 fun w0 ro may fx zZ zhZ=>?_
 refine (fun zX=>goW) ?_
 refine Zq (id:=2) mixed fun zE zhE=>?_
 refine Aq (p:=0) 9 [11,12,13,14,15,16,17,18,19] [0,1,3,7,0,16,48,15,0,511,1023,2047,1023,5119,13311] [] rfl (by kernel_rfl) rfl (by simp only [go_sem]) fun zR zK zhR zhK=>?_
 simp only [go_sem,F0]
 repeat' (first|apply yA|intro _)
 all_goals (refine Iz false (fun k=>k) (Gj (Mv (3+w))) [] (fun _ _=>rfl) ?_ ?_ ?_ ((a1o (3+w)).plain fun _ _ h=>h).hands ?_ ?_;(iterate 2 (focus (first|rfl|(simp only [go_sem,F0]<;>first|done|rfl|simp))));(first|kernel_rfl|rfl|simp [l0e,l0f,pls]))
 all_goals try (refine yA ?_ (yA ?_ (yA ?_ ?_))<;>(first|rfl|(simp only [go_sem,F0];done)|(simp [go_sem,look,F0];done)))
 all_goals (try simp only [go_sem,F0])
 all_goals (try simp only [go_sem,F0])
 all_goals repeat' (first|apply yA|intro _)
 refine zhK _ _ trivial (zhR _ ?_)
 refine Cz 1 10 rfl (by kernel_rfl) rfl rfl fun zR zhR=>?_
 simp only [go_sem,F0]
 repeat' (first|apply yA|intro _)
 refine zhR _ ?_
 refine Aq (p:=10) 15 [21,22,23] [0,1,3,7,0,16,48,15,0,511,1023,2047,1023,5119,13311] [(1,2),(1,3),(0,4),(1,4)] rfl (by kernel_rfl) rfl (by simp only [go_sem]) fun zR zK zhR zhK=>?_
 simp only [go_sem,F0]
 repeat' (first|apply yA|intro _)
 refine zhK _ _ ?_ (zhR _ ?_)
 focus (first|trivial|(simp only [go_sem];done)|(simp only [go_sem];simp;done)|(simp only [go_sem];simp;simp only [go_sem]))
 refine Gv rfl (zhE _ ?_)
 exact goW
theorem v1j (c:Aw) (w:Int) (hw:0≤w∧w≤1) (k:List PL) (hk:k.length=4) (has:Bool) (ps:Int) (n:Nat) (hn:n≤1000000) (cs:List PL) (hcs:cs.length=n*4):
 CtM Try.prog 36 [.w (.one (.p 500000 [])),.w (.one (.pl (.i w))),.w (.one (.pl (.i 1))),.w (.one (.pl (.b true)))] [(500000,⟨false,Ew c k has ps (.s 750001 [] n 4)⟩),(750001,⟨true,pls cs⟩)] (Told (fun v m=>v=.tup []∧m=[(500000,⟨false,Ew (a0t 1 c (Mv (3+w))) (a0t 2 c (Mv (3+w))).cells true ps (.s 750001 [] (n+1) 4)⟩),(750001,⟨true,pls (cs++(Mv (3+w)).cells)⟩)])):=by
 have hn1:(n+1)*48≤140737488355328:=by omega
 have hn2:(n+1)*4=n*4+4:=by omega
 have hi0:(0:Int)≤(n:Int):=by omega
 have hi1:(n:Int)<((n+1:Nat):Int):=by omega
 have hw3:Go.RowKit.wrap64 (3+w)=3+w:=w64 (by omega)
 have hl:(cs++(Mv (3+w)).cells).length=(n+1)*4:=by rw [yL,hcs,Dy];omega
 have F0:=yA Iy<|yA d0d<|yA Kw<|yA Cv<|yA Dz<|yA Dj<|yA Gw<|yA Oz<|yA Ij<|yA Dy<|yA Fq<|yA Ez<|yA Ew.eq_1<|yA hk<|yA hcs<|yA hn1<|yA hn2<|yA hi0<|yA hi1<|hw3
 refine CtM.go Try.func36 rfl Try.ntmps36 Try.results36 fun w0 ro may fx zZ zhZ=>?_
 refine (fun zX=>goW) ?_
 refine Zq (id:=2) mixed fun zE zhE=>?_
 refine Aq (p:=0) 9 [11,12,13,14,15,16,17,18,19] [0,1,3,7,0,16,48,15,0,511,1023,2047,1023,5119,13311] [] rfl (by kernel_rfl) rfl (by simp only [go_sem]) fun zR zK zhR zhK=>?_
 simp only [go_sem,F0]
 repeat' (first|apply yA|intro _)
 all_goals (refine Iz false (fun k=>k) (Gj (Mv (3+w))) [] (fun _ _=>rfl) ?_ ?_ ?_ ((a1o (3+w)).plain fun _ _ h=>h).hands ?_ ?_;(iterate 2 (focus (first|rfl|(simp only [go_sem,F0]<;>first|done|rfl|simp))));(first|kernel_rfl|rfl|simp [l0e,l0f,pls]))
 all_goals try (refine yA ?_ (yA ?_ (yA ?_ ?_))<;>(first|rfl|(simp only [go_sem,F0];done)|(simp [go_sem,look,F0];done)))
 all_goals (try simp only [go_sem,F0])
 all_goals (try simp only [go_sem,F0])
 all_goals repeat' (first|apply yA|intro _)
 refine zhK _ _ trivial (zhR _ ?_)
 refine Cz 1 10 rfl (by kernel_rfl) rfl rfl fun zR zhR=>?_
 simp only [go_sem,F0]
 repeat' (first|apply yA|intro _)
 refine zhR _ ?_
 refine Aq (p:=10) 15 [21,22,23] [0,1,3,7,0,16,48,15,0,511,1023,2047,1023,5119,13311] [(1,2),(1,3),(0,4),(1,4)] rfl (by kernel_rfl) rfl (by simp only [go_sem]) fun zR zK zhR zhK=>?_
 simp only [go_sem,F0]
 repeat' (first|apply yA|intro _)
 refine zhK _ _ ?_ (zhR _ ?_)
 focus (first|trivial|(simp only [go_sem];done)|(simp only [go_sem];simp;done)|(simp only [go_sem];simp;simp only [go_sem]))
 refine Gv rfl (zhE _ ?_)
 have zS:ZS 4:=⟨⟩
 refine (fun zX=>goW) ?_
 refine ⟨?_⟩;clear zS
 refine Jv fun zK zhK=>?_
 simp only [go_sem,F0]
 repeat' (first|apply yA|intro _)
 all_goals (refine Iq false [] (fun k=>k) (fun _ _=>rfl) ?_ (by decide) ?_ ((a1o (3+w)).plain fun _ _ h=>h).hands ?_;iterate 2 (focus (first|rfl|(simp only [go_sem,F0]<;>first|done|rfl|simp))))
 all_goals (rintro v m ⟨hR,hm⟩;subst hR;subst hm)
 all_goals (refine yA ?_ (yA ?_ (yA ?_ ?_));iterate 3 (focus (first|rfl|(simp only [go_sem,F0];done)|(simp [go_sem,look,F0];done))))
 all_goals (try simp only [go_sem,F0])
 all_goals (try simp only [go_sem,F0])
 all_goals repeat' (first|apply yA|intro _)
 all_goals (refine Iq false [(500000,500000),(500001,750001)] (fun k=>k) (fun _ _=>rfl) ?_ (by decide) ?_ (q0k c (Mv (3+w)) k hk has ps (n+1) (cs++(Mv (3+w)).cells) hl).told ?_;iterate 2 (focus (first|rfl|(simp only [go_sem,F0]<;>first|done|rfl|simp))))
 all_goals (rintro v m ⟨hR,hm⟩;subst hR;subst hm)
 all_goals (refine yA ?_ (yA ?_ (yA ?_ ?_));iterate 3 (focus (first|rfl|(simp only [go_sem,F0];done)|(simp [go_sem,look,F0];done))))
 all_goals (try simp only [go_sem,F0])
 all_goals (try simp only [go_sem,F0])
 all_goals repeat' (first|apply yA|intro _)
 refine zhK _ ?_
 exact goW
end Go.Sy
namespace Go.Sy
open Go.Proofs
attribute [local irreducible] Cj HT Bv Rj onC onE onO onG goV goA goS Tj Ck
theorem v1i (c:Aw) (w:Int) (pk:Bool) (hw:0≤w∧w≤1) (k:List PL) (hk:k.length=4) (ps:Int):
 CtM Try.prog 36 [.w (.one (.p 500000 [])),.w (.one (.pl (.i w))),.w (.one (.pl (.i 2))),.w (.one (.pl (.b pk)))] [(500000,⟨false,Ew c k false ps (.pl (.R true 1 []))⟩)] (Told (fun v m=>v=.tup []∧m=[(500000,⟨false,Ew c k false ps (.s 20 [] 1 4)⟩),(20,⟨true,pls (Mv (1+w)).cells⟩)])):=by
 have hw1:Go.RowKit.wrap64 (1+w)=1+w:=w64 (by omega)
 have F0:=yA Iy<|yA d0d<|yA Kw<|yA Cv<|yA Dz<|yA Dj<|yA Gw<|yA Oz<|yA Ij<|yA Dy<|yA Fq<|yA Ez<|yA Ew.eq_1<|yA hk<|hw1
 refine CtM.go Try.func36 rfl Try.ntmps36 Try.results36 fun w0 ro may fx zZ zhZ=>?_
 have zS:ZS 6:=⟨⟩
 refine (fun zX=>goW) ?_
 refine ⟨?_⟩;clear zS
 refine Jv fun zK zhK=>?_
 simp only [go_sem,F0]
 repeat' (first|apply yA|intro _)
 all_goals (refine Iq false [] (fun k=>k) (fun _ _=>rfl) ?_ (by decide) ?_ ((a1o (1+w)).plain fun _ _ h=>h).hands ?_;iterate 2 (focus (first|rfl|(simp only [go_sem,F0]<;>first|done|rfl|simp))))
 all_goals (rintro v m ⟨hR,hm⟩;subst hR;subst hm)
 all_goals (refine yA ?_ (yA ?_ (yA ?_ ?_));iterate 3 (focus (first|rfl|(simp only [go_sem,F0];done)|(simp [go_sem,look,F0];done))))
 all_goals (try simp only [go_sem,F0])
 all_goals (try simp only [go_sem,F0])
 all_goals repeat' (first|apply yA|intro _)
 all_goals (refine Iq false [(500000,500000)] (fun k=>if k=29 then 20 else k+1000) (fun _ _=>rfl) ?_ (by decide) ?_ (e1p c (Mv (1+w)) k hk ps).told ?_;iterate 2 (focus (first|rfl|(simp only [go_sem,F0]<;>first|done|rfl|simp))))
 all_goals (rintro v m ⟨hR,hm⟩;subst hR;subst hm)
 all_goals (refine yA ?_ (yA ?_ (yA ?_ ?_));iterate 3 (focus (first|rfl|(simp only [go_sem,F0];done)|(simp [go_sem,look,F0];done))))
 all_goals (try simp only [go_sem,F0])
 all_goals (try simp only [go_sem,F0])
 all_goals repeat' (first|apply yA|intro _)
 refine zhK _ ?_
 exact goW
theorem v1h (c:Aw) (w:Int) (pk:Bool) (hw:0≤w∧w≤1) (kt:Aw) (ps:Int):
 CtM Try.prog 36 [.w (.one (.p 500000 [])),.w (.one (.pl (.i w))),.w (.one (.pl (.i 2))),.w (.one (.pl (.b pk)))] [(500000,⟨false,Ew c kt.cells true ps (.pl (.R true 1 []))⟩)] (Told (fun v m=>v=.tup []∧m=[(500000,⟨false,Ew c kt.cells true ps (.s 20 [] 1 4)⟩),(20,⟨true,pls (f0x kt 100 (Mv (1+w))).cells⟩)])):=by
 have hw1:Go.RowKit.wrap64 (1+w)=1+w:=w64 (by omega)
 have F0:=yA Iy<|yA d0d<|yA Kw<|yA Cv<|yA Dz<|yA Dj<|yA Gw<|yA Oz<|yA Ij<|yA Dy<|yA Fq<|yA Ez<|yA Ew.eq_1<|hw1
 refine CtM.go Try.func36 rfl Try.ntmps36 Try.results36 fun w0 ro may fx zZ zhZ=>?_
 have zS:ZS 6:=⟨⟩
 refine (fun zX=>goW) ?_
 refine ⟨?_⟩;clear zS
 refine Jv fun zK zhK=>?_
 simp only [go_sem,F0]
 repeat' (first|apply yA|intro _)
 all_goals (refine Iq false [] (fun k=>k) (fun _ _=>rfl) ?_ (by decide) ?_ ((a1o (1+w)).plain fun _ _ h=>h).hands ?_;iterate 2 (focus (first|rfl|(simp only [go_sem,F0]<;>first|done|rfl|simp))))
 all_goals (rintro v m ⟨hR,hm⟩;subst hR;subst hm)
 all_goals (refine yA ?_ (yA ?_ (yA ?_ ?_));iterate 3 (focus (first|rfl|(simp only [go_sem,F0];done)|(simp [go_sem,look,F0];done))))
 all_goals (try simp only [go_sem,F0])
 all_goals (try simp only [go_sem,F0])
 all_goals repeat' (first|apply yA|intro _)
 all_goals (refine Iq false [(500000,500000)] (fun k=>if k=29 then 20 else k+1000) (fun _ _=>rfl) ?_ (by decide) ?_ (e1n c (Mv (1+w)) kt ps).told ?_;iterate 2 (focus (first|rfl|(simp only [go_sem,F0]<;>first|done|rfl|simp))))
 all_goals (rintro v m ⟨hR,hm⟩;subst hR;subst hm)
 all_goals (refine yA ?_ (yA ?_ (yA ?_ ?_));iterate 3 (focus (first|rfl|(simp only [go_sem,F0];done)|(simp [go_sem,look,F0];done))))
 all_goals (try simp only [go_sem,F0])
 all_goals (try simp only [go_sem,F0])
 all_goals repeat' (first|apply yA|intro _)
 refine zhK _ ?_
 exact goW
theorem d2t (c:Aw) (w:Int) (pk:Bool) (k:List PL) (hk:k.length=4) (has:Bool) (ps:Int):
 CtM Try.prog 36 [.w (.one (.p 500000 [])),.w (.one (.pl (.i w))),.w (.one (.pl (.i 3))),.w (.one (.pl (.b pk)))] [(500000,⟨false,Ew c k has ps (.pl (.R true 1 []))⟩)] (Told (fun v m=>v=.tup []∧m=[(500000,⟨false,Ew (a0t 1 c (dhT 3 4)) (a0t 2 c (dhT 3 4)).cells true ps (.pl (.R true 1 []))⟩)])):=by
 have F0:=yA Iy<|yA d0d<|yA Kw<|yA Cv<|yA Dz<|yA Dj<|yA Gw<|yA Oz<|yA Ij<|yA Dy<|yA Fq<|yA Ez<|yA Ew.eq_1<|hk
 have cq:=yA (CtM.ch [] ((n2p.plain fun _ _ h=>h).hands))<|yA (CtM.ch [(500000,500000)] ((q0l c (dhT 3 4) k hk has ps).told))<|trivial
 exact CtM.go Try.func36 rfl Try.ntmps36 Try.results36
theorem d2r (c:Aw) (w:Int) (pk:Bool) (k:List PL) (hk:k.length=4) (has:Bool) (ps:Int):
 CtM Try.prog 36 [.w (.one (.p 500000 [])),.w (.one (.pl (.i w))),.w (.one (.pl (.i 4))),.w (.one (.pl (.b pk)))] [(500000,⟨false,Ew c k has ps (.pl (.R true 1 []))⟩)] (Told (fun v m=>v=.tup []∧m=[(500000,⟨false,Ew (a0t 1 c (dhT 2 3)) (a0t 2 c (dhT 2 3)).cells true ps (.pl (.R true 1 []))⟩)])):=by
 have F0:=yA Iy<|yA d0d<|yA Kw<|yA Cv<|yA Dz<|yA Dj<|yA Gw<|yA Oz<|yA Ij<|yA Dy<|yA Fq<|yA Ez<|yA Ew.eq_1<|hk
 have cq:=yA (CtM.ch [] ((n2r.plain fun _ _ h=>h).hands))<|yA (CtM.ch [(500000,500000)] ((q0l c (dhT 2 3) k hk has ps).told))<|trivial
 exact CtM.go Try.func36 rfl Try.ntmps36 Try.results36
theorem d2p (c:Aw) (w:Int) (pk:Bool) (k:List PL) (hk:k.length=4) (has:Bool) (ps:Int):
 CtM Try.prog 36 [.w (.one (.p 500000 [])),.w (.one (.pl (.i w))),.w (.one (.pl (.i 5))),.w (.one (.pl (.b pk)))] [(500000,⟨false,Ew c k has ps (.pl (.R true 1 []))⟩)] (Told (fun v m=>v=.tup []∧m=[(500000,⟨false,Ew (a0t 1 c (dhT 1 4)) (a0t 2 c (dhT 1 4)).cells true ps (.pl (.R true 1 []))⟩)])):=by
 have F0:=yA Iy<|yA d0d<|yA Kw<|yA Cv<|yA Dz<|yA Dj<|yA Gw<|yA Oz<|yA Ij<|yA Dy<|yA Fq<|yA Ez<|yA Ew.eq_1<|hk
 have cq:=yA (CtM.ch [] ((n2t.plain fun _ _ h=>h).hands))<|yA (CtM.ch [(500000,500000)] ((q0l c (dhT 1 4) k hk has ps).told))<|trivial
 exact CtM.go Try.func36 rfl Try.ntmps36 Try.results36
theorem d2n (c:Aw) (w:Int) (pk:Bool) (k:List PL) (hk:k.length=4) (has:Bool) (ps:Int):
 CtM Try.prog 36 [.w (.one (.p 500000 [])),.w (.one (.pl (.i w))),.w (.one (.pl (.i 6))),.w (.one (.pl (.b pk)))] [(500000,⟨false,Ew c k has ps (.pl (.R true 1 []))⟩)] (Told (fun v m=>v=.tup []∧m=[(500000,⟨false,Ew (a0t 1 c (dhT 1 2)) (a0t 2 c (dhT 1 2)).cells true ps (.pl (.R true 1 []))⟩)])):=by
 have F0:=yA Iy<|yA d0d<|yA Kw<|yA Cv<|yA Dz<|yA Dj<|yA Gw<|yA Oz<|yA Ij<|yA Dy<|yA Fq<|yA Ez<|yA Ew.eq_1<|hk
 have cq:=yA (CtM.ch [] ((n2v.plain fun _ _ h=>h).hands))<|yA (CtM.ch [(500000,500000)] ((q0l c (dhT 1 2) k hk has ps).told))<|trivial
 exact CtM.go Try.func36 rfl Try.ntmps36 Try.results36
theorem d2l (c:Aw) (w:Int) (pk:Bool) (k:List PL) (hk:k.length=4) (has:Bool) (ps:Int) (hps:0≤ps∧ps≤1000):
 CtM Try.prog 36 [.w (.one (.p 500000 [])),.w (.one (.pl (.i w))),.w (.one (.pl (.i 7))),.w (.one (.pl (.b pk)))] [(500000,⟨false,Ew c k has ps (.pl (.R true 1 []))⟩)] (Told (fun v m=>v=.tup []∧m=[(500000,⟨false,Ew (a0t 1 c (Fv (10+ps))) (a0t 2 c (Fv (10+ps))).cells true (ps+1) (.pl (.R true 1 []))⟩)])):=by
 have hp1:Go.RowKit.wrap64 (10+ps)=10+ps:=w64 (by omega)
 have hp2:Go.RowKit.wrap64 (ps+1)=ps+1:=w64 (by omega)
 have F0:=yA Iy<|yA d0d<|yA Kw<|yA Cv<|yA Dz<|yA Dj<|yA Gw<|yA Oz<|yA Ij<|yA Dy<|yA Fq<|yA Ez<|yA Ew.eq_1<|yA hk<|yA hp1<|hp2
 have cq:=yA (CtM.ch [] (((n0l (10+ps)).plain fun _ _ h=>h).hands))<|yA (CtM.ch [(500000,500000)] ((q0l c (Fv (10+ps)) k hk has ps).told))<|trivial
 exact CtM.go Try.func36 rfl Try.ntmps36 Try.results36
theorem v1g (c:Aw) (w:Int) (pk:Bool) (hw:0≤w∧w≤1) (k:List PL) (hk:k.length=4) (ps:Int) (n:Nat) (hn:n≤1000000) (cs:List PL) (hcs:cs.length=n*4):
 CtM Try.prog 36 [.w (.one (.p 500000 [])),.w (.one (.pl (.i w))),.w (.one (.pl (.i 2))),.w (.one (.pl (.b pk)))] [(500000,⟨false,Ew c k false ps (.s 750001 [] n 4)⟩),(750001,⟨true,pls cs⟩)] (Told (fun v m=>v=.tup []∧m=[(500000,⟨false,Ew c k false ps (.s 750001 [] (n+1) 4)⟩),(750001,⟨true,pls (cs++(Mv (1+w)).cells)⟩)])):=by
 have hn1:(n+1)*48≤140737488355328:=by omega
 have hn2:(n+1)*4=n*4+4:=by omega
 have hi0:(0:Int)≤(n:Int):=by omega
 have hi1:(n:Int)<((n+1:Nat):Int):=by omega
 have hw1:Go.RowKit.wrap64 (1+w)=1+w:=w64 (by omega)
 have F0:=yA Iy<|yA d0d<|yA Kw<|yA Cv<|yA Dz<|yA Dj<|yA Gw<|yA Oz<|yA Ij<|yA Dy<|yA Fq<|yA Ez<|yA Ew.eq_1<|yA hk<|yA hcs<|yA hn1<|yA hn2<|yA hi0<|yA hi1<|hw1
 refine CtM.go Try.func36 rfl Try.ntmps36 Try.results36 fun w0 ro may fx zZ zhZ=>?_
 have zS:ZS 6:=⟨⟩
 refine (fun zX=>goW) ?_
 refine ⟨?_⟩;clear zS
 refine Jv fun zK zhK=>?_
 simp only [go_sem,F0]
 repeat' (first|apply yA|intro _)
 all_goals (refine Iq false [] (fun k=>k) (fun _ _=>rfl) ?_ (by decide) ?_ ((a1o (1+w)).plain fun _ _ h=>h).hands ?_;iterate 2 (focus (first|rfl|(simp only [go_sem,F0]<;>first|done|rfl|simp))))
 all_goals (rintro v m ⟨hR,hm⟩;subst hR;subst hm)
 all_goals (refine yA ?_ (yA ?_ (yA ?_ ?_));iterate 3 (focus (first|rfl|(simp only [go_sem,F0];done)|(simp [go_sem,look,F0];done))))
 all_goals (try simp only [go_sem,F0])
 all_goals (try simp only [go_sem,F0])
 all_goals repeat' (first|apply yA|intro _)
 all_goals (refine b0j false [(500000,500000),(750001,750001)] (fun k=>k) (fun _ _=>rfl) ?_ (by decide) ?_ ?_ (e1o c (Mv (1+w)) k hk ps n hn cs hcs).told ?_;iterate 3 (focus (first|rfl|(simp only [go_sem,F0]<;>first|done|rfl|simp))))
 all_goals (rintro v m ⟨hR,hm⟩;subst hR;subst hm)
 all_goals (refine yA ?_ (yA ?_ (yA ?_ ?_));iterate 3 (focus (first|rfl|(simp only [go_sem,F0];done)|(simp [go_sem,look,F0];done))))
 all_goals (try simp only [go_sem,F0])
 all_goals (try simp only [go_sem,F0])
 all_goals repeat' (first|apply yA|intro _)
 refine zhK _ ?_
 exact goW
theorem v1f (c:Aw) (w:Int) (pk:Bool) (hw:0≤w∧w≤1) (kt:Aw) (ps:Int) (n:Nat) (hn:n≤1000000) (cs:List PL) (hcs:cs.length=n*4):
 CtM Try.prog 36 [.w (.one (.p 500000 [])),.w (.one (.pl (.i w))),.w (.one (.pl (.i 2))),.w (.one (.pl (.b pk)))] [(500000,⟨false,Ew c kt.cells true ps (.s 750001 [] n 4)⟩),(750001,⟨true,pls cs⟩)] (Told (fun v m=>v=.tup []∧m=[(500000,⟨false,Ew c kt.cells true ps (.s 750001 [] (n+1) 4)⟩),(750001,⟨true,pls (cs++(f0x kt (100+(n:Int)) (Mv (1+w))).cells)⟩)])):=by
 have hn1:(n+1)*48≤140737488355328:=by omega
 have hn2:(n+1)*4=n*4+4:=by omega
 have hi0:(0:Int)≤(n:Int):=by omega
 have hi1:(n:Int)<((n+1:Nat):Int):=by omega
 have hw1:Go.RowKit.wrap64 (1+w)=1+w:=w64 (by omega)
 have F0:=yA Iy<|yA d0d<|yA Kw<|yA Cv<|yA Dz<|yA Dj<|yA Gw<|yA Oz<|yA Ij<|yA Dy<|yA Fq<|yA Ez<|yA Ew.eq_1<|yA hcs<|yA hn1<|yA hn2<|yA hi0<|yA hi1<|hw1
 refine CtM.go Try.func36 rfl Try.ntmps36 Try.results36 fun w0 ro may fx zZ zhZ=>?_
 have zS:ZS 6:=⟨⟩
 refine (fun zX=>goW) ?_
 refine ⟨?_⟩;clear zS
 refine Jv fun zK zhK=>?_
 simp only [go_sem,F0]
 repeat' (first|apply yA|intro _)
 all_goals (refine Iq false [] (fun k=>k) (fun _ _=>rfl) ?_ (by decide) ?_ ((a1o (1+w)).plain fun _ _ h=>h).hands ?_;iterate 2 (focus (first|rfl|(simp only [go_sem,F0]<;>first|done|rfl|simp))))
 all_goals (rintro v m ⟨hR,hm⟩;subst hR;subst hm)
 all_goals (refine yA ?_ (yA ?_ (yA ?_ ?_));iterate 3 (focus (first|rfl|(simp only [go_sem,F0];done)|(simp [go_sem,look,F0];done))))
 all_goals (try simp only [go_sem,F0])
 all_goals (try simp only [go_sem,F0])
 all_goals repeat' (first|apply yA|intro _)
 all_goals (refine b0j false [(500000,500000),(750001,750001)] (fun k=>k) (fun _ _=>rfl) ?_ (by decide) ?_ ?_ (e1m c (Mv (1+w)) kt ps n hn cs hcs).told ?_;iterate 3 (focus (first|rfl|(simp only [go_sem,F0]<;>first|done|rfl|simp))))
 all_goals (rintro v m ⟨hR,hm⟩;subst hR;subst hm)
 all_goals (refine yA ?_ (yA ?_ (yA ?_ ?_));iterate 3 (focus (first|rfl|(simp only [go_sem,F0];done)|(simp [go_sem,look,F0];done))))
 all_goals (try simp only [go_sem,F0])
 all_goals (try simp only [go_sem,F0])
 all_goals repeat' (first|apply yA|intro _)
 refine zhK _ ?_
 exact goW
theorem d2s (c:Aw) (w:Int) (pk:Bool) (k:List PL) (hk:k.length=4) (has:Bool) (ps:Int) (n:Nat) (hn:n≤1000000) (cs:List PL) (hcs:cs.length=n*4):
 CtM Try.prog 36 [.w (.one (.p 500000 [])),.w (.one (.pl (.i w))),.w (.one (.pl (.i 3))),.w (.one (.pl (.b pk)))] [(500000,⟨false,Ew c k has ps (.s 750001 [] n 4)⟩),(750001,⟨true,pls cs⟩)] (Told (fun v m=>v=.tup []∧m=[(500000,⟨false,Ew (a0t 1 c (dhT 3 4)) (a0t 2 c (dhT 3 4)).cells true ps (.s 750001 [] n 4)⟩),(750001,⟨true,pls cs⟩)])):=by
 have hn1:(n+1)*48≤140737488355328:=by omega
 have hn2:(n+1)*4=n*4+4:=by omega
 have hi0:(0:Int)≤(n:Int):=by omega
 have hi1:(n:Int)<((n+1:Nat):Int):=by omega
 have F0:=yA Iy<|yA d0d<|yA Kw<|yA Cv<|yA Dz<|yA Dj<|yA Gw<|yA Oz<|yA Ij<|yA Dy<|yA Fq<|yA Ez<|yA Ew.eq_1<|yA hk<|yA hcs<|yA hn1<|yA hn2<|yA hi0<|hi1
 have cq:=yA (CtM.ch [] ((n2p.plain fun _ _ h=>h).hands))<|yA (CtM.ch [(500000,500000),(500001,750001)] ((q0k c (dhT 3 4) k hk has ps n cs hcs).told))<|trivial
 exact CtM.go Try.func36 rfl Try.ntmps36 Try.results36
theorem d2q (c:Aw) (w:Int) (pk:Bool) (k:List PL) (hk:k.length=4) (has:Bool) (ps:Int) (n:Nat) (hn:n≤1000000) (cs:List PL) (hcs:cs.length=n*4):
 CtM Try.prog 36 [.w (.one (.p 500000 [])),.w (.one (.pl (.i w))),.w (.one (.pl (.i 4))),.w (.one (.pl (.b pk)))] [(500000,⟨false,Ew c k has ps (.s 750001 [] n 4)⟩),(750001,⟨true,pls cs⟩)] (Told (fun v m=>v=.tup []∧m=[(500000,⟨false,Ew (a0t 1 c (dhT 2 3)) (a0t 2 c (dhT 2 3)).cells true ps (.s 750001 [] n 4)⟩),(750001,⟨true,pls cs⟩)])):=by
 have hn1:(n+1)*48≤140737488355328:=by omega
 have hn2:(n+1)*4=n*4+4:=by omega
 have hi0:(0:Int)≤(n:Int):=by omega
 have hi1:(n:Int)<((n+1:Nat):Int):=by omega
 have F0:=yA Iy<|yA d0d<|yA Kw<|yA Cv<|yA Dz<|yA Dj<|yA Gw<|yA Oz<|yA Ij<|yA Dy<|yA Fq<|yA Ez<|yA Ew.eq_1<|yA hk<|yA hcs<|yA hn1<|yA hn2<|yA hi0<|hi1
 have cq:=yA (CtM.ch [] ((n2r.plain fun _ _ h=>h).hands))<|yA (CtM.ch [(500000,500000),(500001,750001)] ((q0k c (dhT 2 3) k hk has ps n cs hcs).told))<|trivial
 exact CtM.go Try.func36 rfl Try.ntmps36 Try.results36
theorem d2o (c:Aw) (w:Int) (pk:Bool) (k:List PL) (hk:k.length=4) (has:Bool) (ps:Int) (n:Nat) (hn:n≤1000000) (cs:List PL) (hcs:cs.length=n*4):
 CtM Try.prog 36 [.w (.one (.p 500000 [])),.w (.one (.pl (.i w))),.w (.one (.pl (.i 5))),.w (.one (.pl (.b pk)))] [(500000,⟨false,Ew c k has ps (.s 750001 [] n 4)⟩),(750001,⟨true,pls cs⟩)] (Told (fun v m=>v=.tup []∧m=[(500000,⟨false,Ew (a0t 1 c (dhT 1 4)) (a0t 2 c (dhT 1 4)).cells true ps (.s 750001 [] n 4)⟩),(750001,⟨true,pls cs⟩)])):=by
 have hn1:(n+1)*48≤140737488355328:=by omega
 have hn2:(n+1)*4=n*4+4:=by omega
 have hi0:(0:Int)≤(n:Int):=by omega
 have hi1:(n:Int)<((n+1:Nat):Int):=by omega
 have F0:=yA Iy<|yA d0d<|yA Kw<|yA Cv<|yA Dz<|yA Dj<|yA Gw<|yA Oz<|yA Ij<|yA Dy<|yA Fq<|yA Ez<|yA Ew.eq_1<|yA hk<|yA hcs<|yA hn1<|yA hn2<|yA hi0<|hi1
 have cq:=yA (CtM.ch [] ((n2t.plain fun _ _ h=>h).hands))<|yA (CtM.ch [(500000,500000),(500001,750001)] ((q0k c (dhT 1 4) k hk has ps n cs hcs).told))<|trivial
 exact CtM.go Try.func36 rfl Try.ntmps36 Try.results36
theorem d2m (c:Aw) (w:Int) (pk:Bool) (k:List PL) (hk:k.length=4) (has:Bool) (ps:Int) (n:Nat) (hn:n≤1000000) (cs:List PL) (hcs:cs.length=n*4):
 CtM Try.prog 36 [.w (.one (.p 500000 [])),.w (.one (.pl (.i w))),.w (.one (.pl (.i 6))),.w (.one (.pl (.b pk)))] [(500000,⟨false,Ew c k has ps (.s 750001 [] n 4)⟩),(750001,⟨true,pls cs⟩)] (Told (fun v m=>v=.tup []∧m=[(500000,⟨false,Ew (a0t 1 c (dhT 1 2)) (a0t 2 c (dhT 1 2)).cells true ps (.s 750001 [] n 4)⟩),(750001,⟨true,pls cs⟩)])):=by
 have hn1:(n+1)*48≤140737488355328:=by omega
 have hn2:(n+1)*4=n*4+4:=by omega
 have hi0:(0:Int)≤(n:Int):=by omega
 have hi1:(n:Int)<((n+1:Nat):Int):=by omega
 have F0:=yA Iy<|yA d0d<|yA Kw<|yA Cv<|yA Dz<|yA Dj<|yA Gw<|yA Oz<|yA Ij<|yA Dy<|yA Fq<|yA Ez<|yA Ew.eq_1<|yA hk<|yA hcs<|yA hn1<|yA hn2<|yA hi0<|hi1
 have cq:=yA (CtM.ch [] ((n2v.plain fun _ _ h=>h).hands))<|yA (CtM.ch [(500000,500000),(500001,750001)] ((q0k c (dhT 1 2) k hk has ps n cs hcs).told))<|trivial
 exact CtM.go Try.func36 rfl Try.ntmps36 Try.results36
theorem d2k (c:Aw) (w:Int) (pk:Bool) (k:List PL) (hk:k.length=4) (has:Bool) (ps:Int) (hps:0≤ps∧ps≤1000) (n:Nat) (hn:n≤1000000) (cs:List PL) (hcs:cs.length=n*4):
 CtM Try.prog 36 [.w (.one (.p 500000 [])),.w (.one (.pl (.i w))),.w (.one (.pl (.i 7))),.w (.one (.pl (.b pk)))] [(500000,⟨false,Ew c k has ps (.s 750001 [] n 4)⟩),(750001,⟨true,pls cs⟩)] (Told (fun v m=>v=.tup []∧m=[(500000,⟨false,Ew (a0t 1 c (Fv (10+ps))) (a0t 2 c (Fv (10+ps))).cells true (ps+1) (.s 750001 [] n 4)⟩),(750001,⟨true,pls cs⟩)])):=by
 have hn1:(n+1)*48≤140737488355328:=by omega
 have hn2:(n+1)*4=n*4+4:=by omega
 have hi0:(0:Int)≤(n:Int):=by omega
 have hi1:(n:Int)<((n+1:Nat):Int):=by omega
 have hp1:Go.RowKit.wrap64 (10+ps)=10+ps:=w64 (by omega)
 have hp2:Go.RowKit.wrap64 (ps+1)=ps+1:=w64 (by omega)
 have F0:=yA Iy<|yA d0d<|yA Kw<|yA Cv<|yA Dz<|yA Dj<|yA Gw<|yA Oz<|yA Ij<|yA Dy<|yA Fq<|yA Ez<|yA Ew.eq_1<|yA hk<|yA hcs<|yA hn1<|yA hn2<|yA hi0<|yA hi1<|yA hp1<|hp2
 have cq:=yA (CtM.ch [] (((n0l (10+ps)).plain fun _ _ h=>h).hands))<|yA (CtM.ch [(500000,500000),(500001,750001)] ((q0k c (Fv (10+ps)) k hk has ps n cs hcs).told))<|trivial
 exact CtM.go Try.func36 rfl Try.ntmps36 Try.results36
end Go.Sy
namespace Go.Sy
open Go.Proofs
def l0d (mx:List Aw):List PL:=match mx with| []=>[.i 0,.i 0,.i 0,.R true 1 []]|_::_=>(Gq 2 mx).cells
def q0y (mx:List Aw):Bool:=match mx with| []=>false|_::_=>true
def j2f (o:Nat) (l:List Aw):L:=match l with| []=>.pl (.R true 1 [])|_::_=>.s o [] l.length 4
def j2e (o:Nat) (l:List Aw):List (Nat×Ob):=match l with| []=>[]|_::_=>[(o,⟨true,pls (Ay l).flatten⟩)]
def h0v (h o:Nat) (s:Ik):List (Nat×Ob):=(h,⟨false,Ew (Gq 1 s.mx) (l0d s.mx) (q0y s.mx) (s.ps:Int) (j2f o s.out)⟩)::j2e o s.out
theorem c0u (mx:List Aw):(l0d mx).length=4:=by cases mx with|nil=>rfl|cons a r=>exact Dy _
theorem b0t (l:List Aw) (m:Aw):l0d (l++[m])=(a0t 2 (Gq 1 l) m).cells:=by
 rw [←Qz];cases l<;>rfl
theorem b0v (l:List Aw) (m:Aw):q0y (l++[m])=true:=by cases l<;>rfl
theorem n0s {o:Nat} {l:List Aw} (h:l≠[]):j2f o l=.s o [] l.length 4:=by cases l with|nil=>exact absurd rfl h|cons a r=>rfl
theorem n0r {o:Nat} {l:List Aw} (h:l≠[]):j2e o l=[(o,⟨true,pls (Ay l).flatten⟩)]:=by cases l with|nil=>exact absurd rfl h|cons a r=>rfl
theorem x0c (a b:List Aw):Ay (a++b)=Ay a++Ay b:=by
 induction a with
 |nil=>rw [Ay];rfl
 |cons x r ih=>rw [yC,Ay,Ay,ih];rfl
theorem m0p (x:Aw):Ay [x]=[x.cells]:=by rw [Ay,Ay]
theorem Jw (l:List Aw) (x:Aw):(Ay (l++[x])).flatten=(Ay l).flatten++x.cells:=by
 rw [x0c,m0p];simp
theorem Yk {h o:Nat} {s:Ik} (hs:s.out=[]):h0v h o s=[(h,⟨false,Ew (Gq 1 s.mx) (l0d s.mx) (q0y s.mx) (s.ps:Int) (.pl (.R true 1 []))⟩)]:=by
 rw [h0v,hs];rfl
theorem Jj {h o:Nat} {s:Ik} (hs:s.out≠[]):h0v h o s=[(h,⟨false,Ew (Gq 1 s.mx) (l0d s.mx) (q0y s.mx) (s.ps:Int) (.s o [] s.out.length 4)⟩),(o,⟨true,pls (Ay s.out).flatten⟩)]:=by
 rw [h0v,n0s hs,n0r hs]
theorem d0x {h o:Nat} {s:Ik} {x:Aw}:h0v h o (s.mix x)=(h,⟨false,Ew (a0t 1 (Gq 1 s.mx) x) (a0t 2 (Gq 1 s.mx) x).cells true (s.ps:Int) (j2f o s.out)⟩)::j2e o s.out:=by
 simp only [h0v,Ik.mix,Qz,b0t,b0v]
def Ik.word (s:Ik) (t:Aw):Aw:=if s.mx=[] then t else f0x (Gq 2 s.mx) (100+(s.out.length:Int)) t
theorem a1x (s:Ik) (t:Aw):s.tell t={s with out:=s.out++[s.word t]}:=rfl
theorem p1i {h o:Nat} {s:Ik} {x:Aw}:h0v h o {s with out:=s.out++[x]}=[(h,⟨false,Ew (Gq 1 s.mx) (l0d s.mx) (q0y s.mx) (s.ps:Int) (.s o [] (s.out.length+1) 4)⟩),(o,⟨true,pls ((Ay s.out).flatten++x.cells)⟩)]:=by
 rw [Jj (by simp)];simp [Jw]
theorem CtM.eq {P:Program} {f:FuncId} {args args':List V} {m m':List (Nat×Ob)} {R R':V→List (Nat×Ob)→Prop} (h:CtM P f args m R) (ha:args=args') (hm:m=m') (hR:R=R'):CtM P f args' m' R':=by
 subst ha hm hR;exact h
def a1n (s:Ik) (o':Nat):Nat:=if s.out=[] then o' else 750001
theorem put_eq {s:Ik} {x:Aw} {o:Nat}:(fun (v:V) (m:List (Nat×Ob))=>v=.tup []∧m=h0v 500000 o {s with out:=s.out++[x]})=(fun v m=>v=.tup []∧m=[(500000,⟨false,Ew (Gq 1 s.mx) (l0d s.mx) (q0y s.mx) (s.ps:Int) (.s o [] (s.out.length+1) 4)⟩),(o,⟨true,pls ((Ay s.out).flatten++x.cells)⟩)]):=by
 rw [p1i]
theorem d2v (s:Ik) (t:Aw) (hn:s.out.length≤1000000):CtM Try.prog 37 [.w (.one (.p 500000 [])),Gj t] (h0v 500000 750001 s) (fun v m=>v=.tup []∧m=h0v 500000 (a1n s 29) (s.tell t)):=by
 obtain ⟨mx,ps,out⟩:=s
 rw [a1x]
 have hc:(Ay out).flatten.length=out.length*4:=Mq out
 cases out with
 |nil=>
  cases mx with
  |nil=>refine (e1p (Gq 1 []) t (l0d []) (c0u []) ps).told.eq rfl rfl ?_;rw [put_eq];rfl
  |cons a r=>refine (e1n (Gq 1 (a::r)) t (Gq 2 (a::r)) ps).told.eq rfl rfl ?_;rw [put_eq];rfl
 |cons b l=>
  cases mx with
  |nil=>refine (e1o (Gq 1 []) t (l0d []) (c0u []) ps (b::l).length hn _ hc).told.eq rfl rfl ?_;rw [put_eq];rfl
  |cons a r=>refine (e1m (Gq 1 (a::r)) t (Gq 2 (a::r)) ps (b::l).length hn _ hc).told.eq rfl rfl ?_;rw [put_eq];rfl
theorem e1l (pk:Bool) (w:Int) (hw:0≤w∧w≤1) (s:Ik) (t:Int) (ht:1≤t∧t≤7) (hn:s.out.length≤1000000) (hp:s.ps≤1000):
 CtM Try.prog 36 [.w (.one (.p 500000 [])),.w (.one (.pl (.i w))),.w (.one (.pl (.i t))),.w (.one (.pl (.b pk)))] (h0v 500000 750001 s) (fun v m=>v=.tup []∧m=h0v 500000 (a1n s 20) (s.token pk w t)):=by
 obtain ⟨mx,ps,out⟩:=s
 have hc:(Ay out).flatten.length=out.length*4:=Mq out
 have hkl:=c0u mx
 have hp:ps≤1000:=hp
 have hn:out.length≤1000000:=hn
 obtain rfl|rfl|rfl|rfl|rfl|rfl|rfl:t=1∨t=2∨t=3∨t=4∨t=5∨t=6∨t=7:=by omega
 ·cases pk with
  |false=>
   have e:Ik.token false w ⟨mx,ps,out⟩ 1=⟨mx,ps,out++[Mv (3+w)]⟩:=rfl
   rw [e]
   cases out with
   |nil=>refine (v1m (Gq 1 mx) w hw (l0d mx) hkl (q0y mx) ps).told.eq rfl rfl ?_;rw [put_eq (s:=⟨mx,ps,[]⟩)];rfl
   |cons b l=>refine (v1k (Gq 1 mx) w hw (l0d mx) hkl (q0y mx) ps (b::l).length hn _ hc).told.eq rfl rfl ?_;rw [put_eq (s:=⟨mx,ps,b::l⟩)];rfl
  |true=>
   have e:Ik.token true w ⟨mx,ps,out⟩ 1=Ik.mix ⟨mx,ps,out++[Mv (3+w)]⟩ (Mv (3+w)):=rfl
   rw [e,d0x]
   cases out with
   |nil=>refine (v1l (Gq 1 mx) w hw (l0d mx) hkl (q0y mx) ps).told.eq rfl rfl ?_;simp [j2f,j2e,m0p,a1n]
   |cons b l=>refine (v1j (Gq 1 mx) w hw (l0d mx) hkl (q0y mx) ps (b::l).length hn _ hc).told.eq rfl rfl ?_;rw [n0s (by simp),n0r (by simp),Jw];simp [a1n]
 ·have e:Ik.token pk w ⟨mx,ps,out⟩ 2=Ik.tell ⟨mx,ps,out⟩ (Mv (1+w)):=rfl
  rw [e,a1x]
  cases out with
  |nil=>
   cases mx with
   |nil=>refine (v1i (Gq 1 []) w pk hw (l0d []) (c0u []) ps).told.eq rfl rfl ?_;rw [put_eq];rfl
   |cons a r=>refine (v1h (Gq 1 (a::r)) w pk hw (Gq 2 (a::r)) ps).told.eq rfl rfl ?_;rw [put_eq];rfl
  |cons b l=>
   cases mx with
   |nil=>refine (v1g (Gq 1 []) w pk hw (l0d []) (c0u []) ps (b::l).length hn _ hc).told.eq rfl rfl ?_;rw [put_eq];rfl
   |cons a r=>refine (v1f (Gq 1 (a::r)) w pk hw (Gq 2 (a::r)) ps (b::l).length hn _ hc).told.eq rfl rfl ?_;rw [put_eq];rfl
 ·have e:Ik.token pk w ⟨mx,ps,out⟩ 3=Ik.mix ⟨mx,ps,out⟩ (dhT 3 4):=rfl
  rw [e,d0x]
  cases out with
  |nil=>refine (d2t (Gq 1 mx) w pk (l0d mx) hkl (q0y mx) ps).told.eq rfl rfl ?_;rfl
  |cons b l=>refine (d2s (Gq 1 mx) w pk (l0d mx) hkl (q0y mx) ps (b::l).length hn _ hc).told.eq rfl rfl ?_;rfl
 ·have e:Ik.token pk w ⟨mx,ps,out⟩ 4=Ik.mix ⟨mx,ps,out⟩ (dhT 2 3):=rfl
  rw [e,d0x]
  cases out with
  |nil=>refine (d2r (Gq 1 mx) w pk (l0d mx) hkl (q0y mx) ps).told.eq rfl rfl ?_;rfl
  |cons b l=>refine (d2q (Gq 1 mx) w pk (l0d mx) hkl (q0y mx) ps (b::l).length hn _ hc).told.eq rfl rfl ?_;rfl
 ·have e:Ik.token pk w ⟨mx,ps,out⟩ 5=Ik.mix ⟨mx,ps,out⟩ (dhT 1 4):=rfl
  rw [e,d0x]
  cases out with
  |nil=>refine (d2p (Gq 1 mx) w pk (l0d mx) hkl (q0y mx) ps).told.eq rfl rfl ?_;rfl
  |cons b l=>refine (d2o (Gq 1 mx) w pk (l0d mx) hkl (q0y mx) ps (b::l).length hn _ hc).told.eq rfl rfl ?_;rfl
 ·have e:Ik.token pk w ⟨mx,ps,out⟩ 6=Ik.mix ⟨mx,ps,out⟩ (dhT 1 2):=rfl
  rw [e,d0x]
  cases out with
  |nil=>refine (d2n (Gq 1 mx) w pk (l0d mx) hkl (q0y mx) ps).told.eq rfl rfl ?_;rfl
  |cons b l=>refine (d2m (Gq 1 mx) w pk (l0d mx) hkl (q0y mx) ps (b::l).length hn _ hc).told.eq rfl rfl ?_;rfl
 have e:Ik.token pk w ⟨mx,ps,out⟩ 7=Ik.mix ⟨mx,ps+1,out⟩ (Fv (10+(ps:Int))):=rfl
 rw [e,d0x]
 cases out with
 |nil=>refine (d2l (Gq 1 mx) w pk (l0d mx) hkl (q0y mx) ps (by omega)).told.eq rfl rfl ?_;rfl
 |cons b l=>refine (d2k (Gq 1 mx) w pk (l0d mx) hkl (q0y mx) ps (by omega) (b::l).length hn _ hc).told.eq rfl rfl ?_;rfl
end Go.Sy
