/- Walks and what they compute. CONDITIONS: those that each theorem names. -/
import Derived.Test.YtkfcbhgkpknagaaGreatDoorvE3
import Derived.Test.YtkfcbhgkpknagaaGreatDoorvS1
import Derived.Test.YtkfcbhgkpknagaaGreatDoorvS2
import Derived.Test.YtkfcbhgkpknagaaGreatDoorvS11
set_option linter.unusedVariables false
set_option linter.unusedSimpArgs false
set_option maxHeartbeats 3200000
set_option maxRecDepth 100000
namespace Go.Sy
open Go.Proofs
attribute [local irreducible] Bw HT Aj Jk onC onE onO onG goV goA goS Lx Bz
theorem b2c (n:Nat) (hn:n≤9223372036854775807):j2c (-((n:Nat):Int)) 15=(((16-n%16)%16:Nat):Int):=by
 have e:(BitVec.ofInt 64 (-((n:Nat):Int))&&&BitVec.ofInt 64 15).toNat=(16-n%16)%16:=by
  rw [BitVec.toNat_and,BitVec.toNat_ofInt,show (BitVec.ofInt 64 15).toNat=2 ^ 4-1 from rfl,xI]
  omega
 unfold j2c
 rw [e]
 exact w64 (by omega)
def e0f (b:List UInt8):Nat:=(16-b.length%16)%16
def Yz (b:List UInt8):List UInt8:=b++List.replicate (e0f b) 0
theorem i0z (n:Nat):List.replicate n (L.pl (PL.u8 0))=Az (List.replicate n 0):=by simp [Az]
def Kw (n:Nat):List UInt8:=[UInt8.ofNat (r0x ((n:Nat):Int) 0%256).toNat,UInt8.ofNat (r0x ((n:Nat):Int) 8%256).toNat,UInt8.ofNat (r0x ((n:Nat):Int) 16%256).toNat,UInt8.ofNat (r0x ((n:Nat):Int) 24%256).toNat,UInt8.ofNat (r0x ((n:Nat):Int) 32%256).toNat,UInt8.ofNat (r0x ((n:Nat):Int) 40%256).toNat,UInt8.ofNat (r0x ((n:Nat):Int) 48%256).toNat,UInt8.ofNat (r0x ((n:Nat):Int) 56%256).toNat]
def ownB (l:List UInt8) (v:V) (m:List (Nat×Ob)):Prop:=v=.w (.one (.s 0 [] l.length 1))∧m=[(0,⟨true,Az l⟩)]
theorem n0u {m:List (Nat×Ob)} {j n:Nat} {l:List UInt8} (hn:n=l.length) (h:look m j=some ⟨true,Az l⟩) (hj:j<500000:=by decide):Told (ownB l) (.w (.one (.s j [] n 1))) m:=
 Zw ⟨only j,.w (.one (.s 0 [] l.length 1)),[(0,⟨true,Az l⟩)],by rw [hn];rfl,f0z h hj,rfl,rfl⟩
theorem n0t (b:List UInt8) (ex:Bool) (hb:b.length≤4096) (hp:¬e0f b=0):
 CtM Tryz.prog 57 [.w (.one (.pl (.R ex 1 (Av b))))] [] (Told (ownB (Yz b))):=by
 have hq:b.length+e0f b≤140737488355328:=by unfold e0f;omega
 have hi:j2c (-((b.length:Nat):Int)) 15=((e0f b:Nat):Int):=b2c _ (by omega)
 have hpp:(0:Int)≤((e0f b:Nat):Int)∧((e0f b:Nat):Int)≤9223372036854775807∧e0f b≤140737488355328:=by unfold e0f;omega
 have h0:(0:Int)≤((b.length:Nat):Int):=by omega
 have hw:Go.RowKit.wrap64 (0-((b.length:Nat):Int))= -((b.length:Nat):Int):=by rw [Int.zero_sub];exact w64 (by omega)
 have F0:=yA hq<|yA hi<|yA hpp<|yA h0<|yA hw<|hp
 refine CtM.k Tryz.func57 rfl Tryz.ntmps57 (congrArg Array.toList Tryz.results57) (by simp) fun w0 ro may fx=>?_
 refine b0q fun zZ zhZ=>?_
 iterate 6 first
  |(refine Lj fun zK zhK=>?_;simp only [go_sem,i0z,xJ,wK,Int.le_refl,F0];(repeat' (first|apply yA|intro _)))
  |refine zhK _ ?_
  |refine Tk ?_
  |(refine zhZ _ _ ?_;simp only [go_sem,i0z,xJ,wK,Int.le_refl,F0];(all_goals (exact n0u (by simp [Yz]) rfl)))
theorem g0h (b:List UInt8) (ex:Bool) (hb:b.length≤4096) (hp:e0f b=0):
 Ct Tryz.prog 57 [.w (.one (.pl (.R ex 1 (Av b))))] (fun v m=>v=.w (.one (.pl (.R true 1 (Av b))))∧m=[]):=by
 have hi:j2c (-((b.length:Nat):Int)) 15=0:=by rw [b2c _ (by omega)];unfold e0f at hp;omega
 have h0:(0:Int)≤((b.length:Nat):Int):=by omega
 have hw:Go.RowKit.wrap64 (0-((b.length:Nat):Int))= -((b.length:Nat):Int):=by rw [Int.zero_sub];exact w64 (by omega)
 have F0:=yA hi<|yA h0<|hw
 refine Ct.k Tryz.func57 rfl Tryz.ntmps57 (congrArg Array.toList Tryz.results57) (by simp) fun w0 ro=>?_
 refine b0q fun zZ zhZ=>?_
 iterate 6 first
  |(refine Lj fun zK zhK=>?_;simp only [go_sem,i0z,xJ,wK,Int.le_refl,F0];(repeat' (first|apply yA|intro _)))
  |refine zhK _ ?_
  |refine Tk ?_
  |(refine zhZ _ _ ?_;simp only [go_sem,i0z,xJ,wK,Int.le_refl,F0];(all_goals (exact ⟨rfl,rfl⟩)))
theorem h0j (n:Nat) (hn:n≤4096):
 CtM Tryz.prog 59 [.w (.one (.pl (.i ((n:Nat):Int))))] [] (Told (ownB (Kw n))):=by
 have F0:=yA @xB<|@i0z
 have zF:FG [6,9,10,11,12,13,14,15,16,17,18,19,20]:=trivial
 refine CtM.go Tryz.func59 rfl Tryz.ntmps59 Tryz.results59 fun w0 ro may fx zZ zhY=>?_
 have zU:=yA ur<|trivial
 refine (fun zX=>goW) ?_
 refine zhY _ _ ?_
 simp only [go_sem,F0,Int.reduceTMod,Int.reduceTDiv]
 all_goals (exact n0u rfl rfl)
end Go.Sy
namespace Go.Sy
open Go.Proofs
attribute [local irreducible] Bw HT Aj Jk onC onE onO onG goV goA goS Lx Bz
theorem h0y (n:Nat):(List.replicate n [L.pl (PL.u8 0)]).flatten=Az (List.replicate n 0):=by
 induction n with
 |zero=>rfl
 |succ n ih=>rw [wT,wV,ih,wT];rfl
theorem n0w (n:Nat) (hn:n≤4096):
 Ct Tryz.prog 73 [.w (.one (.pl (.i ((n:Nat):Int))))] (fun v m=>v=.w (.one (.pl (.str (List.replicate n 0))))):=by
 have h1:(0:Int)≤((n:Nat):Int)∧((n:Nat):Int)≤281474976710656:=by omega
 have h2:((n:Nat):Int).toNat=n:=Int.toNat_natCast n
 have F0:=yA h1<|yA h2<|yA @h0y<|@Int.one_mul
 exact Ct.go Tryz.func73 rfl Tryz.ntmps73 Tryz.results73
theorem o2e (b:List UInt8) (hb:b.length≤4096):
 Ct Tryz.prog 71 [.w (.one (.pl (.str b)))] (fun v m=>v=.w (.one (.pl (.str (Yz b))))):=by
 have hN:=n0w (e0f b) (by unfold e0f;omega)
 have ht1:((b.length:Nat):Int).tmod 16=((b.length%16:Nat):Int):=rfl
 have ht2:((16-b.length%16:Nat):Int).tmod 16=((e0f b:Nat):Int):=rfl
 have hq:b.length+e0f b≤9223372036854775807:=by unfold e0f;omega
 have hw:Go.RowKit.wrap64 (16-((b.length%16:Nat):Int))=((16-b.length%16:Nat):Int):=Gy (by omega) (by omega)
 have F0:=yA ht1<|yA ht2<|yA hq<|hw
 have cq:=yA ((hN.plain fun _ _ h=>h))<|trivial
 exact Ct.go Tryz.func71 rfl Tryz.ntmps71 Tryz.results71
end Go.Sy
namespace Go.Sy
open Go.Proofs
attribute [local irreducible] Bw HT Aj Jk onC onE onO onG goV goA goS Lx Bz
theorem k2e (key nonce ad text once:List UInt8) (hk:key.length=32) (hn:nonce.length=12) (h64:once.length=64) (h1:ad.length≤200) (h2:text.length≤800) (ex1 ex2:Bool) (tg:List UInt8) (htg:tg.length=16) (p1:¬e0f ad=0) (p2:¬e0f text=0) (hB:Ct Tryz.prog 56 [.w (.agg (Az key)),.w (.one (.pl (.u32 0))),.w (.agg (Az nonce))] (fun v m=>v=.w (.agg (Az once)))) (hT:Ct Tryz.prog 58 [.w (.agg (Az (once.take 32))),.w (.one (.pl (.R false 1 (Av (Yz ad++Yz text++Kw ad.length++Kw text.length)))))] (fun v m=>v=.w (.agg (Az tg)))):
 CtM Tryz.prog 34 [.w (.agg (Az key)),.w (.agg (Az nonce)),.w (.one (.pl (.R ex1 1 (Av ad)))),.w (.one (.pl (.R ex2 1 (Av text))))] [] (Told (fun v m=>v=.w (.agg (Az tg))∧m=[])):=by
 have hP1:=n0t ad ex1 (by omega) p1
 have hP2:=n0t text ex2 (by omega) p2
 obtain ⟨a,ha⟩: ∃ q,Yz ad=q:=⟨_,rfl⟩
 have hal:a.length≤300:=by rw [←ha];simp [Yz];unfold e0f;omega
 obtain ⟨t,ht⟩: ∃ q,Yz text=q:=⟨_,rfl⟩
 have htl:t.length≤900:=by rw [←ht];simp [Yz];unfold e0f;omega
 have htn:¬t.length=0:=by rw [←ht];simp only [Yz,yG,vI];omega
 have hE1:=h0j ad.length (by omega)
 have hE2:=h0j text.length (by omega)
 obtain ⟨e,he⟩: ∃ q,Kw ad.length=q:=⟨_,rfl⟩
 have hel:e.length=8:=by rw [←he];rfl
 obtain ⟨f,hf⟩: ∃ q,Kw text.length=q:=⟨_,rfl⟩
 have hfl:f.length=8:=by rw [←hf];rfl
 rw [ha] at hP1 hT
 rw [ht] at hP2 hT
 rw [he] at hE1 hT
 rw [hf] at hE2 hT
 have hq1:a.length+t.length≤140737488355328:=by omega
 have hq2:a.length+t.length+8≤140737488355328:=by omega
 have hq3:a.length+t.length+8+8≤140737488355328:=by omega
 obtain ⟨z,hz⟩: ∃ q,a++t++e++f=q:=⟨_,rfl⟩
 have hzl:z.length=a.length+t.length+8+8:=by rw [←hz];simp only [yG,hel,hfl]
 rw [hz] at hT
 have hch:chunks 1 (a.length+t.length+8+8) (z.map PL.u8)=Av z:=Gj hzl
 have hm1:min 64 32=32:=rfl
 have hm2:min 32 64=32:=rfl
 have hdr:List.drop 32 (List.replicate 32 (0:UInt8))=[]:=rfl
 obtain ⟨o32,ho⟩: ∃ q,once.take 32=q:=⟨_,rfl⟩
 have hol:o32.length=32:=by rw [←ho,yH];omega
 rw [ho] at hT
 have F0:=yA hk<|yA hn<|yA h64<|yA htg<|yA hel<|yA hfl<|yA hq1<|yA hq2<|yA hq3<|yA hz<|yA hzl<|yA ho<|yA hol<|yA hm1<|yA hm2<|yA hdr<|yA hch<|htn
 refine CtM.go Tryz.func34 rfl Tryz.ntmps34 Tryz.results34 fun w0 ro may fx zZ zhY=>?_
 have cq:=yA ((hB.plain fun _ _ h=>h))<|trivial
 refine (fun zX=>goW) ?_
 refine Sk (id:=3) [15,16,17] [0,0,3] [] mixed (by kernel_rfl) (by simp only [go_sem]) fun zK zhK=>?_
 simp only [go_sem,F0]
 repeat' (first|apply yA|intro _)
 refine zhK _ _ trivial ?_
 have zS:ZS 4:=⟨⟩
 refine (fun zX=>goW) ?_
 refine ⟨?_⟩;clear zS
 refine Lj fun zK zhK=>?_
 simp only [go_sem,F0]
 repeat' (first|apply yA|intro _)
 all_goals (refine Kz false [] (fun _=>19) (fun _ _=>rfl) ?_ (by decide) ?_ hP1.told ?_;iterate 2 (focus (first|rfl|(simp only [go_sem,F0]<;>first|done|rfl|simp))))
 all_goals (rintro v m ⟨hR,hm⟩;subst hR;subst hm)
 all_goals (refine yA ?_ (yA ?_ (yA ?_ ?_));iterate 3 (focus (first|rfl|(simp only [go_sem,F0];done)|(simp [go_sem,look,F0];done))))
 all_goals (try simp only [go_sem,F0])
 all_goals (try simp only [go_sem,F0])
 all_goals repeat' (first|apply yA|intro _)
 all_goals (refine Kz false [] (fun _=>21) (fun _ _=>rfl) ?_ (by decide) ?_ hP2.told ?_;iterate 2 (focus (first|rfl|(simp only [go_sem,F0]<;>first|done|rfl|simp))))
 all_goals (rintro v m ⟨hR,hm⟩;subst hR;subst hm)
 all_goals (refine yA ?_ (yA ?_ (yA ?_ ?_));iterate 3 (focus (first|rfl|(simp only [go_sem,F0];done)|(simp [go_sem,look,F0];done))))
 all_goals (try simp only [go_sem,F0])
 all_goals (try simp only [go_sem,F0])
 all_goals repeat' (first|apply yA|intro _)
 refine zhK _ ?_
 refine (fun zX=>goW) ?_
 refine c1z (id:=5) mixed fun zE zhE=>?_
 refine Ij (p:=0) 10 [23,24,25,26,27,28,29,30,31,32] [0,0,0,4,12,30,0,64,254,510,1023,2047] [(0,5),(5,6),(5,7),(0,9)] rfl (by kernel_rfl) rfl (by simp only [go_sem]) fun zR zK zhR zhK=>?_
 simp only [go_sem,F0]
 repeat' (first|apply yA|intro _)
 all_goals (refine Hz (fun _=>27) (.w (.one (.s 0 [] e.length 1))) [(0,⟨true,Az e⟩)] (fun _ _=>rfl) ?_ ?_ ?_ hE1.told ?_ ?_;(iterate 2 (focus (first|rfl|(simp only [go_sem,F0]<;>first|done|rfl|simp))));(first|kernel_rfl|rfl|simp [o0d,r0k,pls]))
 all_goals try (refine yA ?_ (yA ?_ (yA ?_ ?_))<;>(first|rfl|(simp only [go_sem,F0];done)|(simp [go_sem,look,F0];done)))
 all_goals (try simp only [go_sem,F0])
 all_goals (try simp only [go_sem,F0])
 all_goals repeat' (first|apply yA|intro _)
 all_goals (refine Hz (fun _=>31) (.w (.one (.s 0 [] f.length 1))) [(0,⟨true,Az f⟩)] (fun _ _=>rfl) ?_ ?_ ?_ hE2.told ?_ ?_;(iterate 2 (focus (first|rfl|(simp only [go_sem,F0]<;>first|done|rfl|simp))));(first|kernel_rfl|rfl|simp [o0d,r0k,pls]))
 all_goals try (refine yA ?_ (yA ?_ (yA ?_ ?_))<;>(first|rfl|(simp only [go_sem,F0];done)|(simp [go_sem,look,F0];done)))
 all_goals (try simp only [go_sem,F0])
 all_goals (try simp only [go_sem,F0])
 all_goals repeat' (first|apply yA|intro _)
 refine zhK _ _ ?_ (zhR _ ?_)
 focus (first|trivial|(simp only [go_sem];done)|(simp only [go_sem];simp;done)|(simp only [go_sem];simp;simp only [go_sem]))
 refine Mx 2 12 rfl (by kernel_rfl) rfl rfl fun zR zhR=>?_
 simp only [go_sem,F0]
 repeat' (first|apply yA|intro _)
 all_goals (refine Cv (fun k=>k) (fun _ _=>rfl) ?_ (hT.plain fun _ _ h=>h) ?_;focus (first|rfl|(simp only [go_sem,F0]<;>rfl)))
 all_goals (rintro v m ⟨hR,hm⟩;subst hR;subst hm)
 all_goals refine yA (by first|rfl|simp only [go_sem,F0]) (yA (by first|rfl|simp only [go_sem,F0]) ?_)
 all_goals simp only [go_sem,F0]
 all_goals repeat' (first|apply yA|intro _)
 refine zhR _ ?_
 refine b0b rfl (zhE _ ?_)
 refine (fun zX=>goW) ?_
 refine zhY _ _ ?_
 simp only [go_sem,F0]
 all_goals (exact told_plain (by simp [Dv,Ew,Az]) ⟨rfl,rfl⟩)
theorem k2f (key nonce ad text once:List UInt8) (hk:key.length=32) (hn:nonce.length=12) (h64:once.length=64) (h1:ad.length≤200) (h2:text.length≤800) (ex1 ex2:Bool) (tg:List UInt8) (htg:tg.length=16) (p1:¬e0f ad=0) (p2:e0f text=0) (hB:Ct Tryz.prog 56 [.w (.agg (Az key)),.w (.one (.pl (.u32 0))),.w (.agg (Az nonce))] (fun v m=>v=.w (.agg (Az once)))) (hT:Ct Tryz.prog 58 [.w (.agg (Az (once.take 32))),.w (.one (.pl (.R false 1 (Av (Yz ad++Yz text++Kw ad.length++Kw text.length)))))] (fun v m=>v=.w (.agg (Az tg)))):
 CtM Tryz.prog 34 [.w (.agg (Az key)),.w (.agg (Az nonce)),.w (.one (.pl (.R ex1 1 (Av ad)))),.w (.one (.pl (.R ex2 1 (Av text))))] [] (Told (fun v m=>v=.w (.agg (Az tg))∧m=[])):=by
 have hP1:=n0t ad ex1 (by omega) p1
 have hP2:=g0h text ex2 (by omega) p2
 have hpt:Yz text=text:=by simp [Yz,p2]
 obtain ⟨a,ha⟩: ∃ q,Yz ad=q:=⟨_,rfl⟩
 have hal:a.length≤300:=by rw [←ha];simp [Yz];unfold e0f;omega
 obtain ⟨t,ht⟩: ∃ q,Yz text=q:=⟨_,rfl⟩
 have htl:t.length≤900:=by rw [←ht,hpt];omega
 have hE1:=h0j ad.length (by omega)
 have hE2:=h0j text.length (by omega)
 obtain ⟨e,he⟩: ∃ q,Kw ad.length=q:=⟨_,rfl⟩
 have hel:e.length=8:=by rw [←he];rfl
 obtain ⟨f,hf⟩: ∃ q,Kw text.length=q:=⟨_,rfl⟩
 have hfl:f.length=8:=by rw [←hf];rfl
 rw [ha] at hP1 hT
 rw [ht] at hT hpt
 subst hpt
 rw [he] at hE1 hT
 rw [hf] at hE2 hT
 have hq1:a.length+t.length≤140737488355328:=by omega
 have hq2:a.length+t.length+8≤140737488355328:=by omega
 have hq3:a.length+t.length+8+8≤140737488355328:=by omega
 obtain ⟨z,hz⟩: ∃ q,a++t++e++f=q:=⟨_,rfl⟩
 have hzl:z.length=a.length+t.length+8+8:=by rw [←hz];simp only [yG,hel,hfl]
 rw [hz] at hT
 have hch:chunks 1 (a.length+t.length+8+8) (z.map PL.u8)=Av z:=Gj hzl
 have hm1:min 64 32=32:=rfl
 have hm2:min 32 64=32:=rfl
 have hdr:List.drop 32 (List.replicate 32 (0:UInt8))=[]:=rfl
 obtain ⟨o32,ho⟩: ∃ q,once.take 32=q:=⟨_,rfl⟩
 have hol:o32.length=32:=by rw [←ho,yH];omega
 rw [ho] at hT
 have F0:=yA hk<|yA hn<|yA h64<|yA htg<|yA hel<|yA hfl<|yA hq1<|yA hq2<|yA hq3<|yA hz<|yA hzl<|yA ho<|yA hol<|yA hm1<|yA hm2<|yA hdr<|hch
 refine CtM.go Tryz.func34 rfl Tryz.ntmps34 Tryz.results34 fun w0 ro may fx zZ zhY=>?_
 have cq:=yA ((hB.plain fun _ _ h=>h))<|trivial
 refine (fun zX=>goW) ?_
 refine Sk (id:=3) [15,16,17] [0,0,3] [] mixed (by kernel_rfl) (by simp only [go_sem]) fun zK zhK=>?_
 simp only [go_sem,F0]
 repeat' (first|apply yA|intro _)
 refine zhK _ _ trivial ?_
 have zS:ZS 4:=⟨⟩
 refine (fun zX=>goW) ?_
 refine ⟨?_⟩;clear zS
 refine Lj fun zK zhK=>?_
 simp only [go_sem,F0]
 repeat' (first|apply yA|intro _)
 all_goals (refine Kz false [] (fun _=>19) (fun _ _=>rfl) ?_ (by decide) ?_ hP1.told ?_;iterate 2 (focus (first|rfl|(simp only [go_sem,F0]<;>first|done|rfl|simp))))
 all_goals (rintro v m ⟨hR,hm⟩;subst hR;subst hm)
 all_goals (refine yA ?_ (yA ?_ (yA ?_ ?_));iterate 3 (focus (first|rfl|(simp only [go_sem,F0];done)|(simp [go_sem,look,F0];done))))
 all_goals (try simp only [go_sem,F0])
 all_goals (try simp only [go_sem,F0])
 all_goals repeat' (first|apply yA|intro _)
 all_goals (refine Kz false [] (fun k=>k) (fun _ _=>rfl) ?_ (by decide) ?_ hP2.hands ?_;iterate 2 (focus (first|rfl|(simp only [go_sem,F0]<;>first|done|rfl|simp))))
 all_goals (rintro v m ⟨hR,hm⟩;subst hR;subst hm)
 all_goals (refine yA ?_ (yA ?_ (yA ?_ ?_));iterate 3 (focus (first|rfl|(simp only [go_sem,F0];done)|(simp [go_sem,look,F0];done))))
 all_goals (try simp only [go_sem,F0])
 all_goals (try simp only [go_sem,F0])
 all_goals repeat' (first|apply yA|intro _)
 refine zhK _ ?_
 refine (fun zX=>goW) ?_
 refine c1z (id:=5) mixed fun zE zhE=>?_
 refine Ij (p:=0) 10 [23,24,25,26,27,28,29,30,31,32] [0,0,0,4,12,30,0,64,254,510,1023,2047] [(0,5),(5,6),(5,7),(0,9)] rfl (by kernel_rfl) rfl (by simp only [go_sem]) fun zR zK zhR zhK=>?_
 simp only [go_sem,F0]
 repeat' (first|apply yA|intro _)
 all_goals (refine Hz (fun _=>27) (.w (.one (.s 0 [] e.length 1))) [(0,⟨true,Az e⟩)] (fun _ _=>rfl) ?_ ?_ ?_ hE1.told ?_ ?_;(iterate 2 (focus (first|rfl|(simp only [go_sem,F0]<;>first|done|rfl|simp))));(first|kernel_rfl|rfl|simp [o0d,r0k,pls]))
 all_goals try (refine yA ?_ (yA ?_ (yA ?_ ?_))<;>(first|rfl|(simp only [go_sem,F0];done)|(simp [go_sem,look,F0];done)))
 all_goals (try simp only [go_sem,F0])
 all_goals (try simp only [go_sem,F0])
 all_goals repeat' (first|apply yA|intro _)
 all_goals (refine Hz (fun _=>31) (.w (.one (.s 0 [] f.length 1))) [(0,⟨true,Az f⟩)] (fun _ _=>rfl) ?_ ?_ ?_ hE2.told ?_ ?_;(iterate 2 (focus (first|rfl|(simp only [go_sem,F0]<;>first|done|rfl|simp))));(first|kernel_rfl|rfl|simp [o0d,r0k,pls]))
 all_goals try (refine yA ?_ (yA ?_ (yA ?_ ?_))<;>(first|rfl|(simp only [go_sem,F0];done)|(simp [go_sem,look,F0];done)))
 all_goals (try simp only [go_sem,F0])
 all_goals (try simp only [go_sem,F0])
 all_goals repeat' (first|apply yA|intro _)
 refine zhK _ _ ?_ (zhR _ ?_)
 focus (first|trivial|(simp only [go_sem];done)|(simp only [go_sem];simp;done)|(simp only [go_sem];simp;simp only [go_sem]))
 refine Mx 2 12 rfl (by kernel_rfl) rfl rfl fun zR zhR=>?_
 simp only [go_sem,F0]
 repeat' (first|apply yA|intro _)
 all_goals (refine Cv (fun k=>k) (fun _ _=>rfl) ?_ (hT.plain fun _ _ h=>h) ?_;focus (first|rfl|(simp only [go_sem,F0]<;>rfl)))
 all_goals (rintro v m ⟨hR,hm⟩;subst hR;subst hm)
 all_goals refine yA (by first|rfl|simp only [go_sem,F0]) (yA (by first|rfl|simp only [go_sem,F0]) ?_)
 all_goals simp only [go_sem,F0]
 all_goals repeat' (first|apply yA|intro _)
 refine zhR _ ?_
 refine b0b rfl (zhE _ ?_)
 refine (fun zX=>goW) ?_
 refine zhY _ _ ?_
 simp only [go_sem,F0]
 all_goals (exact told_plain (by simp [Dv,Ew,Az]) ⟨rfl,rfl⟩)
theorem k2g (key nonce ad text once:List UInt8) (hk:key.length=32) (hn:nonce.length=12) (h64:once.length=64) (h1:ad.length≤200) (h2:text.length≤800) (ex1 ex2:Bool) (tg:List UInt8) (htg:tg.length=16) (p1:e0f ad=0) (p2:¬e0f text=0) (hB:Ct Tryz.prog 56 [.w (.agg (Az key)),.w (.one (.pl (.u32 0))),.w (.agg (Az nonce))] (fun v m=>v=.w (.agg (Az once)))) (hT:Ct Tryz.prog 58 [.w (.agg (Az (once.take 32))),.w (.one (.pl (.R false 1 (Av (Yz ad++Yz text++Kw ad.length++Kw text.length)))))] (fun v m=>v=.w (.agg (Az tg)))):
 CtM Tryz.prog 34 [.w (.agg (Az key)),.w (.agg (Az nonce)),.w (.one (.pl (.R ex1 1 (Av ad)))),.w (.one (.pl (.R ex2 1 (Av text))))] [] (Told (fun v m=>v=.w (.agg (Az tg))∧m=[])):=by
 have hP1:=g0h ad ex1 (by omega) p1
 have hpa:Yz ad=ad:=by simp [Yz,p1]
 have hP2:=n0t text ex2 (by omega) p2
 obtain ⟨a,ha⟩: ∃ q,Yz ad=q:=⟨_,rfl⟩
 have hal:a.length≤300:=by rw [←ha,hpa];omega
 obtain ⟨t,ht⟩: ∃ q,Yz text=q:=⟨_,rfl⟩
 have htl:t.length≤900:=by rw [←ht];simp [Yz];unfold e0f;omega
 have htn:¬t.length=0:=by rw [←ht];simp only [Yz,yG,vI];omega
 have hE1:=h0j ad.length (by omega)
 have hE2:=h0j text.length (by omega)
 obtain ⟨e,he⟩: ∃ q,Kw ad.length=q:=⟨_,rfl⟩
 have hel:e.length=8:=by rw [←he];rfl
 obtain ⟨f,hf⟩: ∃ q,Kw text.length=q:=⟨_,rfl⟩
 have hfl:f.length=8:=by rw [←hf];rfl
 rw [ha] at hT hpa
 subst hpa
 rw [ht] at hP2 hT
 rw [he] at hE1 hT
 rw [hf] at hE2 hT
 have hq1:a.length+t.length≤140737488355328:=by omega
 have hq2:a.length+t.length+8≤140737488355328:=by omega
 have hq3:a.length+t.length+8+8≤140737488355328:=by omega
 obtain ⟨z,hz⟩: ∃ q,a++t++e++f=q:=⟨_,rfl⟩
 have hzl:z.length=a.length+t.length+8+8:=by rw [←hz];simp only [yG,hel,hfl]
 rw [hz] at hT
 have hch:chunks 1 (a.length+t.length+8+8) (z.map PL.u8)=Av z:=Gj hzl
 have hm1:min 64 32=32:=rfl
 have hm2:min 32 64=32:=rfl
 have hdr:List.drop 32 (List.replicate 32 (0:UInt8))=[]:=rfl
 obtain ⟨o32,ho⟩: ∃ q,once.take 32=q:=⟨_,rfl⟩
 have hol:o32.length=32:=by rw [←ho,yH];omega
 rw [ho] at hT
 have F0:=yA hk<|yA hn<|yA h64<|yA htg<|yA hel<|yA hfl<|yA hq1<|yA hq2<|yA hq3<|yA hz<|yA hzl<|yA ho<|yA hol<|yA hm1<|yA hm2<|yA hdr<|yA hch<|htn
 refine CtM.go Tryz.func34 rfl Tryz.ntmps34 Tryz.results34 fun w0 ro may fx zZ zhY=>?_
 have cq:=yA ((hB.plain fun _ _ h=>h))<|trivial
 refine (fun zX=>goW) ?_
 refine Sk (id:=3) [15,16,17] [0,0,3] [] mixed (by kernel_rfl) (by simp only [go_sem]) fun zK zhK=>?_
 simp only [go_sem,F0]
 repeat' (first|apply yA|intro _)
 refine zhK _ _ trivial ?_
 have zS:ZS 4:=⟨⟩
 refine (fun zX=>goW) ?_
 refine ⟨?_⟩;clear zS
 refine Lj fun zK zhK=>?_
 simp only [go_sem,F0]
 repeat' (first|apply yA|intro _)
 all_goals (refine Kz false [] (fun k=>k) (fun _ _=>rfl) ?_ (by decide) ?_ hP1.hands ?_;iterate 2 (focus (first|rfl|(simp only [go_sem,F0]<;>first|done|rfl|simp))))
 all_goals (rintro v m ⟨hR,hm⟩;subst hR;subst hm)
 all_goals (refine yA ?_ (yA ?_ (yA ?_ ?_));iterate 3 (focus (first|rfl|(simp only [go_sem,F0];done)|(simp [go_sem,look,F0];done))))
 all_goals (try simp only [go_sem,F0])
 all_goals (try simp only [go_sem,F0])
 all_goals repeat' (first|apply yA|intro _)
 all_goals (refine Kz false [] (fun _=>21) (fun _ _=>rfl) ?_ (by decide) ?_ hP2.told ?_;iterate 2 (focus (first|rfl|(simp only [go_sem,F0]<;>first|done|rfl|simp))))
 all_goals (rintro v m ⟨hR,hm⟩;subst hR;subst hm)
 all_goals (refine yA ?_ (yA ?_ (yA ?_ ?_));iterate 3 (focus (first|rfl|(simp only [go_sem,F0];done)|(simp [go_sem,look,F0];done))))
 all_goals (try simp only [go_sem,F0])
 all_goals (try simp only [go_sem,F0])
 all_goals repeat' (first|apply yA|intro _)
 refine zhK _ ?_
 refine (fun zX=>goW) ?_
 refine c1z (id:=5) mixed fun zE zhE=>?_
 refine Ij (p:=0) 10 [23,24,25,26,27,28,29,30,31,32] [0,0,0,4,12,30,0,64,254,510,1023,2047] [(0,5),(5,6),(5,7),(0,9)] rfl (by kernel_rfl) rfl (by simp only [go_sem]) fun zR zK zhR zhK=>?_
 simp only [go_sem,F0]
 repeat' (first|apply yA|intro _)
 all_goals (refine Hz (fun _=>27) (.w (.one (.s 0 [] e.length 1))) [(0,⟨true,Az e⟩)] (fun _ _=>rfl) ?_ ?_ ?_ hE1.told ?_ ?_;(iterate 2 (focus (first|rfl|(simp only [go_sem,F0]<;>first|done|rfl|simp))));(first|kernel_rfl|rfl|simp [o0d,r0k,pls]))
 all_goals try (refine yA ?_ (yA ?_ (yA ?_ ?_))<;>(first|rfl|(simp only [go_sem,F0];done)|(simp [go_sem,look,F0];done)))
 all_goals (try simp only [go_sem,F0])
 all_goals (try simp only [go_sem,F0])
 all_goals repeat' (first|apply yA|intro _)
 all_goals (refine Hz (fun _=>31) (.w (.one (.s 0 [] f.length 1))) [(0,⟨true,Az f⟩)] (fun _ _=>rfl) ?_ ?_ ?_ hE2.told ?_ ?_;(iterate 2 (focus (first|rfl|(simp only [go_sem,F0]<;>first|done|rfl|simp))));(first|kernel_rfl|rfl|simp [o0d,r0k,pls]))
 all_goals try (refine yA ?_ (yA ?_ (yA ?_ ?_))<;>(first|rfl|(simp only [go_sem,F0];done)|(simp [go_sem,look,F0];done)))
 all_goals (try simp only [go_sem,F0])
 all_goals (try simp only [go_sem,F0])
 all_goals repeat' (first|apply yA|intro _)
 refine zhK _ _ ?_ (zhR _ ?_)
 focus (first|trivial|(simp only [go_sem];done)|(simp only [go_sem];simp;done)|(simp only [go_sem];simp;simp only [go_sem]))
 refine Mx 2 12 rfl (by kernel_rfl) rfl rfl fun zR zhR=>?_
 simp only [go_sem,F0]
 repeat' (first|apply yA|intro _)
 all_goals (refine Cv (fun k=>k) (fun _ _=>rfl) ?_ (hT.plain fun _ _ h=>h) ?_;focus (first|rfl|(simp only [go_sem,F0]<;>rfl)))
 all_goals (rintro v m ⟨hR,hm⟩;subst hR;subst hm)
 all_goals refine yA (by first|rfl|simp only [go_sem,F0]) (yA (by first|rfl|simp only [go_sem,F0]) ?_)
 all_goals simp only [go_sem,F0]
 all_goals repeat' (first|apply yA|intro _)
 refine zhR _ ?_
 refine b0b rfl (zhE _ ?_)
 refine (fun zX=>goW) ?_
 refine zhY _ _ ?_
 simp only [go_sem,F0]
 all_goals (exact told_plain (by simp [Dv,Ew,Az]) ⟨rfl,rfl⟩)
theorem k2i (key nonce ad text once:List UInt8) (hk:key.length=32) (hn:nonce.length=12) (h64:once.length=64) (h1:ad.length≤200) (h2:text.length≤800) (ex1 ex2:Bool) (tg:List UInt8) (htg:tg.length=16) (p1:e0f ad=0) (p2:e0f text=0) (q2:¬text.length=0) (hB:Ct Tryz.prog 56 [.w (.agg (Az key)),.w (.one (.pl (.u32 0))),.w (.agg (Az nonce))] (fun v m=>v=.w (.agg (Az once)))) (hT:Ct Tryz.prog 58 [.w (.agg (Az (once.take 32))),.w (.one (.pl (.R false 1 (Av (Yz ad++Yz text++Kw ad.length++Kw text.length)))))] (fun v m=>v=.w (.agg (Az tg)))):
 CtM Tryz.prog 34 [.w (.agg (Az key)),.w (.agg (Az nonce)),.w (.one (.pl (.R ex1 1 (Av ad)))),.w (.one (.pl (.R ex2 1 (Av text))))] [] (Told (fun v m=>v=.w (.agg (Az tg))∧m=[])):=by
 have hP1:=g0h ad ex1 (by omega) p1
 have hpa:Yz ad=ad:=by simp [Yz,p1]
 have hP2:=g0h text ex2 (by omega) p2
 have hpt:Yz text=text:=by simp [Yz,p2]
 obtain ⟨a,ha⟩: ∃ q,Yz ad=q:=⟨_,rfl⟩
 have hal:a.length≤300:=by rw [←ha,hpa];omega
 obtain ⟨t,ht⟩: ∃ q,Yz text=q:=⟨_,rfl⟩
 have htl:t.length≤900:=by rw [←ht,hpt];omega
 have hE1:=h0j ad.length (by omega)
 have hE2:=h0j text.length (by omega)
 obtain ⟨e,he⟩: ∃ q,Kw ad.length=q:=⟨_,rfl⟩
 have hel:e.length=8:=by rw [←he];rfl
 obtain ⟨f,hf⟩: ∃ q,Kw text.length=q:=⟨_,rfl⟩
 have hfl:f.length=8:=by rw [←hf];rfl
 rw [ha] at hT hpa
 subst hpa
 rw [ht] at hT hpt
 subst hpt
 rw [he] at hE1 hT
 rw [hf] at hE2 hT
 have hq1:a.length+t.length≤140737488355328:=by omega
 have hq2:a.length+t.length+8≤140737488355328:=by omega
 have hq3:a.length+t.length+8+8≤140737488355328:=by omega
 obtain ⟨z,hz⟩: ∃ q,a++t++e++f=q:=⟨_,rfl⟩
 have hzl:z.length=a.length+t.length+8+8:=by rw [←hz];simp only [yG,hel,hfl]
 rw [hz] at hT
 have hch:chunks 1 (a.length+t.length+8+8) (z.map PL.u8)=Av z:=Gj hzl
 have hm1:min 64 32=32:=rfl
 have hm2:min 32 64=32:=rfl
 have hdr:List.drop 32 (List.replicate 32 (0:UInt8))=[]:=rfl
 obtain ⟨o32,ho⟩: ∃ q,once.take 32=q:=⟨_,rfl⟩
 have hol:o32.length=32:=by rw [←ho,yH];omega
 rw [ho] at hT
 have F0:=yA hk<|yA hn<|yA h64<|yA htg<|yA hel<|yA hfl<|yA hq1<|yA hq2<|yA hq3<|yA hz<|yA hzl<|yA ho<|yA hol<|yA hm1<|yA hm2<|yA hdr<|yA hch<|q2
 refine CtM.go Tryz.func34 rfl Tryz.ntmps34 Tryz.results34 fun w0 ro may fx zZ zhY=>?_
 have cq:=yA ((hB.plain fun _ _ h=>h))<|trivial
 refine (fun zX=>goW) ?_
 refine Sk (id:=3) [15,16,17] [0,0,3] [] mixed (by kernel_rfl) (by simp only [go_sem]) fun zK zhK=>?_
 simp only [go_sem,F0]
 repeat' (first|apply yA|intro _)
 refine zhK _ _ trivial ?_
 have cq:=yA (CtM.ch [] (hP1.hands))<|yA (CtM.ch [] (hP2.hands))<|trivial
 refine (fun zX=>goW) ?_
 refine c1z (id:=5) mixed fun zE zhE=>?_
 refine Ij (p:=0) 10 [23,24,25,26,27,28,29,30,31,32] [0,0,0,4,12,30,0,64,254,510,1023,2047] [(0,5),(5,6),(5,7),(0,9)] rfl (by kernel_rfl) rfl (by simp only [go_sem]) fun zR zK zhR zhK=>?_
 simp only [go_sem,F0]
 repeat' (first|apply yA|intro _)
 all_goals (refine Hz (fun _=>27) (.w (.one (.s 0 [] e.length 1))) [(0,⟨true,Az e⟩)] (fun _ _=>rfl) ?_ ?_ ?_ hE1.told ?_ ?_;(iterate 2 (focus (first|rfl|(simp only [go_sem,F0]<;>first|done|rfl|simp))));(first|kernel_rfl|rfl|simp [o0d,r0k,pls]))
 all_goals try (refine yA ?_ (yA ?_ (yA ?_ ?_))<;>(first|rfl|(simp only [go_sem,F0];done)|(simp [go_sem,look,F0];done)))
 all_goals (try simp only [go_sem,F0])
 all_goals (try simp only [go_sem,F0])
 all_goals repeat' (first|apply yA|intro _)
 all_goals (refine Hz (fun _=>31) (.w (.one (.s 0 [] f.length 1))) [(0,⟨true,Az f⟩)] (fun _ _=>rfl) ?_ ?_ ?_ hE2.told ?_ ?_;(iterate 2 (focus (first|rfl|(simp only [go_sem,F0]<;>first|done|rfl|simp))));(first|kernel_rfl|rfl|simp [o0d,r0k,pls]))
 all_goals try (refine yA ?_ (yA ?_ (yA ?_ ?_))<;>(first|rfl|(simp only [go_sem,F0];done)|(simp [go_sem,look,F0];done)))
 all_goals (try simp only [go_sem,F0])
 all_goals (try simp only [go_sem,F0])
 all_goals repeat' (first|apply yA|intro _)
 refine zhK _ _ ?_ (zhR _ ?_)
 focus (first|trivial|(simp only [go_sem];done)|(simp only [go_sem];simp;done)|(simp only [go_sem];simp;simp only [go_sem]))
 refine Mx 2 12 rfl (by kernel_rfl) rfl rfl fun zR zhR=>?_
 simp only [go_sem,F0]
 repeat' (first|apply yA|intro _)
 all_goals (refine Cv (fun k=>k) (fun _ _=>rfl) ?_ (hT.plain fun _ _ h=>h) ?_;focus (first|rfl|(simp only [go_sem,F0]<;>rfl)))
 all_goals (rintro v m ⟨hR,hm⟩;subst hR;subst hm)
 all_goals refine yA (by first|rfl|simp only [go_sem,F0]) (yA (by first|rfl|simp only [go_sem,F0]) ?_)
 all_goals simp only [go_sem,F0]
 all_goals repeat' (first|apply yA|intro _)
 refine zhR _ ?_
 refine b0b rfl (zhE _ ?_)
 refine (fun zX=>goW) ?_
 refine zhY _ _ ?_
 simp only [go_sem,F0]
 all_goals (exact told_plain (by simp [Dv,Ew,Az]) ⟨rfl,rfl⟩)
theorem k2h (key nonce ad text once:List UInt8) (hk:key.length=32) (hn:nonce.length=12) (h64:once.length=64) (h1:ad.length≤200) (h2:text.length≤800) (ex1 ex2:Bool) (tg:List UInt8) (htg:tg.length=16) (p1:e0f ad=0) (p2:e0f text=0) (q2:text.length=0) (hB:Ct Tryz.prog 56 [.w (.agg (Az key)),.w (.one (.pl (.u32 0))),.w (.agg (Az nonce))] (fun v m=>v=.w (.agg (Az once)))) (hT:Ct Tryz.prog 58 [.w (.agg (Az (once.take 32))),.w (.one (.pl (.R false 1 (Av (Yz ad++Yz text++Kw ad.length++Kw text.length)))))] (fun v m=>v=.w (.agg (Az tg)))):
 CtM Tryz.prog 34 [.w (.agg (Az key)),.w (.agg (Az nonce)),.w (.one (.pl (.R ex1 1 (Av ad)))),.w (.one (.pl (.R ex2 1 (Av text))))] [] (Told (fun v m=>v=.w (.agg (Az tg))∧m=[])):=by
 have hP1:=g0h ad ex1 (by omega) p1
 have hpa:Yz ad=ad:=by simp [Yz,p1]
 have hP2:=g0h text ex2 (by omega) p2
 have hpt:Yz text=text:=by simp [Yz,p2]
 obtain ⟨a,ha⟩: ∃ q,Yz ad=q:=⟨_,rfl⟩
 have hal:a.length≤300:=by rw [←ha,hpa];omega
 obtain ⟨t,ht⟩: ∃ q,Yz text=q:=⟨_,rfl⟩
 have htl:t.length≤900:=by rw [←ht,hpt];omega
 have hE1:=h0j ad.length (by omega)
 have hE2:=h0j text.length (by omega)
 obtain ⟨e,he⟩: ∃ q,Kw ad.length=q:=⟨_,rfl⟩
 have hel:e.length=8:=by rw [←he];rfl
 obtain ⟨f,hf⟩: ∃ q,Kw text.length=q:=⟨_,rfl⟩
 have hfl:f.length=8:=by rw [←hf];rfl
 rw [ha] at hT hpa
 subst hpa
 rw [ht] at hT hpt
 subst hpt
 rw [he] at hE1 hT
 rw [hf] at hE2 hT
 have hq1:a.length+t.length≤140737488355328:=by omega
 have hq2:a.length+t.length+8≤140737488355328:=by omega
 have hq3:a.length+t.length+8+8≤140737488355328:=by omega
 obtain ⟨z,hz⟩: ∃ q,a++t++e++f=q:=⟨_,rfl⟩
 have hzl:z.length=a.length+t.length+8+8:=by rw [←hz];simp only [yG,hel,hfl]
 rw [hz] at hT
 have hch:chunks 1 (a.length+t.length+8+8) (z.map PL.u8)=Av z:=Gj hzl
 have hm1:min 64 32=32:=rfl
 have hm2:min 32 64=32:=rfl
 have hdr:List.drop 32 (List.replicate 32 (0:UInt8))=[]:=rfl
 obtain ⟨o32,ho⟩: ∃ q,once.take 32=q:=⟨_,rfl⟩
 have hol:o32.length=32:=by rw [←ho,yH];omega
 rw [ho] at hT
 have ht0:t=[]:=xH q2
 have hz0:a++(e++f)=z:=by rw [←hz,ht0,wY,wM]
 have hz1:a++e++f=z:=by rw [←hz,ht0,wY]
 have hch0:chunks 1 (a.length+8+8) (z.map PL.u8)=Av z:=by have:=hch;rw [ht0] at this;exact this
 have hq0:a.length+8≤140737488355328:=by omega
 have hq00:a.length+8+8≤140737488355328:=by omega
 have F0:=yA hk<|yA hn<|yA h64<|yA htg<|yA hel<|yA hfl<|yA hq1<|yA hq2<|yA hq3<|yA hz<|yA hzl<|yA ho<|yA hol<|yA hm1<|yA hm2<|yA hdr<|yA hch<|yA q2<|yA hz0<|yA hz1<|yA hch0<|yA hq0<|hq00
 refine CtM.go Tryz.func34 rfl Tryz.ntmps34 Tryz.results34 fun w0 ro may fx zZ zhY=>?_
 have cq:=yA ((hB.plain fun _ _ h=>h))<|trivial
 refine (fun zX=>goW) ?_
 refine Sk (id:=3) [15,16,17] [0,0,3] [] mixed (by kernel_rfl) (by simp only [go_sem]) fun zK zhK=>?_
 simp only [go_sem,F0]
 repeat' (first|apply yA|intro _)
 refine zhK _ _ trivial ?_
 have cq:=yA (CtM.ch [] (hP1.hands))<|yA (CtM.ch [] (hP2.hands))<|trivial
 refine (fun zX=>goW) ?_
 refine c1z (id:=5) mixed fun zE zhE=>?_
 refine Ij (p:=0) 10 [23,24,25,26,27,28,29,30,31,32] [0,0,0,4,12,30,0,64,254,510,1023,2047] [(0,5),(5,6),(5,7),(0,9)] rfl (by kernel_rfl) rfl (by simp only [go_sem]) fun zR zK zhR zhK=>?_
 simp only [go_sem,F0]
 repeat' (first|apply yA|intro _)
 all_goals (refine Hz (fun _=>27) (.w (.one (.s 0 [] e.length 1))) [(0,⟨true,Az e⟩)] (fun _ _=>rfl) ?_ ?_ ?_ hE1.told ?_ ?_;(iterate 2 (focus (first|rfl|(simp only [go_sem,F0]<;>first|done|rfl|simp))));(first|kernel_rfl|rfl|simp [o0d,r0k,pls]))
 all_goals try (refine yA ?_ (yA ?_ (yA ?_ ?_))<;>(first|rfl|(simp only [go_sem,F0];done)|(simp [go_sem,look,F0];done)))
 all_goals (try simp only [go_sem,F0])
 all_goals (try simp only [go_sem,F0])
 all_goals repeat' (first|apply yA|intro _)
 all_goals (refine Hz (fun _=>31) (.w (.one (.s 0 [] f.length 1))) [(0,⟨true,Az f⟩)] (fun _ _=>rfl) ?_ ?_ ?_ hE2.told ?_ ?_;(iterate 2 (focus (first|rfl|(simp only [go_sem,F0]<;>first|done|rfl|simp))));(first|kernel_rfl|rfl|simp [o0d,r0k,pls]))
 all_goals try (refine yA ?_ (yA ?_ (yA ?_ ?_))<;>(first|rfl|(simp only [go_sem,F0];done)|(simp [go_sem,look,F0];done)))
 all_goals (try simp only [go_sem,F0])
 all_goals (try simp only [go_sem,F0])
 all_goals repeat' (first|apply yA|intro _)
 refine zhK _ _ ?_ (zhR _ ?_)
 focus (first|trivial|(simp only [go_sem];done)|(simp only [go_sem];simp;done)|(simp only [go_sem];simp;simp only [go_sem]))
 refine Mx 2 12 rfl (by kernel_rfl) rfl rfl fun zR zhR=>?_
 simp only [go_sem,F0]
 repeat' (first|apply yA|intro _)
 all_goals (refine Cv (fun k=>k) (fun _ _=>rfl) ?_ (hT.plain fun _ _ h=>h) ?_;focus (first|rfl|(simp only [go_sem,F0]<;>rfl)))
 all_goals (rintro v m ⟨hR,hm⟩;subst hR;subst hm)
 all_goals refine yA (by first|rfl|simp only [go_sem,F0]) (yA (by first|rfl|simp only [go_sem,F0]) ?_)
 all_goals simp only [go_sem,F0]
 all_goals repeat' (first|apply yA|intro _)
 refine zhR _ ?_
 refine b0b rfl (zhE _ ?_)
 refine (fun zX=>goW) ?_
 refine zhY _ _ ?_
 simp only [go_sem,F0]
 all_goals (exact told_plain (by simp [Dv,Ew,Az]) ⟨rfl,rfl⟩)
end Go.Sy
