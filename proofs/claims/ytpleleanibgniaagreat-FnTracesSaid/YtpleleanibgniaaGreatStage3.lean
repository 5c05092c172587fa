/- Stage3: lemmas. No conditions. -/
import Derived.Test.YtpleleanibgniaaGreatZero2
import Derived.Test.YtpleleanibgniaaGreatSame3
namespace Go.Proofs.YtpleleanibgniaaGreat
noncomputable section
set_option maxRecDepth 100000
open Go.ChangeShapes Go.WideShapes Go.ChangeAt Go.RowKit Go.Deep
set_option linter.unusedVariables false
set_option linter.unusedSimpArgs false
def jG (m:List dE):Int:=if bT m=true then (m.getD 0 zOp).2.1 else 0
def fI (m:List dE):Int:=if bT m=true then (m.getD (m.length - 1) zOp).2.2.1 else 0
def gC (v:List Int) (n:Int):Bool:=kO v&&decide ((v.length:Int)=n)
theorem tO (v:List Int) (n:Int):gC v n=true↔kO v=true∧(v.length:Int)=n:=by unfold gC;rw[Bool.and_eq_true,decide_eq_true_eq]
def lU (v:List Int) (n:Int):Bool:=decide (v.length=0) || gC v n
def lY (m:List dE) (i:Nat):Int:=if i<m.length then (m.getD i zOp).2.1 else (m.getD (m.length - 1) zOp).2.2.1
def rY (m:List dE) (r:List (List Int)) (n:Nat):Bool:=(List.range n).all fun i=>gC (r.getD i []) (lY m i)
theorem aAG (m:List dE) (r:List (List Int)) (n:Nat):rY m r n=true↔∀ i,i<n→gC (r.getD i []) (lY m i)=true:=by unfold rY;simp only[List.all_eq_true,List.mem_range]
def aC8 (m:List dE) (redo:Bool):Nat:=if redo=true then 1 else m.length+1
def oV (m:List dE) (redo:Bool) (x:Int × List (List Int)):Bool:=decide (x.2.length=aC8 m redo)&&rY m x.2 (aC8 m redo)
theorem aV6 (m:List dE) (redo:Bool) (x:Int × List (List Int)):oV m redo x=true↔x.2.length=aC8 m redo∧∀ i,i<aC8 m redo→gC (x.2.getD i []) (lY m i)=true:=by unfold oV;rw[Bool.and_eq_true,decide_eq_true_eq,aAG]
def hZ (s:bC):Bool:=bT s.2.2.1&&(decide (0≤s.1∧s.1≤(s.2.1.length:Int))&&(aND s.2.2.1 s.2.2.2.2.2.2.2.2.2.2.2.1&&(s.2.2.2.2.2.1.all (oV s.2.2.1 s.2.2.2.2.1) &&
 (lU s.2.2.2.2.2.2.2.1 (jG s.2.2.1)&&(lU s.2.2.2.2.2.2.2.2.2.2.1 (jG s.2.2.1)&&(lU s.2.2.2.2.2.2.2.2.1 (fI s.2.2.1)&&lU s.2.2.2.2.2.2.2.2.2.1 (fI s.2.2.1)))))))
theorem fY (s:bC):hZ s=true↔bT s.2.2.1=true∧(0≤s.1∧s.1≤(s.2.1.length:Int))∧aND s.2.2.1 s.2.2.2.2.2.2.2.2.2.2.2.1=true∧s.2.2.2.2.2.1.all (oV s.2.2.1 s.2.2.2.2.1)=true ∧
 lU s.2.2.2.2.2.2.2.1 (jG s.2.2.1)=true∧lU s.2.2.2.2.2.2.2.2.2.2.1 (jG s.2.2.1)=true∧lU s.2.2.2.2.2.2.2.2.1 (fI s.2.2.1)=true∧lU s.2.2.2.2.2.2.2.2.2.1 (fI s.2.2.1)=true:=by
 unfold hZ;simp only[Bool.and_eq_true,decide_eq_true_eq]
theorem bGV {v:List Int} {n:Int} (h:kO v=false):false=gC v n:=by unfold gC;rw[h];rfl
theorem bGN {v:List Int} {n:Int} (h:kO v=true):((v.length:Int)==n)=gC v n:=by unfold gC;rw[h,Bool.true_and];rfl
theorem aL5 {s:bC} {k:Nat} (hk:k<s.2.2.2.2.2.1.length) (h:¬ oV s.2.2.1 s.2.2.2.2.1 (s.2.2.2.2.2.1.getD k (aS aM))=true):false=hZ s:=by
 refine (Bool.eq_false_iff.2 fun hh=>?_).symm
 have h4:=((fY s).1 hh).2.2.2.1
 rw[List.all_eq_true] at h4
 exact h (h4 _ (by rw[bD hk];exact List.getElem_mem hk))
theorem aZ0 {s:bC} (h:∀ i,i<s.2.2.2.2.2.1.length→oV s.2.2.1 s.2.2.2.2.1 (s.2.2.2.2.2.1.getD i (aS aM))=true):s.2.2.2.2.2.1.all (oV s.2.2.1 s.2.2.2.2.1)=true:=by
 rw[List.all_eq_true]
 intro x hx
 obtain ⟨i,hi,rfl⟩:=List.getElem_of_mem hx
 have:=h i hi
 rwa [bD hi] at this
theorem aDP {m:List dE} {redo:Bool} {x:kR} {n:Nat} (hn:n=aC8 m redo):oV m redo x=true↔x.2.length=n∧rY m x.2 n=true:=by
 unfold oV;rw[Bool.and_eq_true,decide_eq_true_eq,hn]
theorem bB8 {s:bC} (h1:bT s.2.2.1=true) (h2:0≤s.1∧s.1≤(s.2.1.length:Int)) (h3:aND s.2.2.1 s.2.2.2.2.2.2.2.2.2.2.2.1=true) (h4:s.2.2.2.2.2.1.all (oV s.2.2.1 s.2.2.2.2.1)=true) :
  hZ s=(lU s.2.2.2.2.2.2.2.1 (jG s.2.2.1)&&(lU s.2.2.2.2.2.2.2.2.2.2.1 (jG s.2.2.1)&&(lU s.2.2.2.2.2.2.2.2.1 (fI s.2.2.1)&&lU s.2.2.2.2.2.2.2.2.2.1 (fI s.2.2.1)))):=by
 unfold hZ;rw[h1,h3,h4];simp[h2]
theorem aCV {s:bC} (h:bT s.2.2.1=false∨s.1<0∨(s.2.1.length:Int)<s.1∨aND s.2.2.1 s.2.2.2.2.2.2.2.2.2.2.2.1=false∨lU s.2.2.2.2.2.2.2.1 (jG s.2.2.1)=false∨lU s.2.2.2.2.2.2.2.2.2.2.1 (jG s.2.2.1)=false∨lU s.2.2.2.2.2.2.2.2.1 (fI s.2.2.1)=false):false=hZ s:=by
 refine (Bool.eq_false_iff.2 fun hh=>?_).symm
 obtain ⟨h1,h2,h3,h4,h5,h6,h7,h8⟩:=(fY s).1 hh
 rcases h with h|h|h|h|h|h|h
 ·rw[h] at h1;cases h1
 ·omega
 ·omega
 ·rw[h] at h3;cases h3
 ·rw[h] at h5;cases h5
 ·rw[h] at h6;cases h6
 ·rw[h] at h7;cases h7
def cR:Con:=⟨72,aB,.bool,[.val ⟨false,aB,[]⟩],[⟨false,.bool,[0]⟩],false,none,
 ((fun _=>True):(List Int)→Prop),
 ((fun x=>kO x):(List Int)→(Bool))⟩
def aEI:T :=
 .bJ3 (.bJ6 3 tI) (.Z 0) <|
 .bJ3 (.cmp .geq .i64) (.bJ4 tI tI (.Z 1) (.ci .i64 1)) <|
 .ite (.Z 2) (
  .bJ3 (.bJ6 3 tI) (.Z 0) <|
  .bJ3 (.cmp .leq .i64) (.bJ4 tI tI (.Z 3) (.ci .i64 6)) <|
  .ite (.Z 4) (
   .call 0 (.Z 0) <|
   .ret (.Z 5)) (
   .ret (.cb false))) (
  .ret (.cb false))
theorem aZ6:bV Tryz.prog [fS] cR false 3000 ⟨[],[]⟩ = .ok aEI:=by kernel_rfl
theorem aXK (x:List Int) (hx:okD aB x) (hp:(fun _=>True) x):aEI.wp [fS] [⟨aB,x⟩] [] (fun v=>v.as .bool=(fun x=>kO x) x):=by
 delta aEI fS;refine eE ?_;try with_reducible exact True.intro
 (repeat' first|intro _|(with_reducible apply And.intro))
 all_goals simp only[zO] at *
 all_goals first|(first|(refine (Bool.eq_false_iff.2 ?_).symm;rw[ne_eq,dB];intro hh;omega)|(refine (dB.2 ?_).symm;omega))|(rw[Bool.eq_iff_iff,dB];exact ⟨fun h=>⟨by omega,by omega,h⟩,fun h=>h.2.2⟩)
theorem mF:Con.Holds Tryz.prog cR:=aV aX (aG aAP aT) aZ6 aXK
def bZ:Con:=⟨76,(.bJ2 aB tI),.bool,[.val ⟨false,aB,[]⟩,.val ⟨false,tI,[]⟩],[⟨false,.bool,[0]⟩],false,none,
 ((fun _=>True):(bH × Int)→Prop),
 ((fun x=>gC x.1 x.2):(bH × Int)→(Bool))⟩
def aD9:T:=.call 0 (.p1 aB tI (.Z 0)) <|.ite (.Z 1) (
 .bJ3 (.bJ6 3 tI) (.p1 aB tI (.Z 0)) <|
 .bJ3 (.cmp .eql .i64) (.bJ4 tI tI (.Z 2) (aR (.bJ2 aB tI) 1 (.Z 0))) <|
 .ret (.Z 3)) (
 .ret (.cb false))
theorem aYO:bV Tryz.prog [cR] bZ false 3000 ⟨[],[]⟩ = .ok aD9:=by kernel_rfl
theorem aZ5 (x:bH × Int) (hx:okD (.bJ2 aB tI) x) (hp:(fun _=>True) x):aD9.wp [cR] [⟨(.bJ2 aB tI),x⟩] [] (fun v=>v.as .bool=(fun x=>gC x.1 x.2) x):=by
 delta aD9 cR;refine eE ?_
 exact ⟨fun h _=>bGN h,fun h=>bGV h⟩
theorem iM:Con.Holds Tryz.prog bZ:=aV aX (aG mF aT) aYO aZ5
def jQ:Con:=⟨77,aD,tI,[.val ⟨true,aD,[]⟩],[⟨false,tI,[0]⟩],false,none,
 ((fun _=>True):(aW)→Prop),
 ((fun x=>jG x):(aW)→(Int))⟩
def aGL:T:=.call 0 (.Z 0) <|
 .bJ3 .not (.Z 1) <|
 .ite (.Z 2) (
  .ret (.ci .i64 0)) (
  .bJ3 (.bJ7 93 bN) (.bJ4 aD tI (.Z 0) (.ci .i64 0)) <|
  .ret (aJ bN 1 (.Z 3)))
theorem bD7:bV Tryz.prog [dL] jQ false 3000 ⟨[],[]⟩ = .ok aGL:=by kernel_rfl
theorem bCH (x:aW) (hx:okD aD x) (hp:(fun _=>True) x):aGL.wp [dL] [⟨aD,x⟩] [] (fun v=>v.as tI=(fun x=>jG x) x):=by
 delta aGL dL;refine eE ?_
 refine ⟨fun h=>?_,fun h=>?_⟩
 all_goals simp only[zO] at h
 ·unfold jG;rw[h];rfl
 ·have:=(bR x).1 h
  refine ⟨by omega,fun _=>?_⟩
  unfold jG;rw[if_pos h];rfl
theorem aIX:Con.Holds Tryz.prog jQ:=aV aX (aG rF aT) bD7 bCH
def gX:Con:=⟨79,aD,tI,[.val ⟨true,aD,[]⟩],[⟨false,tI,[0]⟩],false,none,
 ((fun _=>True):(aW)→Prop),
 ((fun x=>fI x):(aW)→(Int))⟩
def aDU:T:=.call 0 (.Z 0) <|
 .bJ3 .not (.Z 1) <|
 .ite (.Z 2) (
  .ret (.ci .i64 0)) (
  .bJ3 (.bJ6 93 bN) (.Z 0) <|
  .bJ3 (.ar .sub .i64) (.bJ4 tI tI (.Z 3) (.ci .i64 1)) <|
  .bJ3 (.bJ7 93 bN) (.bJ4 aD tI (.Z 0) (.Z 4)) <|
  .ret (aJ bN 2 (.Z 5)))
theorem aY2:bV Tryz.prog [dL] gX false 3000 ⟨[],[]⟩ = .ok aDU:=by kernel_rfl
theorem aXV (x:aW) (hx:okD aD x) (hp:(fun _=>True) x):aDU.wp [dL] [⟨aD,x⟩] [] (fun v=>v.as tI=(fun x=>fI x) x):=by
 delta aDU dL;refine eE ?_
 refine ⟨fun h=>?_,fun h=>?_⟩
 all_goals simp only[zO] at h
 ·unfold fI;rw[h];rfl
 ·have:=(bR x).1 h
  refine fun _=>⟨by omega,fun _=>⟨by omega,fun _=>?_⟩⟩
  unfold fI;rw[if_pos h,vE];rfl
theorem aER:Con.Holds Tryz.prog gX:=aV aX (aG rF aT) aY2 aXV
def nN:Con:=⟨98,(.bJ2 aB tI),.bool,[.val ⟨false,aB,[]⟩,.val ⟨false,tI,[]⟩],[⟨false,.bool,[0]⟩],false,none,
 ((fun _=>True):(bH × Int)→Prop),
 ((fun x=>lU x.1 x.2):(bH × Int)→(Bool))⟩
def yC:T :=
 .bJ3 (.bJ6 3 tI) (.p1 aB tI (.Z 0)) <|
 .bJ3 (.cmp .eql .i64) (.bJ4 tI tI (.Z 1) (.ci .i64 0)) <|
 .ite (.Z 2) (
  .ret (.cb true)) (
  .call 0 (.Z 0) <|
  .ret (.Z 3))
theorem aOR:bV Tryz.prog [bZ] nN false 3000 ⟨[],[]⟩ = .ok yC:=by kernel_rfl
theorem aPE (x:bH × Int) (hx:okD (.bJ2 aB tI) x) (hp:(fun _=>True) x):yC.wp [bZ] [⟨(.bJ2 aB tI),x⟩] [] (fun v=>v.as .bool=(fun x=>lU x.1 x.2) x):=by
 delta yC bZ;refine eE ?_
 intro _
 refine eL ?_
 refine ⟨fun h=>?_,fun h=>?_⟩
 ·unfold lU;rw[decide_eq_true (by omega)];rfl
 ·unfold lU;rw[decide_eq_false (by omega)];rfl
theorem aRS:Con.Holds Tryz.prog nN:=aV aX (aG iM aT) aOR aPE
def jL:Con:=⟨86,(.bJ2 aD (.bJ2 aP tI)),.bool,[.val ⟨false,aD,[]⟩,.val ⟨false,aP,[]⟩,.val ⟨false,tI,[]⟩],[⟨false,.bool,[0]⟩],false,none,
 ((fun x=>bT x.1=true∧x.2.2≤(x.2.1.length:Int)):(aW × (dT × Int))→Prop),
 ((fun x=>rY x.1 x.2.1 x.2.2.toNat):(aW × (dT × Int))→(Bool))⟩
def aBA:T:=.loop tI (.ci .i64 0) <|
 .bJ3 (.cmp .lss .i64) (.bJ4 tI tI (.Z 1) (aR (.bJ2 aD (.bJ2 aP tI)) 2 (.Z 0))) <|
 .ite (.Z 2) (
  .bJ3 (.bJ6 93 bN) (.p1 aD (.bJ2 aP tI) (.Z 0)) <|
  .bJ3 (.ar .sub .i64) (.bJ4 tI tI (.Z 3) (.ci .i64 1)) <|
  .bJ3 (.bJ7 93 bN) (.bJ4 aD tI (.p1 aD (.bJ2 aP tI) (.Z 0)) (.Z 4)) <|
  .bJ3 (.bJ6 93 bN) (.p1 aD (.bJ2 aP tI) (.Z 0)) <|
  .bJ3 (.cmp .lss .i64) (.bJ4 tI tI (.Z 1) (.Z 6)) <|
  .ite (.Z 7) (
   .bJ3 (.bJ7 93 bN) (.bJ4 aD tI (.p1 aD (.bJ2 aP tI) (.Z 0)) (.Z 1)) <|
   .bJ3 (.bJ7 124 aB) (.bJ4 aP tI (aJ (.bJ2 aD (.bJ2 aP tI)) 1 (.Z 0)) (.Z 1)) <|
   .call 0 (.bJ4 aB tI (.Z 9) (aJ bN 1 (.Z 8))) <|
   .bJ3 .not (.Z 10) <|
   .ite (.Z 11) (
    .ret (.cb false)) (
    .bJ3 (.ar .add .i64) (.bJ4 tI tI (.Z 1) (.ci .i64 1)) <|
    .bJ5 0 (.Z 12))) (
   .bJ3 (.bJ7 124 aB) (.bJ4 aP tI (aJ (.bJ2 aD (.bJ2 aP tI)) 1 (.Z 0)) (.Z 1)) <|
   .call 0 (.bJ4 aB tI (.Z 8) (aJ bN 2 (.Z 5))) <|
   .bJ3 .not (.Z 9) <|
   .ite (.Z 10) (
    .ret (.cb false)) (
    .bJ3 (.ar .add .i64) (.bJ4 tI tI (.Z 1) (.ci .i64 1)) <|
    .bJ5 0 (.Z 11)))) (
  .ret (.cb true))
theorem aS7:bV Tryz.prog [bZ] jL false 3000 ⟨[(2993,1001,[.tm 7 0])],[]⟩ = .ok aBA:=by kernel_rfl
theorem aTI (x:aW × (dT × Int)) (hx:okD (.bJ2 aD (.bJ2 aP tI)) x) (hp:(fun x=>bT x.1=true∧x.2.2≤(x.2.1.length:Int)) x):aBA.wp [bZ] [⟨(.bJ2 aD (.bJ2 aP tI)),x⟩] [] (fun v=>v.as .bool=(fun x=>rY x.1 x.2.1 x.2.2.toNat) x):=by
 obtain ⟨m,r,n⟩:=x
 obtain ⟨hm,hn⟩:bT m=true∧n≤(r.length:Int):=hp
 have hr:r.length≤9223372036854775807:=hx.2.1.1
 have hm1:=(bR m).1 hm
 delta aBA bZ;refine eE ?_
 refine ⟨fun s=>∃ k:Nat,k≤n.toNat∧s=(k:Int)∧∀ i,i<k→gC (r.getD i []) (lY m i)=true,fun s=>n.toNat - (s:Int).toNat,⟨0,by omega,rfl,by omega⟩,fun s _ hI=>?_⟩
 obtain ⟨k,hk,rfl,ha⟩:=hI
 refine eL ?_
 have bad:k<n.toNat→∀ z:Int,z=lY m k→gC (r.getD k []) z=false→false=rY m r n.toNat:=fun h z hz hv=>by
  refine (Bool.eq_false_iff.2 fun hh=>?_).symm
  have:=(aAG _ _ _).1 hh k h
  rw[← hz,hv] at this;cases this
 have good:∀ z:Int,z=lY m k→gC (r.getD k []) z=true→∀ i,i<k+1→gC (r.getD i []) (lY m i)=true:=fun z hz hv i hi=>by
  rcases Nat.lt_or_eq_of_le (Nat.le_of_lt_succ hi) with h|rfl
  ·exact ha i h
  ·rw[← hz];exact hv
 constructor
 ·intro hlt
  have e1:(m.getD (m.length - 1) (aS bN)).2.2.1=(m.getD (m.length - 1) zOp).2.2.1:=rfl
  have e2:(m.getD k (aS bN)).2.1=(m.getD k zOp).2.1:=rfl
  have z1:k<m.length→(m.getD k zOp).2.1=lY m k:=fun h=>by unfold lY;rw[if_pos h]
  have z2:¬ k<m.length→(m.getD (m.length - 1) zOp).2.2.1=lY m k:=fun h=>by unfold lY;rw[if_neg h]
  (repeat' first|intro _|(with_reducible apply And.intro))
  all_goals first|omega|(exact bad (by omega) _ (z1 (by omega)) (by assumption))|(exact bad (by omega) _ (z2 (by omega)) (by assumption))|(exact ⟨k+1,by omega,rfl,good _ (z1 (by omega)) (by assumption)⟩)|(exact ⟨k+1,by omega,rfl,good _ (z2 (by omega)) (by assumption)⟩)
 ·intro hge
  exact ((aAG _ _ _).2 fun i hi=>ha i (by omega)).symm
theorem aHX:Con.Holds Tryz.prog jL:=aV aX (aG iM aT) aS7 aTI
def dK:Con:=⟨74,aA,.bool,[.val ⟨true,aA,[]⟩],[⟨false,.bool,[0]⟩],false,none,
 ((fun _=>True):(bC)→Prop),
 ((fun x=>hZ x):(bC)→(Bool))⟩
def wD:T:=.call 0 (.Z 0) <|.call 1 (.Z 1) <|
 .bJ3 .not (.Z 2) <|
 .ite (.Z 3) (
  .ret (.cb false)) (
  .bJ3 (.cmp .lss .i64) (.bJ4 tI tI (.p1 tI fJ (.Z 0)) (.ci .i64 0)) <|
  .ite (.Z 4) (
   .ret (.cb false)) (
   .bJ3 (.bJ6 52 aC) (aJ aA 1 (.Z 0)) <|
   .bJ3 (.cmp .gtr .i64) (.bJ4 tI tI (.p1 tI fJ (.Z 0)) (.Z 5)) <|
   .ite (.Z 6) (
    .ret (.cb false)) (
    .call 2 (.bJ4 aD aP (.Z 1) (aJ aA 11 (.Z 0))) <|
    .bJ3 .not (.Z 7) <|
    .ite (.Z 8) (
     .ret (.cb false)) (
     .bJ3 (.bJ6 93 bN) (aJ aA 2 (.Z 0)) <|
     .bJ3 (.ar .add .i64) (.bJ4 tI tI (.Z 9) (.ci .i64 1)) <|
     .ite (aJ aA 4 (.Z 0)) (
      .bJ3 (.bJ6 133 aM) (aJ aA 5 (.Z 0)) <|
      .loop tI (.ci .i64 0) <|
       .bJ3 (.cmp .lss .i64) (.bJ4 tI tI (.Z 12) (.Z 11)) <|
       .ite (.Z 13) (
        .bJ3 (.bJ7 133 aM) (.bJ4 (.slice 133 aM) tI (aJ aA 5 (.Z 0)) (.Z 12)) <|
        .bJ3 (.bJ6 124 aB) (aR aM 1 (.Z 14)) <|
        .bJ3 (.cmp .neq .i64) (.bJ4 tI tI (.Z 15) (.ci .i64 1)) <|
        .ite (.Z 16) (
         .ret (.cb false)) (
         .call 3 (bJ (.bJ2 aD (.bJ2 aP tI)) [(aJ aA 2 (.Z 0)),(aR aM 1 (.Z 14)),(.ci .i64 1)]) <|
         .bJ3 .not (.Z 17) <|
         .ite (.Z 18) (
          .ret (.cb false)) (
          .bJ3 (.ar .add .i64) (.bJ4 tI tI (.Z 12) (.ci .i64 1)) <|
          .bJ5 0 (.Z 19)))) (
        .call 4 (.Z 1) <|
        .call 5 (.Z 1) <|
        .call 6 (.bJ4 aB tI (aJ aA 7 (.Z 0)) (.Z 14)) <|
        .ite (.Z 16) (
         .call 6 (.bJ4 aB tI (aJ aA 10 (.Z 0)) (.Z 14)) <|
         .ite (.Z 17) (
          .call 6 (.bJ4 aB tI (aJ aA 8 (.Z 0)) (.Z 15)) <|
          .ite (.Z 18) (
           .call 6 (.bJ4 aB tI (aJ aA 9 (.Z 0)) (.Z 15)) <|
           .ret (.Z 19)) (
           .ret (.cb false))) (
          .ret (.cb false))) (
         .ret (.cb false)))) (
      .bJ3 (.bJ6 133 aM) (aJ aA 5 (.Z 0)) <|
      .loop tI (.ci .i64 0) <|
       .bJ3 (.cmp .lss .i64) (.bJ4 tI tI (.Z 12) (.Z 11)) <|
       .ite (.Z 13) (
        .bJ3 (.bJ7 133 aM) (.bJ4 (.slice 133 aM) tI (aJ aA 5 (.Z 0)) (.Z 12)) <|
        .bJ3 (.bJ6 124 aB) (aR aM 1 (.Z 14)) <|
        .bJ3 (.cmp .neq .i64) (.bJ4 tI tI (.Z 15) (.Z 10)) <|
        .ite (.Z 16) (
         .ret (.cb false)) (
         .call 3 (bJ (.bJ2 aD (.bJ2 aP tI)) [(aJ aA 2 (.Z 0)),(aR aM 1 (.Z 14)),(.Z 10)]) <|
         .bJ3 .not (.Z 17) <|
         .ite (.Z 18) (
          .ret (.cb false)) (
          .bJ3 (.ar .add .i64) (.bJ4 tI tI (.Z 12) (.ci .i64 1)) <|
          .bJ5 0 (.Z 19)))) (
        .call 4 (.Z 1) <|
        .call 5 (.Z 1) <|
        .call 6 (.bJ4 aB tI (aJ aA 7 (.Z 0)) (.Z 14)) <|
        .ite (.Z 16) (
         .call 6 (.bJ4 aB tI (aJ aA 10 (.Z 0)) (.Z 14)) <|
         .ite (.Z 17) (
          .call 6 (.bJ4 aB tI (aJ aA 8 (.Z 0)) (.Z 15)) <|
          .ite (.Z 18) (
           .call 6 (.bJ4 aB tI (aJ aA 9 (.Z 0)) (.Z 15)) <|
           .ret (.Z 19)) (
           .ret (.cb false))) (
          .ret (.cb false))) (
         .ret (.cb false))))))))
theorem aQW:bV Tryz.prog [dJ,dL,lE,jL,jQ,gX,nN] dK false 3000 ⟨[(2979,48012,mW 41 9++[.dr 0,.tm 44 0]),(2979,32012,mW 41 9++[.dr 0,.tm 44 0])],[]⟩ = .ok wD:=by kernel_rfl
theorem aP9 (x:bC) (hx:okD aA x) (hp:(fun _=>True) x):wD.wp [dJ,dL,lE,jL,jQ,gX,nN] [⟨aA,x⟩] [] (fun v=>v.as .bool=(fun x=>hZ x) x):=by
  have hst:x.2.2.2.2.2.1.length≤9223372036854775807:=hx.2.2.2.2.2.1.1
  delta wD dJ dL lE jL jQ gX nN;refine eE ?_
  refine eL ?_
  intro _
  refine ⟨fun h=>aCV (.inl h),fun h1=>⟨fun h=>aCV (.inr (.inl h)),fun h2 _=>⟨fun h=>aCV (.inr (.inr (.inl h))),fun h3=>⟨fun h=>aCV (.inr (.inr (.inr (.inl h)))),fun h4 _=>?_⟩⟩⟩⟩
  have hm:=(bR _).1 h1
  refine ⟨by omega,fun _=>⟨fun hr _=>?_,fun hr _=>?_⟩⟩
  all_goals
    refine ⟨fun s=>∃ k:Nat,k≤x.2.2.2.2.2.1.length∧s=(k:Int)∧∀ i,i<k→oV x.2.2.1 x.2.2.2.2.1 (x.2.2.2.2.2.1.getD i (aS aM))=true,fun s=>x.2.2.2.2.2.1.length - (s:Int).toNat,⟨0,by omega,rfl,by omega⟩,fun s _ hI=>?_⟩
    obtain ⟨k,hk,rfl,ha⟩:=hI
    refine eL ?_
    obtain ⟨n,hn⟩:∃ n,n=aC8 x.2.2.1 x.2.2.2.2.1:=⟨_,rfl⟩
    have hn1:=hn
    unfold aC8 at hn1
    rw[hr] at hn1
    simp only[if_true,Bool.false_eq_true,if_false] at hn1
    have hkn:=(hn1.symm.trans hn).symm
    clear hn hn1
    constructor
  rotate_left 1
  rotate_left 2
  all_goals first
    | (intro hge
       have hst:=aZ0 (s:=x) (fun i hi=>ha i (by omega))
       rw[bB8 h1 ⟨by omega,by omega⟩ h4 hst]
       (repeat' first|intro _|(with_reducible apply And.intro))
       all_goals simp_all
       done)
    | skip
  all_goals
    intro hlt
    have hk':k<x.2.2.2.2.2.1.length:=by omega
    (repeat' first|intro _|(with_reducible apply And.intro))
    all_goals first|omega|exact h1|(exact aL5 hk' fun hh=>by have:=((aDP hkn.symm).1 hh).1;omega)|skip
    all_goals first|(refine aL5 hk' fun hh=>?_;have h5:=((aDP hkn.symm).1 hh).2;exact Bool.noConfusion (h5.symm.trans (by assumption:_=false)))|(refine ⟨k+1,by omega,rfl,fun i hi=>?_⟩;rcases Nat.lt_or_eq_of_le (Nat.le_of_lt_succ hi) with h|rfl;exact ha i h;exact (aDP hkn.symm).2 ⟨by omega,by assumption⟩)
theorem qW:Con.Holds Tryz.prog dK:=aV aX (aG rA (aG rF (aG aNV (aG aHX (aG aIX (aG aER (aG aRS aT))))))) aQW aP9
end
end Go.Proofs.YtpleleanibgniaaGreat
