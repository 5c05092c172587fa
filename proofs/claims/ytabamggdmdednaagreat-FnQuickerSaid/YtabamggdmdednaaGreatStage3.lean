/- Stage3: lemmas. No conditions. -/
import Derived.Test.YtabamggdmdednaaGreatZero2
import Derived.Test.YtabamggdmdednaaGreatSame3
namespace Go.Proofs.YtabamggdmdednaaGreat
noncomputable section
set_option maxRecDepth 100000
open Go.ChangeShapes Go.WideShapes Go.ChangeAt Go.RowKit Go.Deep
set_option linter.unusedVariables false
set_option linter.unusedSimpArgs false
def jT (m:List dI):Int:=if cR m=true then (m.getD 0 zOp).2.1 else 0
def fH (m:List dI):Int:=if cR m=true then (m.getD (m.length - 1) zOp).2.2.1 else 0
def eQ (v:List Int) (n:Int):Bool:=iQ v&&decide ((v.length:Int)=n)
theorem cI (v:List Int) (n:Int):eQ v n=true↔iQ v=true∧(v.length:Int)=n:=by unfold eQ;rw[Bool.and_eq_true,decide_eq_true_eq]
def jK (v:List Int) (n:Int):Bool:=decide (v.length=0) || eQ v n
def gB (m:List dI) (i:Nat):Int:=if i<m.length then (m.getD i zOp).2.1 else (m.getD (m.length - 1) zOp).2.2.1
theorem aYS {m:List dI} (h:cR m=true) {k:Nat} (hk:k<m.length):gB m (k+1)=(m.getD k zOp).2.2.1:=by
 unfold gB
 split
 ·rename_i h1
  have h2:=((bY m).1 h).2.2 (k+1) h1
  rw[xI m h1] at h2
  rcases h2.2 with h3|h3
  ·omega
  ·rw[aZ h1,aZ hk]
   exact h3.symm
 ·have:m.length - 1=k:=by omega
  rw[this]
def rL (m:List dI) (r:List (List Int)) (n:Nat):Bool:=(List.range n).all fun i=>eQ (r.getD i []) (gB m i)
theorem nI (m:List dI) (r:List (List Int)) (n:Nat):rL m r n=true↔∀ i,i<n→eQ (r.getD i []) (gB m i)=true:=by unfold rL;simp only[List.all_eq_true,List.mem_range]
def aAK (m:List dI) (redo:Bool):Nat:=if redo=true then 1 else m.length+1
def oI (m:List dI) (redo:Bool) (x:Int × List (List Int)):Bool:=decide (x.2.length=aAK m redo)&&rL m x.2 (aAK m redo)
theorem aLS (m:List dI) (redo:Bool) (x:Int × List (List Int)):oI m redo x=true↔x.2.length=aAK m redo∧∀ i,i<aAK m redo→eQ (x.2.getD i []) (gB m i)=true:=by unfold oI;rw[Bool.and_eq_true,decide_eq_true_eq,nI]
def gR (s:bC):Bool:=cR s.2.2.1&&(decide (0≤s.1∧s.1≤(s.2.1.length:Int))&&(aPF s.2.2.1 s.2.2.2.2.2.2.2.2.2.2.2.1&&(s.2.2.2.2.2.1.all (oI s.2.2.1 s.2.2.2.2.1) &&
 (jK s.2.2.2.2.2.2.2.1 (jT s.2.2.1)&&(jK s.2.2.2.2.2.2.2.2.2.2.1 (jT s.2.2.1)&&(jK s.2.2.2.2.2.2.2.2.1 (fH s.2.2.1)&&jK s.2.2.2.2.2.2.2.2.2.1 (fH s.2.2.1)))))))
theorem eJ (s:bC):gR s=true↔cR s.2.2.1=true∧(0≤s.1∧s.1≤(s.2.1.length:Int))∧aPF s.2.2.1 s.2.2.2.2.2.2.2.2.2.2.2.1=true∧s.2.2.2.2.2.1.all (oI s.2.2.1 s.2.2.2.2.1)=true ∧
 jK s.2.2.2.2.2.2.2.1 (jT s.2.2.1)=true∧jK s.2.2.2.2.2.2.2.2.2.2.1 (jT s.2.2.1)=true∧jK s.2.2.2.2.2.2.2.2.1 (fH s.2.2.1)=true∧jK s.2.2.2.2.2.2.2.2.2.1 (fH s.2.2.1)=true:=by
 unfold gR;simp only[Bool.and_eq_true,decide_eq_true_eq]
theorem aC6 {v:List Int} {n:Int} (h:iQ v=false):false=eQ v n:=by unfold eQ;rw[h];rfl
theorem bKE {v:List Int} {n:Int} (h:iQ v=true):((v.length:Int)==n)=eQ v n:=by unfold eQ;rw[h,Bool.true_and];rfl
theorem aJA {s:bC} {k:Nat} (hk:k<s.2.2.2.2.2.1.length) (h:¬ oI s.2.2.1 s.2.2.2.2.1 (s.2.2.2.2.2.1.getD k (aW aF))=true):false=gR s:=by
 refine (Bool.eq_false_iff.2 fun hh=>?_).symm
 have h4:=((eJ s).1 hh).2.2.2.1
 rw[List.all_eq_true] at h4
 exact h (h4 _ (by rw[aZ hk];exact List.getElem_mem hk))
theorem aRA {s:bC} (h:∀ i,i<s.2.2.2.2.2.1.length→oI s.2.2.1 s.2.2.2.2.1 (s.2.2.2.2.2.1.getD i (aW aF))=true):s.2.2.2.2.2.1.all (oI s.2.2.1 s.2.2.2.2.1)=true:=by
 rw[List.all_eq_true]
 intro x hx
 obtain ⟨i,hi,rfl⟩:=List.getElem_of_mem hx
 have:=h i hi
 rwa [aZ hi] at this
theorem aJ1 {m:List dI} {redo:Bool} {x:eX} {n:Nat} (hn:n=aAK m redo):oI m redo x=true↔x.2.length=n∧rL m x.2 n=true:=by
 unfold oI;rw[Bool.and_eq_true,decide_eq_true_eq,hn]
theorem aZG {s:bC} (h1:cR s.2.2.1=true) (h2:0≤s.1∧s.1≤(s.2.1.length:Int)) (h3:aPF s.2.2.1 s.2.2.2.2.2.2.2.2.2.2.2.1=true) (h4:s.2.2.2.2.2.1.all (oI s.2.2.1 s.2.2.2.2.1)=true) :
  gR s=(jK s.2.2.2.2.2.2.2.1 (jT s.2.2.1)&&(jK s.2.2.2.2.2.2.2.2.2.2.1 (jT s.2.2.1)&&(jK s.2.2.2.2.2.2.2.2.1 (fH s.2.2.1)&&jK s.2.2.2.2.2.2.2.2.2.1 (fH s.2.2.1)))):=by
 unfold gR;rw[h1,h3,h4];simp[h2]
theorem oP {s:bC} (h:cR s.2.2.1=false∨s.1<0∨(s.2.1.length:Int)<s.1∨aPF s.2.2.1 s.2.2.2.2.2.2.2.2.2.2.2.1=false∨jK s.2.2.2.2.2.2.2.1 (jT s.2.2.1)=false∨jK s.2.2.2.2.2.2.2.2.2.2.1 (jT s.2.2.1)=false∨jK s.2.2.2.2.2.2.2.2.1 (fH s.2.2.1)=false):false=gR s:=by
 refine (Bool.eq_false_iff.2 fun hh=>?_).symm
 obtain ⟨h1,h2,h3,h4,h5,h6,h7,h8⟩:=(eJ s).1 hh
 rcases h with h|h|h|h|h|h|h
 ·rw[h] at h1;cases h1
 ·omega
 ·omega
 ·rw[h] at h3;cases h3
 ·rw[h] at h5;cases h5
 ·rw[h] at h6;cases h6
 ·rw[h] at h7;cases h7
def dE:Con:=⟨131,aB,.bool,[.val ⟨false,aB,[]⟩],[⟨false,.bool,[0]⟩],false,none,
 ((fun _=>True):(List Int)→Prop),
 ((fun x=>iQ x):(List Int)→(Bool))⟩
def aIZ:T :=
 .bRX (.bS0 3 tI) (.Z 0) <|
 .bRX (.cmp .geq .i64) (.bRY tI tI (.Z 1) (.ci .i64 1)) <|
 .ite (.Z 2) (
  .bRX (.bS0 3 tI) (.Z 0) <|
  .bRX (.cmp .leq .i64) (.bRY tI tI (.Z 3) (.ci .i64 6)) <|
  .ite (.Z 4) (
   .call 0 (.Z 0) <|
   .ret (.Z 5)) (
   .ret (.cb false))) (
  .ret (.cb false))
theorem bGT:bI Tryz.prog [iN] dE false 3000 ⟨[],[]⟩ = .ok aIZ:=by kernel_rfl
theorem bGX (x:List Int) (hx:okD aB x) (hp:(fun _=>True) x):aIZ.wp [iN] [⟨aB,x⟩] [] (fun v=>v.as .bool=(fun x=>iQ x) x):=by
 delta aIZ iN;refine cW ?_;try with_reducible exact True.intro
 (repeat' first|intro _|(with_reducible apply And.intro))
 all_goals simp only[mG] at *
 all_goals first|(first|(refine (Bool.eq_false_iff.2 ?_).symm;rw[ne_eq,cT];intro hh;omega)|(refine (cT.2 ?_).symm;omega))|(rw[Bool.eq_iff_iff,cT];exact ⟨fun h=>⟨by omega,by omega,h⟩,fun h=>h.2.2⟩)
theorem pS:Con.Holds Tryz.prog dE:=aS aV (aI aEO aQ) bGT bGX
def cB:Con:=⟨89,(.bRW aB tI),.bool,[.val ⟨false,aB,[]⟩,.val ⟨false,tI,[]⟩],[⟨false,.bool,[0]⟩],false,none,
 ((fun _=>True):(bK × Int)→Prop),
 ((fun x=>eQ x.1 x.2):(bK × Int)→(Bool))⟩
def aID:T:=.call 0 (.p1 aB tI (.Z 0)) <|.ite (.Z 1) (
 .bRX (.bS0 3 tI) (.p1 aB tI (.Z 0)) <|
 .bRX (.cmp .eql .i64) (.bRY tI tI (.Z 2) (aP (.bRW aB tI) 1 (.Z 0))) <|
 .ret (.Z 3)) (
 .ret (.cb false))
theorem bII:bI Tryz.prog [dE] cB false 3000 ⟨[],[]⟩ = .ok aID:=by kernel_rfl
theorem bIB (x:bK × Int) (hx:okD (.bRW aB tI) x) (hp:(fun _=>True) x):aID.wp [dE] [⟨(.bRW aB tI),x⟩] [] (fun v=>v.as .bool=(fun x=>eQ x.1 x.2) x):=by
 delta aID dE;refine cW ?_
 exact ⟨fun h _=>bKE h,fun h=>aC6 h⟩
theorem jR:Con.Holds Tryz.prog cB:=aS aV (aI pS aQ) bII bIB
def iX:Con:=⟨90,aE,tI,[.val ⟨true,aE,[]⟩],[⟨false,tI,[0]⟩],false,none,
 ((fun _=>True):(aY)→Prop),
 ((fun x=>jT x):(aY)→(Int))⟩
def aNX:T:=.call 0 (.Z 0) <|
 .bRX .not (.Z 1) <|
 .ite (.Z 2) (
  .ret (.ci .i64 0)) (
  .bRX (.bS1 88 bF) (.bRY aE tI (.Z 0) (.ci .i64 0)) <|
  .ret (aK bF 1 (.Z 3)))
theorem bMM:bI Tryz.prog [bS] iX false 3000 ⟨[],[]⟩ = .ok aNX:=by kernel_rfl
theorem bJN (x:aY) (hx:okD aE x) (hp:(fun _=>True) x):aNX.wp [bS] [⟨aE,x⟩] [] (fun v=>v.as tI=(fun x=>jT x) x):=by
 delta aNX bS;refine cW ?_
 refine ⟨fun h=>?_,fun h=>?_⟩
 all_goals simp only[mG] at h
 ·unfold jT;rw[h];rfl
 ·have:=(bY x).1 h
  refine ⟨by omega,fun _=>?_⟩
  unfold jT;rw[if_pos h];rfl
theorem aGW:Con.Holds Tryz.prog iX:=aS aV (aI iB aQ) bMM bJN
def gG:Con:=⟨91,aE,tI,[.val ⟨true,aE,[]⟩],[⟨false,tI,[0]⟩],false,none,
 ((fun _=>True):(aY)→Prop),
 ((fun x=>fH x):(aY)→(Int))⟩
def aIS:T:=.call 0 (.Z 0) <|
 .bRX .not (.Z 1) <|
 .ite (.Z 2) (
  .ret (.ci .i64 0)) (
  .bRX (.bS0 88 bF) (.Z 0) <|
  .bRX (.ar .sub .i64) (.bRY tI tI (.Z 3) (.ci .i64 1)) <|
  .bRX (.bS1 88 bF) (.bRY aE tI (.Z 0) (.Z 4)) <|
  .ret (aK bF 2 (.Z 5)))
theorem bIE:bI Tryz.prog [bS] gG false 3000 ⟨[],[]⟩ = .ok aIS:=by kernel_rfl
theorem bID (x:aY) (hx:okD aE x) (hp:(fun _=>True) x):aIS.wp [bS] [⟨aE,x⟩] [] (fun v=>v.as tI=(fun x=>fH x) x):=by
 delta aIS bS;refine cW ?_
 refine ⟨fun h=>?_,fun h=>?_⟩
 all_goals simp only[mG] at h
 ·unfold fH;rw[h];rfl
 ·have:=(bY x).1 h
  refine fun _=>⟨by omega,fun _=>⟨by omega,fun _=>?_⟩⟩
  unfold fH;rw[if_pos h,yR];rfl
theorem aD9:Con.Holds Tryz.prog gG:=aS aV (aI iB aQ) bIE bID
def qF:Con:=⟨133,(.bRW aB tI),.bool,[.val ⟨false,aB,[]⟩,.val ⟨false,tI,[]⟩],[⟨false,.bool,[0]⟩],false,none,
 ((fun _=>True):(bK × Int)→Prop),
 ((fun x=>jK x.1 x.2):(bK × Int)→(Bool))⟩
def aBQ:T :=
 .bRX (.bS0 3 tI) (.p1 aB tI (.Z 0)) <|
 .bRX (.cmp .eql .i64) (.bRY tI tI (.Z 1) (.ci .i64 0)) <|
 .ite (.Z 2) (
  .ret (.cb true)) (
  .call 0 (.Z 0) <|
  .ret (.Z 3))
theorem aYH:bI Tryz.prog [cB] qF false 3000 ⟨[],[]⟩ = .ok aBQ:=by kernel_rfl
theorem aVY (x:bK × Int) (hx:okD (.bRW aB tI) x) (hp:(fun _=>True) x):aBQ.wp [cB] [⟨(.bRW aB tI),x⟩] [] (fun v=>v.as .bool=(fun x=>jK x.1 x.2) x):=by
 delta aBQ cB;refine cW ?_
 intro _
 refine dB ?_
 refine ⟨fun h=>?_,fun h=>?_⟩
 ·unfold jK;rw[decide_eq_true (by omega)];rfl
 ·unfold jK;rw[decide_eq_false (by omega)];rfl
theorem aW0:Con.Holds Tryz.prog qF:=aS aV (aI jR aQ) aYH aVY
def qY:Con:=⟨163,(.bRW aB tI),.bool,[.val ⟨false,aB,[]⟩,.val ⟨false,tI,[]⟩],[⟨false,.bool,[0]⟩],false,none,
 ((fun _=>True):(bK × Int)→Prop),
 ((fun x=>jK x.1 x.2):(bK × Int)→(Bool))⟩
def aBF:T :=
 .bRX (.bS0 3 tI) (.p1 aB tI (.Z 0)) <|
 .bRX (.cmp .eql .i64) (.bRY tI tI (.Z 1) (.ci .i64 0)) <|
 .ite (.Z 2) (
  .ret (.cb true)) (
  .call 0 (.p1 aB tI (.Z 0)) <|
  .ite (.Z 3) (
   .bRX (.bS0 3 tI) (.p1 aB tI (.Z 0)) <|
   .bRX (.cmp .eql .i64) (.bRY tI tI (.Z 4) (aP (.bRW aB tI) 1 (.Z 0))) <|
   .ret (.Z 5)) (
   .ret (.cb false)))
theorem aYR:bI Tryz.prog [bN] qY false 3000 ⟨[],[]⟩ = .ok aBF:=by kernel_rfl
theorem aVG (x:bK × Int) (hx:okD (.bRW aB tI) x) (hp:(fun _=>True) x):aBF.wp [bN] [⟨(.bRW aB tI),x⟩] [] (fun v=>v.as .bool=(fun x=>jK x.1 x.2) x):=by
 delta aBF bN;refine cW ?_
 intro _
 refine dB ?_
 refine ⟨fun h=>?_,fun h=>⟨fun h2 _=>?_,fun h2=>?_⟩⟩
 ·unfold jK;rw[decide_eq_true (by omega)];rfl
 ·unfold jK;rw[decide_eq_false (by omega),Bool.false_or];exact bKE h2
 ·unfold jK;rw[decide_eq_false (by omega),Bool.false_or];exact aC6 h2
theorem aZ0:Con.Holds Tryz.prog qY:=aS aV (aI fD aQ) aYR aVG
def lX:Con:=⟨108,(.bRW aE (.bRW aL tI)),.bool,[.val ⟨false,aE,[]⟩,.val ⟨false,aL,[]⟩,.val ⟨false,tI,[]⟩],[⟨false,.bool,[0]⟩],false,none,
 ((fun x=>cR x.1=true∧x.2.2≤(x.2.1.length:Int)):(aY × (cZ × Int))→Prop),
 ((fun x=>rL x.1 x.2.1 x.2.2.toNat):(aY × (cZ × Int))→(Bool))⟩
def aEX:T:=.loop tI (.ci .i64 0) <|
 .bRX (.cmp .lss .i64) (.bRY tI tI (.Z 1) (aP (.bRW aE (.bRW aL tI)) 2 (.Z 0))) <|
 .ite (.Z 2) (
  .bRX (.bS0 88 bF) (.p1 aE (.bRW aL tI) (.Z 0)) <|
  .bRX (.ar .sub .i64) (.bRY tI tI (.Z 3) (.ci .i64 1)) <|
  .bRX (.bS1 88 bF) (.bRY aE tI (.p1 aE (.bRW aL tI) (.Z 0)) (.Z 4)) <|
  .bRX (.bS0 88 bF) (.p1 aE (.bRW aL tI) (.Z 0)) <|
  .bRX (.cmp .lss .i64) (.bRY tI tI (.Z 1) (.Z 6)) <|
  .ite (.Z 7) (
   .bRX (.bS1 88 bF) (.bRY aE tI (.p1 aE (.bRW aL tI) (.Z 0)) (.Z 1)) <|
   .bRX (.bS1 119 aB) (.bRY aL tI (aK (.bRW aE (.bRW aL tI)) 1 (.Z 0)) (.Z 1)) <|
   .call 0 (.bRY aB tI (.Z 9) (aK bF 1 (.Z 8))) <|
   .bRX .not (.Z 10) <|
   .ite (.Z 11) (
    .ret (.cb false)) (
    .bRX (.ar .add .i64) (.bRY tI tI (.Z 1) (.ci .i64 1)) <|
    .bRZ 0 (.Z 12))) (
   .bRX (.bS1 119 aB) (.bRY aL tI (aK (.bRW aE (.bRW aL tI)) 1 (.Z 0)) (.Z 1)) <|
   .call 0 (.bRY aB tI (.Z 8) (aK bF 2 (.Z 5))) <|
   .bRX .not (.Z 9) <|
   .ite (.Z 10) (
    .ret (.cb false)) (
    .bRX (.ar .add .i64) (.bRY tI tI (.Z 1) (.ci .i64 1)) <|
    .bRZ 0 (.Z 11)))) (
  .ret (.cb true))
theorem bCQ:bI Tryz.prog [cB] lX false 3000 ⟨[(2993,1001,[.tm 7 0])],[]⟩ = .ok aEX:=by kernel_rfl
theorem bAT (x:aY × (cZ × Int)) (hx:okD (.bRW aE (.bRW aL tI)) x) (hp:(fun x=>cR x.1=true∧x.2.2≤(x.2.1.length:Int)) x):aEX.wp [cB] [⟨(.bRW aE (.bRW aL tI)),x⟩] [] (fun v=>v.as .bool=(fun x=>rL x.1 x.2.1 x.2.2.toNat) x):=by
 obtain ⟨m,r,n⟩:=x
 obtain ⟨hm,hn⟩:cR m=true∧n≤(r.length:Int):=hp
 have hr:r.length≤9223372036854775807:=hx.2.1.1
 have hm1:=(bY m).1 hm
 delta aEX cB;refine cW ?_
 refine ⟨fun s=>∃ k:Nat,k≤n.toNat∧s=(k:Int)∧∀ i,i<k→eQ (r.getD i []) (gB m i)=true,fun s=>n.toNat - (s:Int).toNat,⟨0,by omega,rfl,by omega⟩,fun s _ hI=>?_⟩
 obtain ⟨k,hk,rfl,ha⟩:=hI
 refine dB ?_
 have bad:k<n.toNat→∀ z:Int,z=gB m k→eQ (r.getD k []) z=false→false=rL m r n.toNat:=fun h z hz hv=>by
  refine (Bool.eq_false_iff.2 fun hh=>?_).symm
  have:=(nI _ _ _).1 hh k h
  rw[← hz,hv] at this;cases this
 have good:∀ z:Int,z=gB m k→eQ (r.getD k []) z=true→∀ i,i<k+1→eQ (r.getD i []) (gB m i)=true:=fun z hz hv i hi=>by
  rcases Nat.lt_or_eq_of_le (Nat.le_of_lt_succ hi) with h|rfl
  ·exact ha i h
  ·rw[← hz];exact hv
 constructor
 ·intro hlt
  have e1:(m.getD (m.length - 1) (aW bF)).2.2.1=(m.getD (m.length - 1) zOp).2.2.1:=rfl
  have e2:(m.getD k (aW bF)).2.1=(m.getD k zOp).2.1:=rfl
  have z1:k<m.length→(m.getD k zOp).2.1=gB m k:=fun h=>by unfold gB;rw[if_pos h]
  have z2:¬ k<m.length→(m.getD (m.length - 1) zOp).2.2.1=gB m k:=fun h=>by unfold gB;rw[if_neg h]
  (repeat' first|intro _|(with_reducible apply And.intro))
  all_goals first|omega|(exact bad (by omega) _ (z1 (by omega)) (by assumption))|(exact bad (by omega) _ (z2 (by omega)) (by assumption))|(exact ⟨k+1,by omega,rfl,good _ (z1 (by omega)) (by assumption)⟩)|(exact ⟨k+1,by omega,rfl,good _ (z2 (by omega)) (by assumption)⟩)
 ·intro hge
  exact ((nI _ _ _).2 fun i hi=>ha i (by omega)).symm
theorem aM2:Con.Holds Tryz.prog lX:=aS aV (aI jR aQ) bCQ bAT
def dZ:Con:=⟨102,aA,.bool,[.val ⟨true,aA,[]⟩],[⟨false,.bool,[0]⟩],false,none,
 ((fun _=>True):(bC)→Prop),
 ((fun x=>gR x):(bC)→(Bool))⟩
def aC9:T:=.call 0 (.Z 0) <|.call 1 (.Z 1) <|
 .bRX .not (.Z 2) <|
 .ite (.Z 3) (
  .ret (.cb false)) (
  .bRX (.cmp .lss .i64) (.bRY tI tI (.p1 tI dA (.Z 0)) (.ci .i64 0)) <|
  .ite (.Z 4) (
   .ret (.cb false)) (
   .bRX (.bS0 102 aD) (aK aA 1 (.Z 0)) <|
   .bRX (.cmp .gtr .i64) (.bRY tI tI (.p1 tI dA (.Z 0)) (.Z 5)) <|
   .ite (.Z 6) (
    .ret (.cb false)) (
    .call 2 (.bRY aE aL (.Z 1) (aK aA 11 (.Z 0))) <|
    .bRX .not (.Z 7) <|
    .ite (.Z 8) (
     .ret (.cb false)) (
     .bRX (.bS0 88 bF) (aK aA 2 (.Z 0)) <|
     .bRX (.ar .add .i64) (.bRY tI tI (.Z 9) (.ci .i64 1)) <|
     .ite (aK aA 4 (.Z 0)) (
      .bRX (.bS0 82 aF) (aK aA 5 (.Z 0)) <|
      .loop tI (.ci .i64 0) <|
       .bRX (.cmp .lss .i64) (.bRY tI tI (.Z 12) (.Z 11)) <|
       .ite (.Z 13) (
        .bRX (.bS1 82 aF) (.bRY (.slice 82 aF) tI (aK aA 5 (.Z 0)) (.Z 12)) <|
        .bRX (.bS0 119 aB) (aP aF 1 (.Z 14)) <|
        .bRX (.cmp .neq .i64) (.bRY tI tI (.Z 15) (.ci .i64 1)) <|
        .ite (.Z 16) (
         .ret (.cb false)) (
         .call 3 (bB (.bRW aE (.bRW aL tI)) [(aK aA 2 (.Z 0)),(aP aF 1 (.Z 14)),(.ci .i64 1)]) <|
         .bRX .not (.Z 17) <|
         .ite (.Z 18) (
          .ret (.cb false)) (
          .bRX (.ar .add .i64) (.bRY tI tI (.Z 12) (.ci .i64 1)) <|
          .bRZ 0 (.Z 19)))) (
        .call 4 (.Z 1) <|
        .call 5 (.Z 1) <|
        .call 6 (.bRY aB tI (aK aA 7 (.Z 0)) (.Z 14)) <|
        .ite (.Z 16) (
         .call 6 (.bRY aB tI (aK aA 10 (.Z 0)) (.Z 14)) <|
         .ite (.Z 17) (
          .call 6 (.bRY aB tI (aK aA 8 (.Z 0)) (.Z 15)) <|
          .ite (.Z 18) (
           .call 6 (.bRY aB tI (aK aA 9 (.Z 0)) (.Z 15)) <|
           .ret (.Z 19)) (
           .ret (.cb false))) (
          .ret (.cb false))) (
         .ret (.cb false)))) (
      .bRX (.bS0 82 aF) (aK aA 5 (.Z 0)) <|
      .loop tI (.ci .i64 0) <|
       .bRX (.cmp .lss .i64) (.bRY tI tI (.Z 12) (.Z 11)) <|
       .ite (.Z 13) (
        .bRX (.bS1 82 aF) (.bRY (.slice 82 aF) tI (aK aA 5 (.Z 0)) (.Z 12)) <|
        .bRX (.bS0 119 aB) (aP aF 1 (.Z 14)) <|
        .bRX (.cmp .neq .i64) (.bRY tI tI (.Z 15) (.Z 10)) <|
        .ite (.Z 16) (
         .ret (.cb false)) (
         .call 3 (bB (.bRW aE (.bRW aL tI)) [(aK aA 2 (.Z 0)),(aP aF 1 (.Z 14)),(.Z 10)]) <|
         .bRX .not (.Z 17) <|
         .ite (.Z 18) (
          .ret (.cb false)) (
          .bRX (.ar .add .i64) (.bRY tI tI (.Z 12) (.ci .i64 1)) <|
          .bRZ 0 (.Z 19)))) (
        .call 4 (.Z 1) <|
        .call 5 (.Z 1) <|
        .call 6 (.bRY aB tI (aK aA 7 (.Z 0)) (.Z 14)) <|
        .ite (.Z 16) (
         .call 6 (.bRY aB tI (aK aA 10 (.Z 0)) (.Z 14)) <|
         .ite (.Z 17) (
          .call 6 (.bRY aB tI (aK aA 8 (.Z 0)) (.Z 15)) <|
          .ite (.Z 18) (
           .call 6 (.bRY aB tI (aK aA 9 (.Z 0)) (.Z 15)) <|
           .ret (.Z 19)) (
           .ret (.cb false))) (
          .ret (.cb false))) (
         .ret (.cb false))))))))
theorem aXX:bI Tryz.prog [dY,bS,oS,lX,iX,gG,qF] dZ false 3000 ⟨[(2979,48012,gQ 41 9++[.dr 0,.tm 44 0]),(2979,32012,gQ 41 9++[.dr 0,.tm 44 0])],[]⟩ = .ok aC9:=by kernel_rfl
theorem aVC (x:bC) (hx:okD aA x) (hp:(fun _=>True) x):aC9.wp [dY,bS,oS,lX,iX,gG,qF] [⟨aA,x⟩] [] (fun v=>v.as .bool=(fun x=>gR x) x):=by
  have hst:x.2.2.2.2.2.1.length≤9223372036854775807:=hx.2.2.2.2.2.1.1
  delta aC9 dY bS oS lX iX gG qF;refine cW ?_
  refine dB ?_
  intro _
  refine ⟨fun h=>oP (.inl h),fun h1=>⟨fun h=>oP (.inr (.inl h)),fun h2 _=>⟨fun h=>oP (.inr (.inr (.inl h))),fun h3=>⟨fun h=>oP (.inr (.inr (.inr (.inl h)))),fun h4 _=>?_⟩⟩⟩⟩
  have hm:=(bY _).1 h1
  refine ⟨by omega,fun _=>⟨fun hr _=>?_,fun hr _=>?_⟩⟩
  all_goals
    refine ⟨fun s=>∃ k:Nat,k≤x.2.2.2.2.2.1.length∧s=(k:Int)∧∀ i,i<k→oI x.2.2.1 x.2.2.2.2.1 (x.2.2.2.2.2.1.getD i (aW aF))=true,fun s=>x.2.2.2.2.2.1.length - (s:Int).toNat,⟨0,by omega,rfl,by omega⟩,fun s _ hI=>?_⟩
    obtain ⟨k,hk,rfl,ha⟩:=hI
    refine dB ?_
    obtain ⟨n,hn⟩:∃ n,n=aAK x.2.2.1 x.2.2.2.2.1:=⟨_,rfl⟩
    have hn1:=hn
    unfold aAK at hn1
    rw[hr] at hn1
    simp only[if_true,Bool.false_eq_true,if_false] at hn1
    have hkn:=(hn1.symm.trans hn).symm
    clear hn hn1
    constructor
  rotate_left 1
  rotate_left 2
  all_goals first
    | (intro hge
       have hst:=aRA (s:=x) (fun i hi=>ha i (by omega))
       rw[aZG h1 ⟨by omega,by omega⟩ h4 hst]
       (repeat' first|intro _|(with_reducible apply And.intro))
       all_goals simp_all
       done)
    | skip
  all_goals
    intro hlt
    have hk':k<x.2.2.2.2.2.1.length:=by omega
    (repeat' first|intro _|(with_reducible apply And.intro))
    all_goals first|omega|exact h1|(exact aJA hk' fun hh=>by have:=((aJ1 hkn.symm).1 hh).1;omega)|skip
    all_goals first|(refine aJA hk' fun hh=>?_;have h5:=((aJ1 hkn.symm).1 hh).2;exact Bool.noConfusion (h5.symm.trans (by assumption:_=false)))|(refine ⟨k+1,by omega,rfl,fun i hi=>?_⟩;rcases Nat.lt_or_eq_of_le (Nat.le_of_lt_succ hi) with h|rfl;exact ha i h;exact (aJ1 hkn.symm).2 ⟨by omega,by assumption⟩)
theorem vA:Con.Holds Tryz.prog dZ:=aS aV (aI vV (aI iB (aI aTJ (aI aM2 (aI aGW (aI aD9 (aI aW0 aQ))))))) aXX aVC
def eB:Con:=⟨146,aA,.bool,[.val ⟨true,aA,[]⟩],[⟨false,.bool,[0]⟩],false,none,
 ((fun _=>True):(bC)→Prop),
 ((fun x=>gR x):(bC)→(Bool))⟩
def aB9:T:=.call 0 (aK aA 2 (.Z 0)) <|
 .bRX .not (.Z 1) <|
 .ite (.Z 2) (
  .ret (.cb false)) (
  .bRX (.bS0 102 aD) (aK aA 1 (.Z 0)) <|
  .call 1 (bB (.bRW tI aD) [(.p1 tI dA (.Z 0)),(.ci .i64 0),(.Z 3)]) <|
  .bRX .not (.Z 4) <|
  .ite (.Z 5) (
   .ret (.cb false)) (
   .bRX (.bS0 119 aB) (aK aA 11 (.Z 0)) <|
   .bRX (.bS0 88 bF) (aK aA 2 (.Z 0)) <|
   .bRX (.cmp .neq .i64) (.bRY tI tI (.Z 6) (.Z 7)) <|
   .ite (.Z 8) (
    .ret (.cb false)) (
    .bRX (.bS1 88 bF) (.bRY aE tI (aK aA 2 (.Z 0)) (.ci .i64 0)) <|
    .bRX (.bS0 88 bF) (aK aA 2 (.Z 0)) <|
    .bRX (.ar .sub .i64) (.bRY tI tI (.Z 10) (.ci .i64 1)) <|
    .bRX (.bS1 88 bF) (.bRY aE tI (aK aA 2 (.Z 0)) (.Z 11)) <|
    .loop tI (.ci .i64 0) <|
     .bRX (.bS0 88 bF) (aK aA 2 (.Z 0)) <|
     .bRX (.cmp .lss .i64) (.bRY tI tI (.Z 13) (.Z 14)) <|
     .ite (.Z 15) (
      .bRX (.bS1 119 aB) (.bRY aL tI (aK aA 11 (.Z 0)) (.Z 13)) <|
      .bRX (.bS0 3 tI) (.Z 16) <|
      .bRX (.bS1 88 bF) (.bRY aE tI (aK aA 2 (.Z 0)) (.Z 13)) <|
      .bRX (.bS0 3 tI) (aP bF 3 (.Z 18)) <|
      .bRX (.cmp .neq .i64) (.bRY tI tI (.Z 17) (.Z 19)) <|
      .ite (.Z 20) (
       .ret (.cb false)) (
       .bRX (.ar .add .i64) (.bRY tI tI (.Z 13) (.ci .i64 1)) <|
       .bRZ 0 (.Z 21))) (
      .loop tI (.ci .i64 0) <|
       .bRX (.bS0 82 aF) (aK aA 5 (.Z 0)) <|
       .bRX (.cmp .lss .i64) (.bRY tI tI (.Z 16) (.Z 17)) <|
       .ite (.Z 18) (
        .bRX (.bS1 82 aF) (.bRY (.slice 82 aF) tI (aK aA 5 (.Z 0)) (.Z 16)) <|
        .bRX (.bS0 119 aB) (aP aF 1 (.Z 19)) <|
        .bRX (.cmp .eql .i64) (.bRY tI tI (.Z 20) (.ci .i64 0)) <|
        .ite (.Z 21) (
         .ret (.cb false)) (
         .bRX (.bS1 119 aB) (.bRY aL tI (aP aF 1 (.Z 19)) (.ci .i64 0)) <|
         .call 2 (.Z 22) <|
         .bRX .not (.Z 23) <|
         .ite (.Z 24) (
          .ret (.cb false)) (
          .bRX (.bS1 119 aB) (.bRY aL tI (aP aF 1 (.Z 19)) (.ci .i64 0)) <|
          .bRX (.bS0 3 tI) (.Z 25) <|
          .bRX (.cmp .neq .i64) (.bRY tI tI (.Z 26) (aK bF 1 (.Z 9))) <|
          .ite (.Z 27) (
           .ret (.cb false)) (
           .bRX .not (aK aA 4 (.Z 0)) <|
           .ite (.Z 28) (
            .bRX (.bS0 119 aB) (aP aF 1 (.Z 19)) <|
            .bRX (.bS0 88 bF) (aK aA 2 (.Z 0)) <|
            .bRX (.ar .add .i64) (.bRY tI tI (.Z 30) (.ci .i64 1)) <|
            .bRX (.cmp .neq .i64) (.bRY tI tI (.Z 29) (.Z 31)) <|
            .ite (.Z 32) (
             .ret (.cb false)) (
             .ite (aK aA 4 (.Z 0)) (
              .bRX (.bS0 119 aB) (aP aF 1 (.Z 19)) <|
              .bRX (.cmp .neq .i64) (.bRY tI tI (.Z 33) (.ci .i64 1)) <|
              .ite (.Z 34) (
               .ret (.cb false)) (
               .loop tI (.ci .i64 1) <|
                .bRX (.bS0 119 aB) (aP aF 1 (.Z 19)) <|
                .bRX (.cmp .lss .i64) (.bRY tI tI (.Z 35) (.Z 36)) <|
                .ite (.Z 37) (
                 .bRX (.bS1 119 aB) (.bRY aL tI (aP aF 1 (.Z 19)) (.Z 35)) <|
                 .call 2 (.Z 38) <|
                 .bRX .not (.Z 39) <|
                 .ite (.Z 40) (
                  .ret (.cb false)) (
                  .bRX (.ar .sub .i64) (.bRY tI tI (.Z 35) (.ci .i64 1)) <|
                  .bRX (.bS1 119 aB) (.bRY aL tI (aP aF 1 (.Z 19)) (.Z 35)) <|
                  .bRX (.bS0 3 tI) (.Z 42) <|
                  .bRX (.bS1 88 bF) (.bRY aE tI (aK aA 2 (.Z 0)) (.Z 41)) <|
                  .bRX (.cmp .neq .i64) (.bRY tI tI (.Z 43) (aK bF 2 (.Z 44))) <|
                  .ite (.Z 45) (
                   .ret (.cb false)) (
                   .bRX (.ar .add .i64) (.bRY tI tI (.Z 35) (.ci .i64 1)) <|
                   .bRZ 0 (.Z 46)))) (
                 .bRX (.ar .add .i64) (.bRY tI tI (.Z 16) (.ci .i64 1)) <|
                 .bRZ 1 (.Z 38)))) (
              .loop tI (.ci .i64 1) <|
               .bRX (.bS0 119 aB) (aP aF 1 (.Z 19)) <|
               .bRX (.cmp .lss .i64) (.bRY tI tI (.Z 33) (.Z 34)) <|
               .ite (.Z 35) (
                .bRX (.bS1 119 aB) (.bRY aL tI (aP aF 1 (.Z 19)) (.Z 33)) <|
                .call 2 (.Z 36) <|
                .bRX .not (.Z 37) <|
                .ite (.Z 38) (
                 .ret (.cb false)) (
                 .bRX (.ar .sub .i64) (.bRY tI tI (.Z 33) (.ci .i64 1)) <|
                 .bRX (.bS1 119 aB) (.bRY aL tI (aP aF 1 (.Z 19)) (.Z 33)) <|
                 .bRX (.bS0 3 tI) (.Z 40) <|
                 .bRX (.bS1 88 bF) (.bRY aE tI (aK aA 2 (.Z 0)) (.Z 39)) <|
                 .bRX (.cmp .neq .i64) (.bRY tI tI (.Z 41) (aK bF 2 (.Z 42))) <|
                 .ite (.Z 43) (
                  .ret (.cb false)) (
                  .bRX (.ar .add .i64) (.bRY tI tI (.Z 33) (.ci .i64 1)) <|
                  .bRZ 0 (.Z 44)))) (
                .bRX (.ar .add .i64) (.bRY tI tI (.Z 16) (.ci .i64 1)) <|
                .bRZ 1 (.Z 36))))) (
            .ite (aK aA 4 (.Z 0)) (
             .bRX (.bS0 119 aB) (aP aF 1 (.Z 19)) <|
             .bRX (.cmp .neq .i64) (.bRY tI tI (.Z 29) (.ci .i64 1)) <|
             .ite (.Z 30) (
              .ret (.cb false)) (
              .loop tI (.ci .i64 1) <|
               .bRX (.bS0 119 aB) (aP aF 1 (.Z 19)) <|
               .bRX (.cmp .lss .i64) (.bRY tI tI (.Z 31) (.Z 32)) <|
               .ite (.Z 33) (
                .bRX (.bS1 119 aB) (.bRY aL tI (aP aF 1 (.Z 19)) (.Z 31)) <|
                .call 2 (.Z 34) <|
                .bRX .not (.Z 35) <|
                .ite (.Z 36) (
                 .ret (.cb false)) (
                 .bRX (.ar .sub .i64) (.bRY tI tI (.Z 31) (.ci .i64 1)) <|
                 .bRX (.bS1 119 aB) (.bRY aL tI (aP aF 1 (.Z 19)) (.Z 31)) <|
                 .bRX (.bS0 3 tI) (.Z 38) <|
                 .bRX (.bS1 88 bF) (.bRY aE tI (aK aA 2 (.Z 0)) (.Z 37)) <|
                 .bRX (.cmp .neq .i64) (.bRY tI tI (.Z 39) (aK bF 2 (.Z 40))) <|
                 .ite (.Z 41) (
                  .ret (.cb false)) (
                  .bRX (.ar .add .i64) (.bRY tI tI (.Z 31) (.ci .i64 1)) <|
                  .bRZ 0 (.Z 42)))) (
                .bRX (.ar .add .i64) (.bRY tI tI (.Z 16) (.ci .i64 1)) <|
                .bRZ 1 (.Z 34)))) (
             .loop tI (.ci .i64 1) <|
              .bRX (.bS0 119 aB) (aP aF 1 (.Z 19)) <|
              .bRX (.cmp .lss .i64) (.bRY tI tI (.Z 29) (.Z 30)) <|
              .ite (.Z 31) (
               .bRX (.bS1 119 aB) (.bRY aL tI (aP aF 1 (.Z 19)) (.Z 29)) <|
               .call 2 (.Z 32) <|
               .bRX .not (.Z 33) <|
               .ite (.Z 34) (
                .ret (.cb false)) (
                .bRX (.ar .sub .i64) (.bRY tI tI (.Z 29) (.ci .i64 1)) <|
                .bRX (.bS1 119 aB) (.bRY aL tI (aP aF 1 (.Z 19)) (.Z 29)) <|
                .bRX (.bS0 3 tI) (.Z 36) <|
                .bRX (.bS1 88 bF) (.bRY aE tI (aK aA 2 (.Z 0)) (.Z 35)) <|
                .bRX (.cmp .neq .i64) (.bRY tI tI (.Z 37) (aK bF 2 (.Z 38))) <|
                .ite (.Z 39) (
                 .ret (.cb false)) (
                 .bRX (.ar .add .i64) (.bRY tI tI (.Z 29) (.ci .i64 1)) <|
                 .bRZ 0 (.Z 40)))) (
               .bRX (.ar .add .i64) (.bRY tI tI (.Z 16) (.ci .i64 1)) <|
               .bRZ 1 (.Z 32)))))))) (
        .call 3 (.bRY aB tI (aK aA 7 (.Z 0)) (aK bF 1 (.Z 9))) <|
        .ite (.Z 19) (
         .call 3 (.bRY aB tI (aK aA 8 (.Z 0)) (aK bF 2 (.Z 12))) <|
         .ite (.Z 20) (
          .call 3 (.bRY aB tI (aK aA 9 (.Z 0)) (aK bF 2 (.Z 12))) <|
          .ite (.Z 21) (
           .call 3 (.bRY aB tI (aK aA 10 (.Z 0)) (aK bF 1 (.Z 9))) <|
           .ret (.Z 22)) (
           .ret (.cb false))) (
          .ret (.cb false))) (
         .ret (.cb false)))))))
theorem aY7:bI Tryz.prog [cD,bL,bN,qY] eB false 3000 ⟨[(2984,8013,gQ 46 9++[.dr 0,.tm 5 0]),(2974,16016,gQ 51 47++[.dr 5,.tm 6 0]),(2956,5392035,[.tm 8 0]),(2956,2320033,[.tm 8 0]),(2956,2576031,[.tm 8 0]),(2956,1040029,[.tm 8 0])],[]⟩ = .ok aB9:=by kernel_rfl
theorem aXI (x:bC) (hx:okD aA x) (hp:(fun _=>True) x):aB9.wp [cD,bL,bN,qY] [⟨aA,x⟩] [] (fun v=>v.as .bool=(fun x=>gR x) x):=by
  obtain ⟨pc,plan,ops,last,redo,stash,full,X,Y,G,D,sum⟩:=x
  have hst:stash.length≤9223372036854775807:=hx.2.2.2.2.2.1.1
  have hsr:∀ k,k<stash.length→(stash.getD k (aW aF)).2.length≤9223372036854775807:=fun k hk=>by rw[aZ hk];exact (hx.2.2.2.2.2.1.2 _ (List.getElem_mem hk)).2.1
  have hol:ops.length≤9223372036854775807:=hx.2.2.1.1
  delta aB9 cD bL bN qY;refine cW ?_
  refine dB ?_
  refine ⟨fun h=>oP (.inl h),fun h1 _=>⟨fun h=>?_,fun h2 _ _=>⟨fun h=>?_,fun h3=>?_⟩⟩⟩
  · rcases h with h|h
    · exact oP (.inr (.inl (by omega)))
    · exact oP (.inr (.inr (.inl (by omega))))
  · exact oP (.inr (.inr (.inr (.inl (Bool.eq_false_iff.2 fun hh=>by rw[aBR] at hh;dsimp only at hh;omega)))))
  have hm:=(bY _).1 h1
  refine ⟨by omega,fun _ _=>⟨by omega,fun _=>⟨by omega,fun _=>?_⟩⟩⟩
  have ein:(ops.getD 0 (aW bF)).2.1=jT ops:=by unfold jT;rw[if_pos h1];rfl
  have eout:(ops.getD (ops.length - 1) (aW bF)).2.2.1=fH ops:=by unfold fH;rw[if_pos h1];rfl
  simp only[ein,eout]
  refine ⟨fun s=>∃ k:Nat,k≤ops.length∧s=(k:Int)∧∀ i,i<k→aLH ops sum.1 i=true,fun s=>ops.length - (s:Int).toNat,⟨0,by omega,rfl,by omega⟩,fun s _ hI=>?_⟩
  obtain ⟨k,hk,rfl,hf⟩:=hI
  refine dB ?_
  intro _
  constructor
  · intro hlt
    have hk':k<ops.length:=by omega
    have hk2:k<sum.1.length:=by omega
    have e:=aQT ops sum.1 hk' hk2
    rw[← aZ hk' (d:=aW bF),← aZ hk2 (d:=aW aB)] at e
    (repeat' first|intro _|(with_reducible apply And.intro))
    all_goals first|omega|(exact oP (.inr (.inr (.inr (.inl (aWL hk' fun h2=>by have:=e.1 h2;omega))))))|(refine ⟨k+1,by omega,rfl,fun i hi=>?_⟩;rcases Nat.lt_or_eq_of_le (Nat.le_of_lt_succ hi) with h|rfl;exact hf i h;exact e.2 (by omega))
  intro hge
  have hfit:aPF ops sum.1=true:=(aBR _ _).2 ⟨by omega,fun i hi=>hf i (by omega)⟩
  obtain ⟨F,hF⟩:∃ F:eX→Bool,F=oI ops redo:=⟨_,rfl⟩
  obtain ⟨n,hn⟩:∃ n,n=aAK ops redo:=⟨_,rfl⟩
  have hz0:gB ops 0=jT ops:=by unfold gB jT;rw[if_pos (by omega),if_pos h1]
  have sb:∀ S:eX,F S=true↔S.2.length=n∧∀ i,i<n→eQ (S.2.getD i (aW aB)) (gB ops i)=true:=fun S=>by rw[hF,hn];exact aLS _ _ _
  have bad:∀ j,j<stash.length→¬ F (stash.getD j (aW aF))=true→false=gR (pc,plan,ops,last,redo,stash,full,X,Y,G,D,sum):=fun j hj h=>aJA hj (by show ¬ oI ops redo _=true;rw[← hF];exact h)
  have fin:(∀ i,i<stash.length→F (stash.getD i (aW aF))=true)→gR (pc,plan,ops,last,redo,stash,full,X,Y,G,D,sum)=(jK X (jT ops)&&(jK D (jT ops)&&(jK Y (fH ops)&&jK G (fH ops)))) :=
    fun h=>aZG h1 ⟨by dsimp only;omega,by dsimp only;omega⟩ hfit (aRA fun i hi=>by show oI ops redo _=true;rw[← hF];exact h i hi)
  have hn1:(redo=true→n=1)∧(redo=false→n=ops.length+1):=by rw[hn];unfold aAK;exact ⟨fun h=>by rw[h];rfl,fun h=>by rw[h];rfl⟩
  clear hF hn
  cases redo
  all_goals
    simp only[Bool.not_true,Bool.not_false,reduceCtorEq,true_implies,false_implies,and_true,true_and,forall_const] at hn1 ⊢
    refine ⟨fun s=>∃ k:Nat,k≤stash.length∧s=(k:Int)∧∀ i,i<k→F (stash.getD i (aW aF))=true,fun s=>stash.length - (s:Int).toNat,⟨0,by omega,rfl,by omega⟩,fun s _ hI=>?_⟩
    obtain ⟨j,hj,rfl,ha⟩:=hI
    refine dB ?_
    intro _
    constructor
    rotate_left
    · intro hge
      rw[fin fun i hi=>ha i (by omega)]
      (repeat' first|intro _|(with_reducible apply And.intro))
      all_goals simp_all
    intro hlt
    have hj':j<stash.length:=by omega
    have hrl:=hsr j hj'
    have bj:=bad j hj'
    have sj:=sb (stash.getD j (aW aF))
    have nx:F (stash.getD j (aW aF))=true→∀ i,i<j+1→F (stash.getD i (aW aF))=true:=fun h i hi=>by
      rcases Nat.lt_or_eq_of_le (Nat.le_of_lt_succ hi) with h'|rfl
      · exact ha i h'
      · exact h
    clear ha fin bad sb hsr
    generalize stash.getD j (aW aF)=S at *
    (repeat' first|intro _|(with_reducible apply And.intro))
    all_goals first|omega|(refine bj fun hh=>?_;have:=(sj.1 hh).1;omega)|(refine bj fun hh=>?_;have h5:=(sj.1 hh).2 0 (by omega);rw[cI] at h5;first|omega|(simp_all;done))|skip
    refine ⟨fun s=>∃ k:Nat,1≤k∧k≤S.2.length∧s=(k:Int)∧∀ i,1≤i→i<k→eQ (S.2.getD i (aW aB)) (gB ops i)=true,fun s=>S.2.length - (s:Int).toNat,⟨1,by omega,by omega,rfl,by omega⟩,fun s _ hI=>?_⟩
    obtain ⟨k,hk1,hk,rfl,ha⟩:=hI
    refine dB ?_
    have hsz:k≤ops.length→gB ops k=(ops.getD (k - 1) (aW bF)).2.2.1:=fun h=>by
      have:=aYS h1 (k:=k - 1) (by omega)
      rwa [Nat.sub_add_cancel hk1] at this
    (repeat' first|intro _|(with_reducible apply And.intro))
    all_goals first|omega|skip
    all_goals first
      | (refine bj fun hh=>?_;have h5:=(sj.1 hh).2 k (by omega);rw[cI,hsz (by omega)] at h5;first|omega|(simp_all;done))
      | (refine ⟨k+1,by omega,by omega,rfl,fun i hi1 hi=>?_⟩
         rcases Nat.lt_or_eq_of_le (Nat.le_of_lt_succ hi) with h'|rfl
         · exact ha i hi1 h'
         · rw[cI,hsz (by omega)];exact ⟨by assumption,by omega⟩)
      | (refine ⟨j+1,by omega,rfl,nx (sj.2 ⟨by omega,fun i hi=>?_⟩)⟩
         by_cases hi1:1≤i
         · exact ha i hi1 (by omega)
         · obtain rfl:i=0:=by omega
           rw[cI,hz0];exact ⟨by assumption,by omega⟩)
theorem vC:Con.Holds Tryz.prog eB:=aS aV (aI kF (aI eV (aI fD (aI aZ0 aQ)))) aY7 aXI
end
end Go.Proofs.YtabamggdmdednaaGreat
