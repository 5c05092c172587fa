/- Stage3: lemmas. No conditions. -/
import Derived.Test.YtdeobhdbmehpgaaGreatZero2
import Derived.Test.YtdeobhdbmehpgaaGreatSame3
namespace Go.Proofs.YtdeobhdbmehpgaaGreat
noncomputable section
set_option maxRecDepth 100000
open Go.ChangeShapes Go.WideShapes Go.ChangeAt Go.RowKit Go.Deep
set_option linter.unusedVariables false
set_option linter.unusedSimpArgs false
def iA (m:List dR):Int:=if cX m=true then (m.getD 0 zOp).2.1 else 0
def dJ (m:List dR):Int:=if cX m=true then (m.getD (m.length - 1) zOp).2.2.1 else 0
def eG (v:List Int) (n:Int):Bool:=kH v&&decide ((v.length:Int)=n)
theorem bT (v:List Int) (n:Int):eG v n=true↔kH v=true∧(v.length:Int)=n:=by unfold eG;rw[Bool.and_eq_true,decide_eq_true_eq]
def fY (v:List Int) (n:Int):Bool:=decide (v.length=0) || eG v n
def eH (m:List dR) (i:Nat):Int:=if i<m.length then (m.getD i zOp).2.1 else (m.getD (m.length - 1) zOp).2.2.1
theorem aN3 {m:List dR} (h:cX m=true) {k:Nat} (hk:k<m.length):eH m (k+1)=(m.getD k zOp).2.2.1:=by
 unfold eH
 split
 ·rename_i h1
  have h2:=((bA m).1 h).2.2 (k+1) h1
  rw[sB m h1] at h2
  rcases h2.2 with h3|h3
  ·omega
  ·rw[bE h1,bE hk]
   exact h3.symm
 ·have:m.length - 1=k:=by omega
  rw[this]
def nM (m:List dR) (r:List (List Int)) (n:Nat):Bool:=(List.range n).all fun i=>eG (r.getD i []) (eH m i)
theorem jU (m:List dR) (r:List (List Int)) (n:Nat):nM m r n=true↔∀ i,i<n→eG (r.getD i []) (eH m i)=true:=by unfold nM;simp only[List.all_eq_true,List.mem_range]
def uL (m:List dR) (redo:Bool):Nat:=if redo=true then 1 else m.length+1
def lB (m:List dR) (redo:Bool) (x:Int × List (List Int)):Bool:=decide (x.2.length=uL m redo)&&nM m x.2 (uL m redo)
theorem aA0 (m:List dR) (redo:Bool) (x:Int × List (List Int)):lB m redo x=true↔x.2.length=uL m redo∧∀ i,i<uL m redo→eG (x.2.getD i []) (eH m i)=true:=by unfold lB;rw[Bool.and_eq_true,decide_eq_true_eq,jU]
def eT (s:aM):Bool:=cX s.2.2.1&&(decide (0≤s.1∧s.1≤(s.2.1.length:Int))&&(aI7 s.2.2.1 s.2.2.2.2.2.2.2.2.2.2.2.1&&(s.2.2.2.2.2.1.all (lB s.2.2.1 s.2.2.2.2.1) &&
 (fY s.2.2.2.2.2.2.2.1 (iA s.2.2.1)&&(fY s.2.2.2.2.2.2.2.2.2.2.1 (iA s.2.2.1)&&(fY s.2.2.2.2.2.2.2.2.1 (dJ s.2.2.1)&&fY s.2.2.2.2.2.2.2.2.2.1 (dJ s.2.2.1)))))))
theorem bV (s:aM):eT s=true↔cX s.2.2.1=true∧(0≤s.1∧s.1≤(s.2.1.length:Int))∧aI7 s.2.2.1 s.2.2.2.2.2.2.2.2.2.2.2.1=true∧s.2.2.2.2.2.1.all (lB s.2.2.1 s.2.2.2.2.1)=true ∧
 fY s.2.2.2.2.2.2.2.1 (iA s.2.2.1)=true∧fY s.2.2.2.2.2.2.2.2.2.2.1 (iA s.2.2.1)=true∧fY s.2.2.2.2.2.2.2.2.1 (dJ s.2.2.1)=true∧fY s.2.2.2.2.2.2.2.2.2.1 (dJ s.2.2.1)=true:=by
 unfold eT;simp only[Bool.and_eq_true,decide_eq_true_eq]
theorem wL {v:List Int} {n:Int} (h:kH v=false):false=eG v n:=by unfold eG;rw[h];rfl
theorem bAC {v:List Int} {n:Int} (h:kH v=true):((v.length:Int)==n)=eG v n:=by unfold eG;rw[h,Bool.true_and];rfl
theorem aDK {s:aM} {k:Nat} (hk:k<s.2.2.2.2.2.1.length) (h:¬ lB s.2.2.1 s.2.2.2.2.1 (s.2.2.2.2.2.1.getD k (bG aC))=true):false=eT s:=by
 refine (Bool.eq_false_iff.2 fun hh=>?_).symm
 have h4:=((bV s).1 hh).2.2.2.1
 rw[List.all_eq_true] at h4
 exact h (h4 _ (by rw[bE hk];exact List.getElem_mem hk))
theorem aJL {s:aM} (h:∀ i,i<s.2.2.2.2.2.1.length→lB s.2.2.1 s.2.2.2.2.1 (s.2.2.2.2.2.1.getD i (bG aC))=true):s.2.2.2.2.2.1.all (lB s.2.2.1 s.2.2.2.2.1)=true:=by
 rw[List.all_eq_true]
 intro x hx
 obtain ⟨i,hi,rfl⟩:=List.getElem_of_mem hx
 have:=h i hi
 rwa [bE hi] at this
theorem aDI {m:List dR} {redo:Bool} {x:dQ} {n:Nat} (hn:n=uL m redo):lB m redo x=true↔x.2.length=n∧nM m x.2 n=true:=by
 unfold lB;rw[Bool.and_eq_true,decide_eq_true_eq,hn]
theorem aMQ {s:aM} (h1:cX s.2.2.1=true) (h2:0≤s.1∧s.1≤(s.2.1.length:Int)) (h3:aI7 s.2.2.1 s.2.2.2.2.2.2.2.2.2.2.2.1=true) (h4:s.2.2.2.2.2.1.all (lB s.2.2.1 s.2.2.2.2.1)=true) :
  eT s=(fY s.2.2.2.2.2.2.2.1 (iA s.2.2.1)&&(fY s.2.2.2.2.2.2.2.2.2.2.1 (iA s.2.2.1)&&(fY s.2.2.2.2.2.2.2.2.1 (dJ s.2.2.1)&&fY s.2.2.2.2.2.2.2.2.2.1 (dJ s.2.2.1)))):=by
 unfold eT;rw[h1,h3,h4];simp[h2]
theorem lI {s:aM} (h:cX s.2.2.1=false∨s.1<0∨(s.2.1.length:Int)<s.1∨aI7 s.2.2.1 s.2.2.2.2.2.2.2.2.2.2.2.1=false∨fY s.2.2.2.2.2.2.2.1 (iA s.2.2.1)=false∨fY s.2.2.2.2.2.2.2.2.2.2.1 (iA s.2.2.1)=false∨fY s.2.2.2.2.2.2.2.2.1 (dJ s.2.2.1)=false):false=eT s:=by
 refine (Bool.eq_false_iff.2 fun hh=>?_).symm
 obtain ⟨h1,h2,h3,h4,h5,h6,h7,h8⟩:=(bV s).1 hh
 rcases h with h|h|h|h|h|h|h
 ·rw[h] at h1;cases h1
 ·omega
 ·omega
 ·rw[h] at h3;cases h3
 ·rw[h] at h5;cases h5
 ·rw[h] at h6;cases h6
 ·rw[h] at h7;cases h7
def sG:Con:=⟨139,aA,.bool,[.val ⟨false,aA,[]⟩],[⟨false,.bool,[0]⟩],false,none,
 ((fun _=>True):(List Int)→Prop),
 ((fun x=>kH x):(List Int)→(Bool))⟩
def aD4:T :=
 .bEM (.bEP 3 tI) (.Z 0) <|
 .bEM (.cmp .geq .i64) (.bEN tI tI (.Z 1) (.ci .i64 1)) <|
 .ite (.Z 2) (
  .bEM (.bEP 3 tI) (.Z 0) <|
  .bEM (.cmp .leq .i64) (.bEN tI tI (.Z 3) (.ci .i64 6)) <|
  .ite (.Z 4) (
   .call 0 (.Z 0) <|
   .ret (.Z 5)) (
   .ret (.cb false))) (
  .ret (.cb false))
theorem aW2:bJ Tryz.prog [iW] sG false 3000 ⟨[],[]⟩ = .ok aD4:=by kernel_rfl
theorem aWY (x:List Int) (hx:okD aA x) (hp:(fun _=>True) x):aD4.wp [iW] [⟨aA,x⟩] [] (fun v=>v.as .bool=(fun x=>kH x) x):=by
 delta aD4 iW;refine eE ?_;try with_reducible exact True.intro
 (repeat' first|intro _|(with_reducible apply And.intro))
 all_goals simp only[sS] at *
 all_goals first|(first|(refine (Bool.eq_false_iff.2 ?_).symm;rw[ne_eq,dU];intro hh;omega)|(refine (dU.2 ?_).symm;omega))|(rw[Bool.eq_iff_iff,dU];exact ⟨fun h=>⟨by omega,by omega,h⟩,fun h=>h.2.2⟩)
theorem aWD:Con.Holds Tryz.prog sG:=aQ aR (aG aFY aO) aW2 aWY
def kA:Con:=⟨101,(.bEL aA tI),.bool,[.val ⟨false,aA,[]⟩,.val ⟨false,tI,[]⟩],[⟨false,.bool,[0]⟩],false,none,
 ((fun _=>True):(aW × Int)→Prop),
 ((fun x=>eG x.1 x.2):(aW × Int)→(Bool))⟩
def aDJ:T:=.call 0 (.p1 aA tI (.Z 0)) <|.ite (.Z 1) (
 .bEM (.bEP 3 tI) (.p1 aA tI (.Z 0)) <|
 .bEM (.cmp .eql .i64) (.bEN tI tI (.Z 2) (aN (.bEL aA tI) 1 (.Z 0))) <|
 .ret (.Z 3)) (
 .ret (.cb false))
theorem aWS:bJ Tryz.prog [sG] kA false 3000 ⟨[],[]⟩ = .ok aDJ:=by kernel_rfl
theorem aX9 (x:aW × Int) (hx:okD (.bEL aA tI) x) (hp:(fun _=>True) x):aDJ.wp [sG] [⟨(.bEL aA tI),x⟩] [] (fun v=>v.as .bool=(fun x=>eG x.1 x.2) x):=by
 delta aDJ sG;refine eE ?_
 exact ⟨fun h _=>bAC h,fun h=>wL h⟩
theorem aJ8:Con.Holds Tryz.prog kA:=aQ aR (aG aWD aO) aWS aX9
def uT:Con:=⟨64,aF,tI,[.val ⟨true,aF,[]⟩],[⟨false,tI,[0]⟩],false,none,
 ((fun _=>True):(bL)→Prop),
 ((fun x=>iA x):(bL)→(Int))⟩
def aHK:T:=.call 0 (.Z 0) <|
 .bEM .not (.Z 1) <|
 .ite (.Z 2) (
  .ret (.ci .i64 0)) (
  .bEM (.bEQ 78 bC) (.bEN aF tI (.Z 0) (.ci .i64 0)) <|
  .ret (aI bC 1 (.Z 3)))
theorem aXY:bJ Tryz.prog [eP] uT false 3000 ⟨[],[]⟩ = .ok aHK:=by kernel_rfl
theorem aYD (x:bL) (hx:okD aF x) (hp:(fun _=>True) x):aHK.wp [eP] [⟨aF,x⟩] [] (fun v=>v.as tI=(fun x=>iA x) x):=by
 delta aHK eP;refine eE ?_
 refine ⟨fun h=>?_,fun h=>?_⟩
 all_goals simp only[sS] at h
 ·unfold iA;rw[h];rfl
 ·have:=(bA x).1 h
  refine ⟨by omega,fun _=>?_⟩
  unfold iA;rw[if_pos h];rfl
theorem aYL:Con.Holds Tryz.prog uT:=aQ aR (aG uW aO) aXY aYD
def rR:Con:=⟨65,aF,tI,[.val ⟨true,aF,[]⟩],[⟨false,tI,[0]⟩],false,none,
 ((fun _=>True):(bL)→Prop),
 ((fun x=>dJ x):(bL)→(Int))⟩
def aD6:T:=.call 0 (.Z 0) <|
 .bEM .not (.Z 1) <|
 .ite (.Z 2) (
  .ret (.ci .i64 0)) (
  .bEM (.bEP 78 bC) (.Z 0) <|
  .bEM (.ar .sub .i64) (.bEN tI tI (.Z 3) (.ci .i64 1)) <|
  .bEM (.bEQ 78 bC) (.bEN aF tI (.Z 0) (.Z 4)) <|
  .ret (aI bC 2 (.Z 5)))
theorem aVL:bJ Tryz.prog [eP] rR false 3000 ⟨[],[]⟩ = .ok aD6:=by kernel_rfl
theorem aWR (x:bL) (hx:okD aF x) (hp:(fun _=>True) x):aD6.wp [eP] [⟨aF,x⟩] [] (fun v=>v.as tI=(fun x=>dJ x) x):=by
 delta aD6 eP;refine eE ?_
 refine ⟨fun h=>?_,fun h=>?_⟩
 all_goals simp only[sS] at h
 ·unfold dJ;rw[h];rfl
 ·have:=(bA x).1 h
  refine fun _=>⟨by omega,fun _=>⟨by omega,fun _=>?_⟩⟩
  unfold dJ;rw[if_pos h,sV];rfl
theorem aWI:Con.Holds Tryz.prog rR:=aQ aR (aG uW aO) aVL aWR
def mQ:Con:=⟨66,(.bEL aA tI),.bool,[.val ⟨false,aA,[]⟩,.val ⟨false,tI,[]⟩],[⟨false,.bool,[0]⟩],false,none,
 ((fun _=>True):(aW × Int)→Prop),
 ((fun x=>fY x.1 x.2):(aW × Int)→(Bool))⟩
def wB:T :=
 .bEM (.bEP 3 tI) (.p1 aA tI (.Z 0)) <|
 .bEM (.cmp .eql .i64) (.bEN tI tI (.Z 1) (.ci .i64 0)) <|
 .ite (.Z 2) (
  .ret (.cb true)) (
  .call 0 (.Z 0) <|
  .ret (.Z 3))
theorem aN4:bJ Tryz.prog [kA] mQ false 3000 ⟨[],[]⟩ = .ok wB:=by kernel_rfl
theorem aNM (x:aW × Int) (hx:okD (.bEL aA tI) x) (hp:(fun _=>True) x):wB.wp [kA] [⟨(.bEL aA tI),x⟩] [] (fun v=>v.as .bool=(fun x=>fY x.1 x.2) x):=by
 delta wB kA;refine eE ?_
 intro _
 refine fJ ?_
 refine ⟨fun h=>?_,fun h=>?_⟩
 ·unfold fY;rw[decide_eq_true (by omega)];rfl
 ·unfold fY;rw[decide_eq_false (by omega)];rfl
theorem aNP:Con.Holds Tryz.prog mQ:=aQ aR (aG aJ8 aO) aN4 aNM
def nA:Con:=⟨71,(.bEL aA tI),.bool,[.val ⟨false,aA,[]⟩,.val ⟨false,tI,[]⟩],[⟨false,.bool,[0]⟩],false,none,
 ((fun _=>True):(aW × Int)→Prop),
 ((fun x=>fY x.1 x.2):(aW × Int)→(Bool))⟩
def vQ:T :=
 .bEM (.bEP 3 tI) (.p1 aA tI (.Z 0)) <|
 .bEM (.cmp .eql .i64) (.bEN tI tI (.Z 1) (.ci .i64 0)) <|
 .ite (.Z 2) (
  .ret (.cb true)) (
  .call 0 (.p1 aA tI (.Z 0)) <|
  .ite (.Z 3) (
   .bEM (.bEP 3 tI) (.p1 aA tI (.Z 0)) <|
   .bEM (.cmp .eql .i64) (.bEN tI tI (.Z 4) (aN (.bEL aA tI) 1 (.Z 0))) <|
   .ret (.Z 5)) (
   .ret (.cb false)))
theorem aN0:bJ Tryz.prog [bF] nA false 3000 ⟨[],[]⟩ = .ok vQ:=by kernel_rfl
theorem aOB (x:aW × Int) (hx:okD (.bEL aA tI) x) (hp:(fun _=>True) x):vQ.wp [bF] [⟨(.bEL aA tI),x⟩] [] (fun v=>v.as .bool=(fun x=>fY x.1 x.2) x):=by
 delta vQ bF;refine eE ?_
 intro _
 refine fJ ?_
 refine ⟨fun h=>?_,fun h=>⟨fun h2 _=>?_,fun h2=>?_⟩⟩
 ·unfold fY;rw[decide_eq_true (by omega)];rfl
 ·unfold fY;rw[decide_eq_false (by omega),Bool.false_or];exact bAC h2
 ·unfold fY;rw[decide_eq_false (by omega),Bool.false_or];exact wL h2
theorem aQ1:Con.Holds Tryz.prog nA:=aQ aR (aG fL aO) aN0 aOB
def oQ:Con:=⟨63,(.bEL aF (.bEL aE tI)),.bool,[.val ⟨false,aF,[]⟩,.val ⟨false,aE,[]⟩,.val ⟨false,tI,[]⟩],[⟨false,.bool,[0]⟩],false,none,
 ((fun x=>cX x.1=true∧x.2.2≤(x.2.1.length:Int)):(bL × (bX × Int))→Prop),
 ((fun x=>nM x.1 x.2.1 x.2.2.toNat):(bL × (bX × Int))→(Bool))⟩
def zG:T:=.loop tI (.ci .i64 0) <|
 .bEM (.cmp .lss .i64) (.bEN tI tI (.Z 1) (aN (.bEL aF (.bEL aE tI)) 2 (.Z 0))) <|
 .ite (.Z 2) (
  .bEM (.bEP 78 bC) (.p1 aF (.bEL aE tI) (.Z 0)) <|
  .bEM (.ar .sub .i64) (.bEN tI tI (.Z 3) (.ci .i64 1)) <|
  .bEM (.bEQ 78 bC) (.bEN aF tI (.p1 aF (.bEL aE tI) (.Z 0)) (.Z 4)) <|
  .bEM (.bEP 78 bC) (.p1 aF (.bEL aE tI) (.Z 0)) <|
  .bEM (.cmp .lss .i64) (.bEN tI tI (.Z 1) (.Z 6)) <|
  .ite (.Z 7) (
   .bEM (.bEQ 78 bC) (.bEN aF tI (.p1 aF (.bEL aE tI) (.Z 0)) (.Z 1)) <|
   .bEM (.bEQ 112 aA) (.bEN aE tI (aI (.bEL aF (.bEL aE tI)) 1 (.Z 0)) (.Z 1)) <|
   .call 0 (.bEN aA tI (.Z 9) (aI bC 1 (.Z 8))) <|
   .bEM .not (.Z 10) <|
   .ite (.Z 11) (
    .ret (.cb false)) (
    .bEM (.ar .add .i64) (.bEN tI tI (.Z 1) (.ci .i64 1)) <|
    .bEO 0 (.Z 12))) (
   .bEM (.bEQ 112 aA) (.bEN aE tI (aI (.bEL aF (.bEL aE tI)) 1 (.Z 0)) (.Z 1)) <|
   .call 0 (.bEN aA tI (.Z 8) (aI bC 2 (.Z 5))) <|
   .bEM .not (.Z 9) <|
   .ite (.Z 10) (
    .ret (.cb false)) (
    .bEM (.ar .add .i64) (.bEN tI tI (.Z 1) (.ci .i64 1)) <|
    .bEO 0 (.Z 11)))) (
  .ret (.cb true))
theorem aR0:bJ Tryz.prog [kA] oQ false 3000 ⟨[(2993,1001,[.tm 7 0])],[]⟩ = .ok zG:=by kernel_rfl
theorem aRB (x:bL × (bX × Int)) (hx:okD (.bEL aF (.bEL aE tI)) x) (hp:(fun x=>cX x.1=true∧x.2.2≤(x.2.1.length:Int)) x):zG.wp [kA] [⟨(.bEL aF (.bEL aE tI)),x⟩] [] (fun v=>v.as .bool=(fun x=>nM x.1 x.2.1 x.2.2.toNat) x):=by
 obtain ⟨m,r,n⟩:=x
 obtain ⟨hm,hn⟩:cX m=true∧n≤(r.length:Int):=hp
 have hr:r.length≤9223372036854775807:=hx.2.1.1
 have hm1:=(bA m).1 hm
 delta zG kA;refine eE ?_
 refine ⟨fun s=>∃ k:Nat,k≤n.toNat∧s=(k:Int)∧∀ i,i<k→eG (r.getD i []) (eH m i)=true,fun s=>n.toNat - (s:Int).toNat,⟨0,by omega,rfl,by omega⟩,fun s _ hI=>?_⟩
 obtain ⟨k,hk,rfl,ha⟩:=hI
 refine fJ ?_
 have bad:k<n.toNat→∀ z:Int,z=eH m k→eG (r.getD k []) z=false→false=nM m r n.toNat:=fun h z hz hv=>by
  refine (Bool.eq_false_iff.2 fun hh=>?_).symm
  have:=(jU _ _ _).1 hh k h
  rw[← hz,hv] at this;cases this
 have good:∀ z:Int,z=eH m k→eG (r.getD k []) z=true→∀ i,i<k+1→eG (r.getD i []) (eH m i)=true:=fun z hz hv i hi=>by
  rcases Nat.lt_or_eq_of_le (Nat.le_of_lt_succ hi) with h|rfl
  ·exact ha i h
  ·rw[← hz];exact hv
 constructor
 ·intro hlt
  have e1:(m.getD (m.length - 1) (bG bC)).2.2.1=(m.getD (m.length - 1) zOp).2.2.1:=rfl
  have e2:(m.getD k (bG bC)).2.1=(m.getD k zOp).2.1:=rfl
  have z1:k<m.length→(m.getD k zOp).2.1=eH m k:=fun h=>by unfold eH;rw[if_pos h]
  have z2:¬ k<m.length→(m.getD (m.length - 1) zOp).2.2.1=eH m k:=fun h=>by unfold eH;rw[if_neg h]
  (repeat' first|intro _|(with_reducible apply And.intro))
  all_goals first|omega|(exact bad (by omega) _ (z1 (by omega)) (by assumption))|(exact bad (by omega) _ (z2 (by omega)) (by assumption))|(exact ⟨k+1,by omega,rfl,good _ (z1 (by omega)) (by assumption)⟩)|(exact ⟨k+1,by omega,rfl,good _ (z2 (by omega)) (by assumption)⟩)
 ·intro hge
  exact ((jU _ _ _).2 fun i hi=>ha i (by omega)).symm
theorem aRO:Con.Holds Tryz.prog oQ:=aQ aR (aG aJ8 aO) aR0 aRB
def mY:Con:=⟨33,aB,.bool,[.val ⟨true,aB,[]⟩],[⟨false,.bool,[0]⟩],false,none,
 ((fun _=>True):(aM)→Prop),
 ((fun x=>eT x):(aM)→(Bool))⟩
def vG:T:=.call 0 (.Z 0) <|.call 1 (.Z 1) <|
 .bEM .not (.Z 2) <|
 .ite (.Z 3) (
  .ret (.cb false)) (
  .bEM (.cmp .lss .i64) (.bEN tI tI (.p1 tI iT (.Z 0)) (.ci .i64 0)) <|
  .ite (.Z 4) (
   .ret (.cb false)) (
   .bEM (.bEP 76 aD) (aI aB 1 (.Z 0)) <|
   .bEM (.cmp .gtr .i64) (.bEN tI tI (.p1 tI iT (.Z 0)) (.Z 5)) <|
   .ite (.Z 6) (
    .ret (.cb false)) (
    .call 2 (.bEN aF aE (.Z 1) (aI aB 11 (.Z 0))) <|
    .bEM .not (.Z 7) <|
    .ite (.Z 8) (
     .ret (.cb false)) (
     .bEM (.bEP 78 bC) (aI aB 2 (.Z 0)) <|
     .bEM (.ar .add .i64) (.bEN tI tI (.Z 9) (.ci .i64 1)) <|
     .ite (aI aB 4 (.Z 0)) (
      .bEM (.bEP 80 aC) (aI aB 5 (.Z 0)) <|
      .loop tI (.ci .i64 0) <|
       .bEM (.cmp .lss .i64) (.bEN tI tI (.Z 12) (.Z 11)) <|
       .ite (.Z 13) (
        .bEM (.bEQ 80 aC) (.bEN (.slice 80 aC) tI (aI aB 5 (.Z 0)) (.Z 12)) <|
        .bEM (.bEP 112 aA) (aN aC 1 (.Z 14)) <|
        .bEM (.cmp .neq .i64) (.bEN tI tI (.Z 15) (.ci .i64 1)) <|
        .ite (.Z 16) (
         .ret (.cb false)) (
         .call 3 (aY (.bEL aF (.bEL aE tI)) [(aI aB 2 (.Z 0)),(aN aC 1 (.Z 14)),(.ci .i64 1)]) <|
         .bEM .not (.Z 17) <|
         .ite (.Z 18) (
          .ret (.cb false)) (
          .bEM (.ar .add .i64) (.bEN tI tI (.Z 12) (.ci .i64 1)) <|
          .bEO 0 (.Z 19)))) (
        .call 4 (.Z 1) <|
        .call 5 (.Z 1) <|
        .call 6 (.bEN aA tI (aI aB 7 (.Z 0)) (.Z 14)) <|
        .ite (.Z 16) (
         .call 6 (.bEN aA tI (aI aB 10 (.Z 0)) (.Z 14)) <|
         .ite (.Z 17) (
          .call 6 (.bEN aA tI (aI aB 8 (.Z 0)) (.Z 15)) <|
          .ite (.Z 18) (
           .call 6 (.bEN aA tI (aI aB 9 (.Z 0)) (.Z 15)) <|
           .ret (.Z 19)) (
           .ret (.cb false))) (
          .ret (.cb false))) (
         .ret (.cb false)))) (
      .bEM (.bEP 80 aC) (aI aB 5 (.Z 0)) <|
      .loop tI (.ci .i64 0) <|
       .bEM (.cmp .lss .i64) (.bEN tI tI (.Z 12) (.Z 11)) <|
       .ite (.Z 13) (
        .bEM (.bEQ 80 aC) (.bEN (.slice 80 aC) tI (aI aB 5 (.Z 0)) (.Z 12)) <|
        .bEM (.bEP 112 aA) (aN aC 1 (.Z 14)) <|
        .bEM (.cmp .neq .i64) (.bEN tI tI (.Z 15) (.Z 10)) <|
        .ite (.Z 16) (
         .ret (.cb false)) (
         .call 3 (aY (.bEL aF (.bEL aE tI)) [(aI aB 2 (.Z 0)),(aN aC 1 (.Z 14)),(.Z 10)]) <|
         .bEM .not (.Z 17) <|
         .ite (.Z 18) (
          .ret (.cb false)) (
          .bEM (.ar .add .i64) (.bEN tI tI (.Z 12) (.ci .i64 1)) <|
          .bEO 0 (.Z 19)))) (
        .call 4 (.Z 1) <|
        .call 5 (.Z 1) <|
        .call 6 (.bEN aA tI (aI aB 7 (.Z 0)) (.Z 14)) <|
        .ite (.Z 16) (
         .call 6 (.bEN aA tI (aI aB 10 (.Z 0)) (.Z 14)) <|
         .ite (.Z 17) (
          .call 6 (.bEN aA tI (aI aB 8 (.Z 0)) (.Z 15)) <|
          .ite (.Z 18) (
           .call 6 (.bEN aA tI (aI aB 9 (.Z 0)) (.Z 15)) <|
           .ret (.Z 19)) (
           .ret (.cb false))) (
          .ret (.cb false))) (
         .ret (.cb false))))))))
theorem aOE:bJ Tryz.prog [nG,eP,kN,oQ,uT,rR,mQ] mY false 3000 ⟨[(2979,48012,jT 41 9++[.dr 0,.tm 44 0]),(2979,32012,jT 41 9++[.dr 0,.tm 44 0])],[]⟩ = .ok vG:=by kernel_rfl
theorem aOH (x:aM) (hx:okD aB x) (hp:(fun _=>True) x):vG.wp [nG,eP,kN,oQ,uT,rR,mQ] [⟨aB,x⟩] [] (fun v=>v.as .bool=(fun x=>eT x) x):=by
  have hst:x.2.2.2.2.2.1.length≤9223372036854775807:=hx.2.2.2.2.2.1.1
  delta vG nG eP kN oQ uT rR mQ;refine eE ?_
  refine fJ ?_
  intro _
  refine ⟨fun h=>lI (.inl h),fun h1=>⟨fun h=>lI (.inr (.inl h)),fun h2 _=>⟨fun h=>lI (.inr (.inr (.inl h))),fun h3=>⟨fun h=>lI (.inr (.inr (.inr (.inl h)))),fun h4 _=>?_⟩⟩⟩⟩
  have hm:=(bA _).1 h1
  refine ⟨by omega,fun _=>⟨fun hr _=>?_,fun hr _=>?_⟩⟩
  all_goals
    refine ⟨fun s=>∃ k:Nat,k≤x.2.2.2.2.2.1.length∧s=(k:Int)∧∀ i,i<k→lB x.2.2.1 x.2.2.2.2.1 (x.2.2.2.2.2.1.getD i (bG aC))=true,fun s=>x.2.2.2.2.2.1.length - (s:Int).toNat,⟨0,by omega,rfl,by omega⟩,fun s _ hI=>?_⟩
    obtain ⟨k,hk,rfl,ha⟩:=hI
    refine fJ ?_
    obtain ⟨n,hn⟩:∃ n,n=uL x.2.2.1 x.2.2.2.2.1:=⟨_,rfl⟩
    have hn1:=hn
    unfold uL at hn1
    rw[hr] at hn1
    simp only[if_true,Bool.false_eq_true,if_false] at hn1
    have hkn:=(hn1.symm.trans hn).symm
    clear hn hn1
    constructor
  rotate_left 1
  rotate_left 2
  all_goals first
    | (intro hge
       have hst:=aJL (s:=x) (fun i hi=>ha i (by omega))
       rw[aMQ h1 ⟨by omega,by omega⟩ h4 hst]
       (repeat' first|intro _|(with_reducible apply And.intro))
       all_goals simp_all
       done)
    | skip
  all_goals
    intro hlt
    have hk':k<x.2.2.2.2.2.1.length:=by omega
    (repeat' first|intro _|(with_reducible apply And.intro))
    all_goals first|omega|exact h1|(exact aDK hk' fun hh=>by have:=((aDI hkn.symm).1 hh).1;omega)|skip
    all_goals first|(refine aDK hk' fun hh=>?_;have h5:=((aDI hkn.symm).1 hh).2;exact Bool.noConfusion (h5.symm.trans (by assumption:_=false)))|(refine ⟨k+1,by omega,rfl,fun i hi=>?_⟩;rcases Nat.lt_or_eq_of_le (Nat.le_of_lt_succ hi) with h|rfl;exact ha i h;exact (aDI hkn.symm).2 ⟨by omega,by assumption⟩)
theorem aMM:Con.Holds Tryz.prog mY:=aQ aR (aG aMH (aG uW (aG aLR (aG aRO (aG aYL (aG aWI (aG aNP aO))))))) aOE aOH
def cV:Con:=⟨39,aB,.bool,[.val ⟨true,aB,[]⟩],[⟨false,.bool,[0]⟩],false,none,
 ((fun _=>True):(aM)→Prop),
 ((fun x=>eT x):(aM)→(Bool))⟩
def vA:T:=.call 0 (aI aB 2 (.Z 0)) <|
 .bEM .not (.Z 1) <|
 .ite (.Z 2) (
  .ret (.cb false)) (
  .bEM (.bEP 76 aD) (aI aB 1 (.Z 0)) <|
  .call 1 (aY (.bEL tI aD) [(.p1 tI iT (.Z 0)),(.ci .i64 0),(.Z 3)]) <|
  .bEM .not (.Z 4) <|
  .ite (.Z 5) (
   .ret (.cb false)) (
   .bEM (.bEP 112 aA) (aI aB 11 (.Z 0)) <|
   .bEM (.bEP 78 bC) (aI aB 2 (.Z 0)) <|
   .bEM (.cmp .neq .i64) (.bEN tI tI (.Z 6) (.Z 7)) <|
   .ite (.Z 8) (
    .ret (.cb false)) (
    .bEM (.bEQ 78 bC) (.bEN aF tI (aI aB 2 (.Z 0)) (.ci .i64 0)) <|
    .bEM (.bEP 78 bC) (aI aB 2 (.Z 0)) <|
    .bEM (.ar .sub .i64) (.bEN tI tI (.Z 10) (.ci .i64 1)) <|
    .bEM (.bEQ 78 bC) (.bEN aF tI (aI aB 2 (.Z 0)) (.Z 11)) <|
    .loop tI (.ci .i64 0) <|
     .bEM (.bEP 78 bC) (aI aB 2 (.Z 0)) <|
     .bEM (.cmp .lss .i64) (.bEN tI tI (.Z 13) (.Z 14)) <|
     .ite (.Z 15) (
      .bEM (.bEQ 112 aA) (.bEN aE tI (aI aB 11 (.Z 0)) (.Z 13)) <|
      .bEM (.bEP 3 tI) (.Z 16) <|
      .bEM (.bEQ 78 bC) (.bEN aF tI (aI aB 2 (.Z 0)) (.Z 13)) <|
      .bEM (.bEP 3 tI) (aN bC 3 (.Z 18)) <|
      .bEM (.cmp .neq .i64) (.bEN tI tI (.Z 17) (.Z 19)) <|
      .ite (.Z 20) (
       .ret (.cb false)) (
       .bEM (.ar .add .i64) (.bEN tI tI (.Z 13) (.ci .i64 1)) <|
       .bEO 0 (.Z 21))) (
      .loop tI (.ci .i64 0) <|
       .bEM (.bEP 80 aC) (aI aB 5 (.Z 0)) <|
       .bEM (.cmp .lss .i64) (.bEN tI tI (.Z 16) (.Z 17)) <|
       .ite (.Z 18) (
        .bEM (.bEQ 80 aC) (.bEN (.slice 80 aC) tI (aI aB 5 (.Z 0)) (.Z 16)) <|
        .bEM (.bEP 112 aA) (aN aC 1 (.Z 19)) <|
        .bEM (.cmp .eql .i64) (.bEN tI tI (.Z 20) (.ci .i64 0)) <|
        .ite (.Z 21) (
         .ret (.cb false)) (
         .bEM (.bEQ 112 aA) (.bEN aE tI (aN aC 1 (.Z 19)) (.ci .i64 0)) <|
         .call 2 (.Z 22) <|
         .bEM .not (.Z 23) <|
         .ite (.Z 24) (
          .ret (.cb false)) (
          .bEM (.bEQ 112 aA) (.bEN aE tI (aN aC 1 (.Z 19)) (.ci .i64 0)) <|
          .bEM (.bEP 3 tI) (.Z 25) <|
          .bEM (.cmp .neq .i64) (.bEN tI tI (.Z 26) (aI bC 1 (.Z 9))) <|
          .ite (.Z 27) (
           .ret (.cb false)) (
           .bEM .not (aI aB 4 (.Z 0)) <|
           .ite (.Z 28) (
            .bEM (.bEP 112 aA) (aN aC 1 (.Z 19)) <|
            .bEM (.bEP 78 bC) (aI aB 2 (.Z 0)) <|
            .bEM (.ar .add .i64) (.bEN tI tI (.Z 30) (.ci .i64 1)) <|
            .bEM (.cmp .neq .i64) (.bEN tI tI (.Z 29) (.Z 31)) <|
            .ite (.Z 32) (
             .ret (.cb false)) (
             .ite (aI aB 4 (.Z 0)) (
              .bEM (.bEP 112 aA) (aN aC 1 (.Z 19)) <|
              .bEM (.cmp .neq .i64) (.bEN tI tI (.Z 33) (.ci .i64 1)) <|
              .ite (.Z 34) (
               .ret (.cb false)) (
               .loop tI (.ci .i64 1) <|
                .bEM (.bEP 112 aA) (aN aC 1 (.Z 19)) <|
                .bEM (.cmp .lss .i64) (.bEN tI tI (.Z 35) (.Z 36)) <|
                .ite (.Z 37) (
                 .bEM (.bEQ 112 aA) (.bEN aE tI (aN aC 1 (.Z 19)) (.Z 35)) <|
                 .call 2 (.Z 38) <|
                 .bEM .not (.Z 39) <|
                 .ite (.Z 40) (
                  .ret (.cb false)) (
                  .bEM (.ar .sub .i64) (.bEN tI tI (.Z 35) (.ci .i64 1)) <|
                  .bEM (.bEQ 112 aA) (.bEN aE tI (aN aC 1 (.Z 19)) (.Z 35)) <|
                  .bEM (.bEP 3 tI) (.Z 42) <|
                  .bEM (.bEQ 78 bC) (.bEN aF tI (aI aB 2 (.Z 0)) (.Z 41)) <|
                  .bEM (.cmp .neq .i64) (.bEN tI tI (.Z 43) (aI bC 2 (.Z 44))) <|
                  .ite (.Z 45) (
                   .ret (.cb false)) (
                   .bEM (.ar .add .i64) (.bEN tI tI (.Z 35) (.ci .i64 1)) <|
                   .bEO 0 (.Z 46)))) (
                 .bEM (.ar .add .i64) (.bEN tI tI (.Z 16) (.ci .i64 1)) <|
                 .bEO 1 (.Z 38)))) (
              .loop tI (.ci .i64 1) <|
               .bEM (.bEP 112 aA) (aN aC 1 (.Z 19)) <|
               .bEM (.cmp .lss .i64) (.bEN tI tI (.Z 33) (.Z 34)) <|
               .ite (.Z 35) (
                .bEM (.bEQ 112 aA) (.bEN aE tI (aN aC 1 (.Z 19)) (.Z 33)) <|
                .call 2 (.Z 36) <|
                .bEM .not (.Z 37) <|
                .ite (.Z 38) (
                 .ret (.cb false)) (
                 .bEM (.ar .sub .i64) (.bEN tI tI (.Z 33) (.ci .i64 1)) <|
                 .bEM (.bEQ 112 aA) (.bEN aE tI (aN aC 1 (.Z 19)) (.Z 33)) <|
                 .bEM (.bEP 3 tI) (.Z 40) <|
                 .bEM (.bEQ 78 bC) (.bEN aF tI (aI aB 2 (.Z 0)) (.Z 39)) <|
                 .bEM (.cmp .neq .i64) (.bEN tI tI (.Z 41) (aI bC 2 (.Z 42))) <|
                 .ite (.Z 43) (
                  .ret (.cb false)) (
                  .bEM (.ar .add .i64) (.bEN tI tI (.Z 33) (.ci .i64 1)) <|
                  .bEO 0 (.Z 44)))) (
                .bEM (.ar .add .i64) (.bEN tI tI (.Z 16) (.ci .i64 1)) <|
                .bEO 1 (.Z 36))))) (
            .ite (aI aB 4 (.Z 0)) (
             .bEM (.bEP 112 aA) (aN aC 1 (.Z 19)) <|
             .bEM (.cmp .neq .i64) (.bEN tI tI (.Z 29) (.ci .i64 1)) <|
             .ite (.Z 30) (
              .ret (.cb false)) (
              .loop tI (.ci .i64 1) <|
               .bEM (.bEP 112 aA) (aN aC 1 (.Z 19)) <|
               .bEM (.cmp .lss .i64) (.bEN tI tI (.Z 31) (.Z 32)) <|
               .ite (.Z 33) (
                .bEM (.bEQ 112 aA) (.bEN aE tI (aN aC 1 (.Z 19)) (.Z 31)) <|
                .call 2 (.Z 34) <|
                .bEM .not (.Z 35) <|
                .ite (.Z 36) (
                 .ret (.cb false)) (
                 .bEM (.ar .sub .i64) (.bEN tI tI (.Z 31) (.ci .i64 1)) <|
                 .bEM (.bEQ 112 aA) (.bEN aE tI (aN aC 1 (.Z 19)) (.Z 31)) <|
                 .bEM (.bEP 3 tI) (.Z 38) <|
                 .bEM (.bEQ 78 bC) (.bEN aF tI (aI aB 2 (.Z 0)) (.Z 37)) <|
                 .bEM (.cmp .neq .i64) (.bEN tI tI (.Z 39) (aI bC 2 (.Z 40))) <|
                 .ite (.Z 41) (
                  .ret (.cb false)) (
                  .bEM (.ar .add .i64) (.bEN tI tI (.Z 31) (.ci .i64 1)) <|
                  .bEO 0 (.Z 42)))) (
                .bEM (.ar .add .i64) (.bEN tI tI (.Z 16) (.ci .i64 1)) <|
                .bEO 1 (.Z 34)))) (
             .loop tI (.ci .i64 1) <|
              .bEM (.bEP 112 aA) (aN aC 1 (.Z 19)) <|
              .bEM (.cmp .lss .i64) (.bEN tI tI (.Z 29) (.Z 30)) <|
              .ite (.Z 31) (
               .bEM (.bEQ 112 aA) (.bEN aE tI (aN aC 1 (.Z 19)) (.Z 29)) <|
               .call 2 (.Z 32) <|
               .bEM .not (.Z 33) <|
               .ite (.Z 34) (
                .ret (.cb false)) (
                .bEM (.ar .sub .i64) (.bEN tI tI (.Z 29) (.ci .i64 1)) <|
                .bEM (.bEQ 112 aA) (.bEN aE tI (aN aC 1 (.Z 19)) (.Z 29)) <|
                .bEM (.bEP 3 tI) (.Z 36) <|
                .bEM (.bEQ 78 bC) (.bEN aF tI (aI aB 2 (.Z 0)) (.Z 35)) <|
                .bEM (.cmp .neq .i64) (.bEN tI tI (.Z 37) (aI bC 2 (.Z 38))) <|
                .ite (.Z 39) (
                 .ret (.cb false)) (
                 .bEM (.ar .add .i64) (.bEN tI tI (.Z 29) (.ci .i64 1)) <|
                 .bEO 0 (.Z 40)))) (
               .bEM (.ar .add .i64) (.bEN tI tI (.Z 16) (.ci .i64 1)) <|
               .bEO 1 (.Z 32)))))))) (
        .call 3 (.bEN aA tI (aI aB 7 (.Z 0)) (aI bC 1 (.Z 9))) <|
        .ite (.Z 19) (
         .call 3 (.bEN aA tI (aI aB 8 (.Z 0)) (aI bC 2 (.Z 12))) <|
         .ite (.Z 20) (
          .call 3 (.bEN aA tI (aI aB 9 (.Z 0)) (aI bC 2 (.Z 12))) <|
          .ite (.Z 21) (
           .call 3 (.bEN aA tI (aI aB 10 (.Z 0)) (aI bC 1 (.Z 9))) <|
           .ret (.Z 22)) (
           .ret (.cb false))) (
          .ret (.cb false))) (
         .ret (.cb false)))))))
theorem aP5:bJ Tryz.prog [cH,bM,bF,nA] cV false 3000 ⟨[(2984,8013,jT 46 9++[.dr 0,.tm 5 0]),(2974,16016,jT 51 47++[.dr 5,.tm 6 0]),(2956,5392035,[.tm 8 0]),(2956,2320033,[.tm 8 0]),(2956,2576031,[.tm 8 0]),(2956,1040029,[.tm 8 0])],[]⟩ = .ok vA:=by kernel_rfl
theorem aNX (x:aM) (hx:okD aB x) (hp:(fun _=>True) x):vA.wp [cH,bM,bF,nA] [⟨aB,x⟩] [] (fun v=>v.as .bool=(fun x=>eT x) x):=by
  obtain ⟨pc,plan,ops,last,redo,stash,full,X,Y,G,D,sum⟩:=x
  have hst:stash.length≤9223372036854775807:=hx.2.2.2.2.2.1.1
  have hsr:∀ k,k<stash.length→(stash.getD k (bG aC)).2.length≤9223372036854775807:=fun k hk=>by rw[bE hk];exact (hx.2.2.2.2.2.1.2 _ (List.getElem_mem hk)).2.1
  have hol:ops.length≤9223372036854775807:=hx.2.2.1.1
  delta vA cH bM bF nA;refine eE ?_
  refine fJ ?_
  refine ⟨fun h=>lI (.inl h),fun h1 _=>⟨fun h=>?_,fun h2 _ _=>⟨fun h=>?_,fun h3=>?_⟩⟩⟩
  · rcases h with h|h
    · exact lI (.inr (.inl (by omega)))
    · exact lI (.inr (.inr (.inl (by omega))))
  · exact lI (.inr (.inr (.inr (.inl (Bool.eq_false_iff.2 fun hh=>by rw[iS] at hh;dsimp only at hh;omega)))))
  have hm:=(bA _).1 h1
  refine ⟨by omega,fun _ _=>⟨by omega,fun _=>⟨by omega,fun _=>?_⟩⟩⟩
  have ein:(ops.getD 0 (bG bC)).2.1=iA ops:=by unfold iA;rw[if_pos h1];rfl
  have eout:(ops.getD (ops.length - 1) (bG bC)).2.2.1=dJ ops:=by unfold dJ;rw[if_pos h1];rfl
  simp only[ein,eout]
  refine ⟨fun s=>∃ k:Nat,k≤ops.length∧s=(k:Int)∧∀ i,i<k→aFJ ops sum.1 i=true,fun s=>ops.length - (s:Int).toNat,⟨0,by omega,rfl,by omega⟩,fun s _ hI=>?_⟩
  obtain ⟨k,hk,rfl,hf⟩:=hI
  refine fJ ?_
  intro _
  constructor
  · intro hlt
    have hk':k<ops.length:=by omega
    have hk2:k<sum.1.length:=by omega
    have e:=aJO ops sum.1 hk' hk2
    rw[← bE hk' (d:=bG bC),← bE hk2 (d:=bG aA)] at e
    (repeat' first|intro _|(with_reducible apply And.intro))
    all_goals first|omega|(exact lI (.inr (.inr (.inr (.inl (aPF hk' fun h2=>by have:=e.1 h2;omega))))))|(refine ⟨k+1,by omega,rfl,fun i hi=>?_⟩;rcases Nat.lt_or_eq_of_le (Nat.le_of_lt_succ hi) with h|rfl;exact hf i h;exact e.2 (by omega))
  intro hge
  have hfit:aI7 ops sum.1=true:=(iS _ _).2 ⟨by omega,fun i hi=>hf i (by omega)⟩
  obtain ⟨F,hF⟩:∃ F:dQ→Bool,F=lB ops redo:=⟨_,rfl⟩
  obtain ⟨n,hn⟩:∃ n,n=uL ops redo:=⟨_,rfl⟩
  have hz0:eH ops 0=iA ops:=by unfold eH iA;rw[if_pos (by omega),if_pos h1]
  have sb:∀ S:dQ,F S=true↔S.2.length=n∧∀ i,i<n→eG (S.2.getD i (bG aA)) (eH ops i)=true:=fun S=>by rw[hF,hn];exact aA0 _ _ _
  have bad:∀ j,j<stash.length→¬ F (stash.getD j (bG aC))=true→false=eT (pc,plan,ops,last,redo,stash,full,X,Y,G,D,sum):=fun j hj h=>aDK hj (by show ¬ lB ops redo _=true;rw[← hF];exact h)
  have fin:(∀ i,i<stash.length→F (stash.getD i (bG aC))=true)→eT (pc,plan,ops,last,redo,stash,full,X,Y,G,D,sum)=(fY X (iA ops)&&(fY D (iA ops)&&(fY Y (dJ ops)&&fY G (dJ ops)))) :=
    fun h=>aMQ h1 ⟨by dsimp only;omega,by dsimp only;omega⟩ hfit (aJL fun i hi=>by show lB ops redo _=true;rw[← hF];exact h i hi)
  have hn1:(redo=true→n=1)∧(redo=false→n=ops.length+1):=by rw[hn];unfold uL;exact ⟨fun h=>by rw[h];rfl,fun h=>by rw[h];rfl⟩
  clear hF hn
  cases redo
  all_goals
    simp only[Bool.not_true,Bool.not_false,reduceCtorEq,true_implies,false_implies,and_true,true_and,forall_const] at hn1 ⊢
    refine ⟨fun s=>∃ k:Nat,k≤stash.length∧s=(k:Int)∧∀ i,i<k→F (stash.getD i (bG aC))=true,fun s=>stash.length - (s:Int).toNat,⟨0,by omega,rfl,by omega⟩,fun s _ hI=>?_⟩
    obtain ⟨j,hj,rfl,ha⟩:=hI
    refine fJ ?_
    intro _
    constructor
    rotate_left
    · intro hge
      rw[fin fun i hi=>ha i (by omega)]
      (repeat' first|intro _|(with_reducible apply And.intro))
      all_goals simp_all
    intro hlt
    have hj':j<stash.length:=by omega
    have hrl:=hsr j hj'
    have bj:=bad j hj'
    have sj:=sb (stash.getD j (bG aC))
    have nx:F (stash.getD j (bG aC))=true→∀ i,i<j+1→F (stash.getD i (bG aC))=true:=fun h i hi=>by
      rcases Nat.lt_or_eq_of_le (Nat.le_of_lt_succ hi) with h'|rfl
      · exact ha i h'
      · exact h
    clear ha fin bad sb hsr
    generalize stash.getD j (bG aC)=S at *
    (repeat' first|intro _|(with_reducible apply And.intro))
    all_goals first|omega|(refine bj fun hh=>?_;have:=(sj.1 hh).1;omega)|(refine bj fun hh=>?_;have h5:=(sj.1 hh).2 0 (by omega);rw[bT] at h5;first|omega|(simp_all;done))|skip
    refine ⟨fun s=>∃ k:Nat,1≤k∧k≤S.2.length∧s=(k:Int)∧∀ i,1≤i→i<k→eG (S.2.getD i (bG aA)) (eH ops i)=true,fun s=>S.2.length - (s:Int).toNat,⟨1,by omega,by omega,rfl,by omega⟩,fun s _ hI=>?_⟩
    obtain ⟨k,hk1,hk,rfl,ha⟩:=hI
    refine fJ ?_
    have hsz:k≤ops.length→eH ops k=(ops.getD (k - 1) (bG bC)).2.2.1:=fun h=>by
      have:=aN3 h1 (k:=k - 1) (by omega)
      rwa [Nat.sub_add_cancel hk1] at this
    (repeat' first|intro _|(with_reducible apply And.intro))
    all_goals first|omega|skip
    all_goals first
      | (refine bj fun hh=>?_;have h5:=(sj.1 hh).2 k (by omega);rw[bT,hsz (by omega)] at h5;first|omega|(simp_all;done))
      | (refine ⟨k+1,by omega,by omega,rfl,fun i hi1 hi=>?_⟩
         rcases Nat.lt_or_eq_of_le (Nat.le_of_lt_succ hi) with h'|rfl
         · exact ha i hi1 h'
         · rw[bT,hsz (by omega)];exact ⟨by assumption,by omega⟩)
      | (refine ⟨j+1,by omega,rfl,nx (sj.2 ⟨by omega,fun i hi=>?_⟩)⟩
         by_cases hi1:1≤i
         · exact ha i hi1 (by omega)
         · obtain rfl:i=0:=by omega
           rw[bT,hz0];exact ⟨by assumption,by omega⟩)
theorem qT:Con.Holds Tryz.prog cV:=aQ aR (aG nD (aG iV (aG fL (aG aQ1 aO)))) aP5 aNX
end
end Go.Proofs.YtdeobhdbmehpgaaGreat
