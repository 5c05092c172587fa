/- Stage3: lemmas. No conditions. -/
import Derived.Test.YtdeobhdbmehpgaaGreatZero2
import Derived.Test.YtdeobhdbmehpgaaGreatSame3
namespace Go.Proofs.YtdeobhdbmehpgaaGreat
noncomputable section
set_option maxRecDepth 100000
open Go.ChangeShapes Go.WideShapes Go.ChangeAt Go.RowKit Go.Deep
set_option linter.unusedVariables false
set_option linter.unusedSimpArgs false
def iJ (m:List dJ):Int:=if bW m=true then (m.getD 0 zOp).2.1 else 0
def eM (m:List dJ):Int:=if bW m=true then (m.getD (m.length - 1) zOp).2.2.1 else 0
def eF (v:List Int) (n:Int):Bool:=iA v&&decide ((v.length:Int)=n)
theorem cE (v:List Int) (n:Int):eF v n=true↔iA v=true∧(v.length:Int)=n:=by unfold eF;rw[Bool.and_eq_true,decide_eq_true_eq]
def iS (v:List Int) (n:Int):Bool:=decide (v.length=0) || eF v n
def fX (m:List dJ) (i:Nat):Int:=if i<m.length then (m.getD i zOp).2.1 else (m.getD (m.length - 1) zOp).2.2.1
theorem aV3 {m:List dJ} (h:bW m=true) {k:Nat} (hk:k<m.length):fX m (k+1)=(m.getD k zOp).2.2.1:=by
 unfold fX
 split
 ·rename_i h1
  have h2:=((bR m).1 h).2.2 (k+1) h1
  rw[wC m h1] at h2
  rcases h2.2 with h3|h3
  ·omega
  ·rw[aZ h1,aZ hk]
   exact h3.symm
 ·have:m.length - 1=k:=by omega
  rw[this]
def qK (m:List dJ) (r:List (List Int)) (n:Nat):Bool:=(List.range n).all fun i=>eF (r.getD i []) (fX m i)
theorem mK (m:List dJ) (r:List (List Int)) (n:Nat):qK m r n=true↔∀ i,i<n→eF (r.getD i []) (fX m i)=true:=by unfold qK;simp only[List.all_eq_true,List.mem_range]
def zV (m:List dJ) (redo:Bool):Nat:=if redo=true then 1 else m.length+1
def mV (m:List dJ) (redo:Bool) (x:Int × List (List Int)):Bool:=decide (x.2.length=zV m redo)&&qK m x.2 (zV m redo)
theorem aLQ (m:List dJ) (redo:Bool) (x:Int × List (List Int)):mV m redo x=true↔x.2.length=zV m redo∧∀ i,i<zV m redo→eF (x.2.getD i []) (fX m i)=true:=by unfold mV;rw[Bool.and_eq_true,decide_eq_true_eq,mK]
def gG (s:bA):Bool:=bW s.2.2.1&&(decide (0≤s.1∧s.1≤(s.2.1.length:Int))&&(aMT s.2.2.1 s.2.2.2.2.2.2.2.2.2.2.2.1&&(s.2.2.2.2.2.1.all (mV s.2.2.1 s.2.2.2.2.1) &&
 (iS s.2.2.2.2.2.2.2.1 (iJ s.2.2.1)&&(iS s.2.2.2.2.2.2.2.2.2.2.1 (iJ s.2.2.1)&&(iS s.2.2.2.2.2.2.2.2.1 (eM s.2.2.1)&&iS s.2.2.2.2.2.2.2.2.2.1 (eM s.2.2.1)))))))
theorem eI (s:bA):gG s=true↔bW s.2.2.1=true∧(0≤s.1∧s.1≤(s.2.1.length:Int))∧aMT s.2.2.1 s.2.2.2.2.2.2.2.2.2.2.2.1=true∧s.2.2.2.2.2.1.all (mV s.2.2.1 s.2.2.2.2.1)=true ∧
 iS s.2.2.2.2.2.2.2.1 (iJ s.2.2.1)=true∧iS s.2.2.2.2.2.2.2.2.2.2.1 (iJ s.2.2.1)=true∧iS s.2.2.2.2.2.2.2.2.1 (eM s.2.2.1)=true∧iS s.2.2.2.2.2.2.2.2.2.1 (eM s.2.2.1)=true:=by
 unfold gG;simp only[Bool.and_eq_true,decide_eq_true_eq]
theorem aA9 {v:List Int} {n:Int} (h:iA v=false):false=eF v n:=by unfold eF;rw[h];rfl
theorem bI3 {v:List Int} {n:Int} (h:iA v=true):((v.length:Int)==n)=eF v n:=by unfold eF;rw[h,Bool.true_and];rfl
theorem aGY {s:bA} {k:Nat} (hk:k<s.2.2.2.2.2.1.length) (h:¬ mV s.2.2.1 s.2.2.2.2.1 (s.2.2.2.2.2.1.getD k (aV aD))=true):false=gG s:=by
 refine (Bool.eq_false_iff.2 fun hh=>?_).symm
 have h4:=((eI s).1 hh).2.2.2.1
 rw[List.all_eq_true] at h4
 exact h (h4 _ (by rw[aZ hk];exact List.getElem_mem hk))
theorem aOB {s:bA} (h:∀ i,i<s.2.2.2.2.2.1.length→mV s.2.2.1 s.2.2.2.2.1 (s.2.2.2.2.2.1.getD i (aV aD))=true):s.2.2.2.2.2.1.all (mV s.2.2.1 s.2.2.2.2.1)=true:=by
 rw[List.all_eq_true]
 intro x hx
 obtain ⟨i,hi,rfl⟩:=List.getElem_of_mem hx
 have:=h i hi
 rwa [aZ hi] at this
theorem aHE {m:List dJ} {redo:Bool} {x:iQ} {n:Nat} (hn:n=zV m redo):mV m redo x=true↔x.2.length=n∧qK m x.2 n=true:=by
 unfold mV;rw[Bool.and_eq_true,decide_eq_true_eq,hn]
theorem aS8 {s:bA} (h1:bW s.2.2.1=true) (h2:0≤s.1∧s.1≤(s.2.1.length:Int)) (h3:aMT s.2.2.1 s.2.2.2.2.2.2.2.2.2.2.2.1=true) (h4:s.2.2.2.2.2.1.all (mV s.2.2.1 s.2.2.2.2.1)=true) :
  gG s=(iS s.2.2.2.2.2.2.2.1 (iJ s.2.2.1)&&(iS s.2.2.2.2.2.2.2.2.2.2.1 (iJ s.2.2.1)&&(iS s.2.2.2.2.2.2.2.2.1 (eM s.2.2.1)&&iS s.2.2.2.2.2.2.2.2.2.1 (eM s.2.2.1)))):=by
 unfold gG;rw[h1,h3,h4];simp[h2]
theorem nK {s:bA} (h:bW s.2.2.1=false∨s.1<0∨(s.2.1.length:Int)<s.1∨aMT s.2.2.1 s.2.2.2.2.2.2.2.2.2.2.2.1=false∨iS s.2.2.2.2.2.2.2.1 (iJ s.2.2.1)=false∨iS s.2.2.2.2.2.2.2.2.2.2.1 (iJ s.2.2.1)=false∨iS s.2.2.2.2.2.2.2.2.1 (eM s.2.2.1)=false):false=gG s:=by
 refine (Bool.eq_false_iff.2 fun hh=>?_).symm
 obtain ⟨h1,h2,h3,h4,h5,h6,h7,h8⟩:=(eI s).1 hh
 rcases h with h|h|h|h|h|h|h
 ·rw[h] at h1;cases h1
 ·omega
 ·omega
 ·rw[h] at h3;cases h3
 ·rw[h] at h5;cases h5
 ·rw[h] at h6;cases h6
 ·rw[h] at h7;cases h7
def cX:Con:=⟨139,aB,.bool,[.val ⟨false,aB,[]⟩],[⟨false,.bool,[0]⟩],false,none,
 ((fun _=>True):(List Int)→Prop),
 ((fun x=>iA x):(List Int)→(Bool))⟩
def aH6:T :=
 .bNU (.bNX 3 tI) (.Z 0) <|
 .bNU (.cmp .geq .i64) (.bNV tI tI (.Z 1) (.ci .i64 1)) <|
 .ite (.Z 2) (
  .bNU (.bNX 3 tI) (.Z 0) <|
  .bNU (.cmp .leq .i64) (.bNV tI tI (.Z 3) (.ci .i64 6)) <|
  .ite (.Z 4) (
   .call 0 (.Z 0) <|
   .ret (.Z 5)) (
   .ret (.cb false))) (
  .ret (.cb false))
theorem bEM:bM Tryz.prog [gT] cX false 3000 ⟨[],[]⟩ = .ok aH6:=by kernel_rfl
theorem bCK (x:List Int) (hx:okD aB x) (hp:(fun _=>True) x):aH6.wp [gT] [⟨aB,x⟩] [] (fun v=>v.as .bool=(fun x=>iA x) x):=by
 delta aH6 gT;refine dB ?_;try with_reducible exact True.intro
 (repeat' first|intro _|(with_reducible apply And.intro))
 all_goals simp only[nS] at *
 all_goals first|(first|(refine (Bool.eq_false_iff.2 ?_).symm;rw[ne_eq,cL];intro hh;omega)|(refine (cL.2 ?_).symm;omega))|(rw[Bool.eq_iff_iff,cL];exact ⟨fun h=>⟨by omega,by omega,h⟩,fun h=>h.2.2⟩)
theorem oD:Con.Holds Tryz.prog cX:=aS aW (aH aDR aR) bEM bCK
def cB:Con:=⟨101,(.bNT aB tI),.bool,[.val ⟨false,aB,[]⟩,.val ⟨false,tI,[]⟩],[⟨false,.bool,[0]⟩],false,none,
 ((fun _=>True):(bK × Int)→Prop),
 ((fun x=>eF x.1 x.2):(bK × Int)→(Bool))⟩
def aHC:T:=.call 0 (.p1 aB tI (.Z 0)) <|.ite (.Z 1) (
 .bNU (.bNX 3 tI) (.p1 aB tI (.Z 0)) <|
 .bNU (.cmp .eql .i64) (.bNV tI tI (.Z 2) (aO (.bNT aB tI) 1 (.Z 0))) <|
 .ret (.Z 3)) (
 .ret (.cb false))
theorem bD0:bM Tryz.prog [cX] cB false 3000 ⟨[],[]⟩ = .ok aHC:=by kernel_rfl
theorem bCC (x:bK × Int) (hx:okD (.bNT aB tI) x) (hp:(fun _=>True) x):aHC.wp [cX] [⟨(.bNT aB tI),x⟩] [] (fun v=>v.as .bool=(fun x=>eF x.1 x.2) x):=by
 delta aHC cX;refine dB ?_
 exact ⟨fun h _=>bI3 h,fun h=>aA9 h⟩
theorem jT:Con.Holds Tryz.prog cB:=aS aW (aH oD aR) bD0 bCC
def kS:Con:=⟨64,aK,tI,[.val ⟨true,aK,[]⟩],[⟨false,tI,[0]⟩],false,none,
 ((fun _=>True):(bD)→Prop),
 ((fun x=>iJ x):(bD)→(Int))⟩
def aM0:T:=.call 0 (.Z 0) <|
 .bNU .not (.Z 1) <|
 .ite (.Z 2) (
  .ret (.ci .i64 0)) (
  .bNU (.bNY 78 bG) (.bNV aK tI (.Z 0) (.ci .i64 0)) <|
  .ret (aJ bG 1 (.Z 3)))
theorem bIC:bM Tryz.prog [dW] kS false 3000 ⟨[],[]⟩ = .ok aM0:=by kernel_rfl
theorem bF7 (x:bD) (hx:okD aK x) (hp:(fun _=>True) x):aM0.wp [dW] [⟨aK,x⟩] [] (fun v=>v.as tI=(fun x=>iJ x) x):=by
 delta aM0 dW;refine dB ?_
 refine ⟨fun h=>?_,fun h=>?_⟩
 all_goals simp only[nS] at h
 ·unfold iJ;rw[h];rfl
 ·have:=(bR x).1 h
  refine ⟨by omega,fun _=>?_⟩
  unfold iJ;rw[if_pos h];rfl
theorem aL5:Con.Holds Tryz.prog kS:=aS aW (aH tG aR) bIC bF7
def jC:Con:=⟨65,aK,tI,[.val ⟨true,aK,[]⟩],[⟨false,tI,[0]⟩],false,none,
 ((fun _=>True):(bD)→Prop),
 ((fun x=>eM x):(bD)→(Int))⟩
def aG2:T:=.call 0 (.Z 0) <|
 .bNU .not (.Z 1) <|
 .ite (.Z 2) (
  .ret (.ci .i64 0)) (
  .bNU (.bNX 78 bG) (.Z 0) <|
  .bNU (.ar .sub .i64) (.bNV tI tI (.Z 3) (.ci .i64 1)) <|
  .bNU (.bNY 78 bG) (.bNV aK tI (.Z 0) (.Z 4)) <|
  .ret (aJ bG 2 (.Z 5)))
theorem bEP:bM Tryz.prog [dW] jC false 3000 ⟨[],[]⟩ = .ok aG2:=by kernel_rfl
theorem bD7 (x:bD) (hx:okD aK x) (hp:(fun _=>True) x):aG2.wp [dW] [⟨aK,x⟩] [] (fun v=>v.as tI=(fun x=>eM x) x):=by
 delta aG2 dW;refine dB ?_
 refine ⟨fun h=>?_,fun h=>?_⟩
 all_goals simp only[nS] at h
 ·unfold eM;rw[h];rfl
 ·have:=(bR x).1 h
  refine fun _=>⟨by omega,fun _=>⟨by omega,fun _=>?_⟩⟩
  unfold eM;rw[if_pos h,xY];rfl
theorem aFV:Con.Holds Tryz.prog jC:=aS aW (aH tG aR) bEP bD7
def pH:Con:=⟨66,(.bNT aB tI),.bool,[.val ⟨false,aB,[]⟩,.val ⟨false,tI,[]⟩],[⟨false,.bool,[0]⟩],false,none,
 ((fun _=>True):(bK × Int)→Prop),
 ((fun x=>iS x.1 x.2):(bK × Int)→(Bool))⟩
def yX:T :=
 .bNU (.bNX 3 tI) (.p1 aB tI (.Z 0)) <|
 .bNU (.cmp .eql .i64) (.bNV tI tI (.Z 1) (.ci .i64 0)) <|
 .ite (.Z 2) (
  .ret (.cb true)) (
  .call 0 (.Z 0) <|
  .ret (.Z 3))
theorem aTG:bM Tryz.prog [cB] pH false 3000 ⟨[],[]⟩ = .ok yX:=by kernel_rfl
theorem aV1 (x:bK × Int) (hx:okD (.bNT aB tI) x) (hp:(fun _=>True) x):yX.wp [cB] [⟨(.bNT aB tI),x⟩] [] (fun v=>v.as .bool=(fun x=>iS x.1 x.2) x):=by
 delta yX cB;refine dB ?_
 intro _
 refine dT ?_
 refine ⟨fun h=>?_,fun h=>?_⟩
 ·unfold iS;rw[decide_eq_true (by omega)];rfl
 ·unfold iS;rw[decide_eq_false (by omega)];rfl
theorem aVK:Con.Holds Tryz.prog pH:=aS aW (aH jT aR) aTG aV1
def pM:Con:=⟨71,(.bNT aB tI),.bool,[.val ⟨false,aB,[]⟩,.val ⟨false,tI,[]⟩],[⟨false,.bool,[0]⟩],false,none,
 ((fun _=>True):(bK × Int)→Prop),
 ((fun x=>iS x.1 x.2):(bK × Int)→(Bool))⟩
def aA5:T :=
 .bNU (.bNX 3 tI) (.p1 aB tI (.Z 0)) <|
 .bNU (.cmp .eql .i64) (.bNV tI tI (.Z 1) (.ci .i64 0)) <|
 .ite (.Z 2) (
  .ret (.cb true)) (
  .call 0 (.p1 aB tI (.Z 0)) <|
  .ite (.Z 3) (
   .bNU (.bNX 3 tI) (.p1 aB tI (.Z 0)) <|
   .bNU (.cmp .eql .i64) (.bNV tI tI (.Z 4) (aO (.bNT aB tI) 1 (.Z 0))) <|
   .ret (.Z 5)) (
   .ret (.cb false)))
theorem aSC:bM Tryz.prog [bJ] pM false 3000 ⟨[],[]⟩ = .ok aA5:=by kernel_rfl
theorem aUP (x:bK × Int) (hx:okD (.bNT aB tI) x) (hp:(fun _=>True) x):aA5.wp [bJ] [⟨(.bNT aB tI),x⟩] [] (fun v=>v.as .bool=(fun x=>iS x.1 x.2) x):=by
 delta aA5 bJ;refine dB ?_
 intro _
 refine dT ?_
 refine ⟨fun h=>?_,fun h=>⟨fun h2 _=>?_,fun h2=>?_⟩⟩
 ·unfold iS;rw[decide_eq_true (by omega)];rfl
 ·unfold iS;rw[decide_eq_false (by omega),Bool.false_or];exact bI3 h2
 ·unfold iS;rw[decide_eq_false (by omega),Bool.false_or];exact aA9 h2
theorem aSW:Con.Holds Tryz.prog pM:=aS aW (aH fD aR) aSC aUP
def lC:Con:=⟨63,(.bNT aK (.bNT aI tI)),.bool,[.val ⟨false,aK,[]⟩,.val ⟨false,aI,[]⟩,.val ⟨false,tI,[]⟩],[⟨false,.bool,[0]⟩],false,none,
 ((fun x=>bW x.1=true∧x.2.2≤(x.2.1.length:Int)):(bD × (cV × Int))→Prop),
 ((fun x=>qK x.1 x.2.1 x.2.2.toNat):(bD × (cV × Int))→(Bool))⟩
def aEG:T:=.loop tI (.ci .i64 0) <|
 .bNU (.cmp .lss .i64) (.bNV tI tI (.Z 1) (aO (.bNT aK (.bNT aI tI)) 2 (.Z 0))) <|
 .ite (.Z 2) (
  .bNU (.bNX 78 bG) (.p1 aK (.bNT aI tI) (.Z 0)) <|
  .bNU (.ar .sub .i64) (.bNV tI tI (.Z 3) (.ci .i64 1)) <|
  .bNU (.bNY 78 bG) (.bNV aK tI (.p1 aK (.bNT aI tI) (.Z 0)) (.Z 4)) <|
  .bNU (.bNX 78 bG) (.p1 aK (.bNT aI tI) (.Z 0)) <|
  .bNU (.cmp .lss .i64) (.bNV tI tI (.Z 1) (.Z 6)) <|
  .ite (.Z 7) (
   .bNU (.bNY 78 bG) (.bNV aK tI (.p1 aK (.bNT aI tI) (.Z 0)) (.Z 1)) <|
   .bNU (.bNY 112 aB) (.bNV aI tI (aJ (.bNT aK (.bNT aI tI)) 1 (.Z 0)) (.Z 1)) <|
   .call 0 (.bNV aB tI (.Z 9) (aJ bG 1 (.Z 8))) <|
   .bNU .not (.Z 10) <|
   .ite (.Z 11) (
    .ret (.cb false)) (
    .bNU (.ar .add .i64) (.bNV tI tI (.Z 1) (.ci .i64 1)) <|
    .bNW 0 (.Z 12))) (
   .bNU (.bNY 112 aB) (.bNV aI tI (aJ (.bNT aK (.bNT aI tI)) 1 (.Z 0)) (.Z 1)) <|
   .call 0 (.bNV aB tI (.Z 8) (aJ bG 2 (.Z 5))) <|
   .bNU .not (.Z 9) <|
   .ite (.Z 10) (
    .ret (.cb false)) (
    .bNU (.ar .add .i64) (.bNV tI tI (.Z 1) (.ci .i64 1)) <|
    .bNW 0 (.Z 11)))) (
  .ret (.cb true))
theorem aYA:bM Tryz.prog [cB] lC false 3000 ⟨[(2993,1001,[.tm 7 0])],[]⟩ = .ok aEG:=by kernel_rfl
theorem aX1 (x:bD × (cV × Int)) (hx:okD (.bNT aK (.bNT aI tI)) x) (hp:(fun x=>bW x.1=true∧x.2.2≤(x.2.1.length:Int)) x):aEG.wp [cB] [⟨(.bNT aK (.bNT aI tI)),x⟩] [] (fun v=>v.as .bool=(fun x=>qK x.1 x.2.1 x.2.2.toNat) x):=by
 obtain ⟨m,r,n⟩:=x
 obtain ⟨hm,hn⟩:bW m=true∧n≤(r.length:Int):=hp
 have hr:r.length≤9223372036854775807:=hx.2.1.1
 have hm1:=(bR m).1 hm
 delta aEG cB;refine dB ?_
 refine ⟨fun s=>∃ k:Nat,k≤n.toNat∧s=(k:Int)∧∀ i,i<k→eF (r.getD i []) (fX m i)=true,fun s=>n.toNat - (s:Int).toNat,⟨0,by omega,rfl,by omega⟩,fun s _ hI=>?_⟩
 obtain ⟨k,hk,rfl,ha⟩:=hI
 refine dT ?_
 have bad:k<n.toNat→∀ z:Int,z=fX m k→eF (r.getD k []) z=false→false=qK m r n.toNat:=fun h z hz hv=>by
  refine (Bool.eq_false_iff.2 fun hh=>?_).symm
  have:=(mK _ _ _).1 hh k h
  rw[← hz,hv] at this;cases this
 have good:∀ z:Int,z=fX m k→eF (r.getD k []) z=true→∀ i,i<k+1→eF (r.getD i []) (fX m i)=true:=fun z hz hv i hi=>by
  rcases Nat.lt_or_eq_of_le (Nat.le_of_lt_succ hi) with h|rfl
  ·exact ha i h
  ·rw[← hz];exact hv
 constructor
 ·intro hlt
  have e1:(m.getD (m.length - 1) (aV bG)).2.2.1=(m.getD (m.length - 1) zOp).2.2.1:=rfl
  have e2:(m.getD k (aV bG)).2.1=(m.getD k zOp).2.1:=rfl
  have z1:k<m.length→(m.getD k zOp).2.1=fX m k:=fun h=>by unfold fX;rw[if_pos h]
  have z2:¬ k<m.length→(m.getD (m.length - 1) zOp).2.2.1=fX m k:=fun h=>by unfold fX;rw[if_neg h]
  (repeat' first|intro _|(with_reducible apply And.intro))
  all_goals first|omega|(exact bad (by omega) _ (z1 (by omega)) (by assumption))|(exact bad (by omega) _ (z2 (by omega)) (by assumption))|(exact ⟨k+1,by omega,rfl,good _ (z1 (by omega)) (by assumption)⟩)|(exact ⟨k+1,by omega,rfl,good _ (z2 (by omega)) (by assumption)⟩)
 ·intro hge
  exact ((mK _ _ _).2 fun i hi=>ha i (by omega)).symm
theorem aLA:Con.Holds Tryz.prog lC:=aS aW (aH jT aR) aYA aX1
def dY:Con:=⟨33,aA,.bool,[.val ⟨true,aA,[]⟩],[⟨false,.bool,[0]⟩],false,none,
 ((fun _=>True):(bA)→Prop),
 ((fun x=>gG x):(bA)→(Bool))⟩
def zT:T:=.call 0 (.Z 0) <|.call 1 (.Z 1) <|
 .bNU .not (.Z 2) <|
 .ite (.Z 3) (
  .ret (.cb false)) (
  .bNU (.cmp .lss .i64) (.bNV tI tI (.p1 tI cU (.Z 0)) (.ci .i64 0)) <|
  .ite (.Z 4) (
   .ret (.cb false)) (
   .bNU (.bNX 76 aE) (aJ aA 1 (.Z 0)) <|
   .bNU (.cmp .gtr .i64) (.bNV tI tI (.p1 tI cU (.Z 0)) (.Z 5)) <|
   .ite (.Z 6) (
    .ret (.cb false)) (
    .call 2 (.bNV aK aI (.Z 1) (aJ aA 11 (.Z 0))) <|
    .bNU .not (.Z 7) <|
    .ite (.Z 8) (
     .ret (.cb false)) (
     .bNU (.bNX 78 bG) (aJ aA 2 (.Z 0)) <|
     .bNU (.ar .add .i64) (.bNV tI tI (.Z 9) (.ci .i64 1)) <|
     .ite (aJ aA 4 (.Z 0)) (
      .bNU (.bNX 80 aD) (aJ aA 5 (.Z 0)) <|
      .loop tI (.ci .i64 0) <|
       .bNU (.cmp .lss .i64) (.bNV tI tI (.Z 12) (.Z 11)) <|
       .ite (.Z 13) (
        .bNU (.bNY 80 aD) (.bNV (.slice 80 aD) tI (aJ aA 5 (.Z 0)) (.Z 12)) <|
        .bNU (.bNX 112 aB) (aO aD 1 (.Z 14)) <|
        .bNU (.cmp .neq .i64) (.bNV tI tI (.Z 15) (.ci .i64 1)) <|
        .ite (.Z 16) (
         .ret (.cb false)) (
         .call 3 (bB (.bNT aK (.bNT aI tI)) [(aJ aA 2 (.Z 0)),(aO aD 1 (.Z 14)),(.ci .i64 1)]) <|
         .bNU .not (.Z 17) <|
         .ite (.Z 18) (
          .ret (.cb false)) (
          .bNU (.ar .add .i64) (.bNV tI tI (.Z 12) (.ci .i64 1)) <|
          .bNW 0 (.Z 19)))) (
        .call 4 (.Z 1) <|
        .call 5 (.Z 1) <|
        .call 6 (.bNV aB tI (aJ aA 7 (.Z 0)) (.Z 14)) <|
        .ite (.Z 16) (
         .call 6 (.bNV aB tI (aJ aA 10 (.Z 0)) (.Z 14)) <|
         .ite (.Z 17) (
          .call 6 (.bNV aB tI (aJ aA 8 (.Z 0)) (.Z 15)) <|
          .ite (.Z 18) (
           .call 6 (.bNV aB tI (aJ aA 9 (.Z 0)) (.Z 15)) <|
           .ret (.Z 19)) (
           .ret (.cb false))) (
          .ret (.cb false))) (
         .ret (.cb false)))) (
      .bNU (.bNX 80 aD) (aJ aA 5 (.Z 0)) <|
      .loop tI (.ci .i64 0) <|
       .bNU (.cmp .lss .i64) (.bNV tI tI (.Z 12) (.Z 11)) <|
       .ite (.Z 13) (
        .bNU (.bNY 80 aD) (.bNV (.slice 80 aD) tI (aJ aA 5 (.Z 0)) (.Z 12)) <|
        .bNU (.bNX 112 aB) (aO aD 1 (.Z 14)) <|
        .bNU (.cmp .neq .i64) (.bNV tI tI (.Z 15) (.Z 10)) <|
        .ite (.Z 16) (
         .ret (.cb false)) (
         .call 3 (bB (.bNT aK (.bNT aI tI)) [(aJ aA 2 (.Z 0)),(aO aD 1 (.Z 14)),(.Z 10)]) <|
         .bNU .not (.Z 17) <|
         .ite (.Z 18) (
          .ret (.cb false)) (
          .bNU (.ar .add .i64) (.bNV tI tI (.Z 12) (.ci .i64 1)) <|
          .bNW 0 (.Z 19)))) (
        .call 4 (.Z 1) <|
        .call 5 (.Z 1) <|
        .call 6 (.bNV aB tI (aJ aA 7 (.Z 0)) (.Z 14)) <|
        .ite (.Z 16) (
         .call 6 (.bNV aB tI (aJ aA 10 (.Z 0)) (.Z 14)) <|
         .ite (.Z 17) (
          .call 6 (.bNV aB tI (aJ aA 8 (.Z 0)) (.Z 15)) <|
          .ite (.Z 18) (
           .call 6 (.bNV aB tI (aJ aA 9 (.Z 0)) (.Z 15)) <|
           .ret (.Z 19)) (
           .ret (.cb false))) (
          .ret (.cb false))) (
         .ret (.cb false))))))))
theorem aVY:bM Tryz.prog [dV,dW,nM,lC,kS,jC,pH] dY false 3000 ⟨[(2979,48012,iT 41 9++[.dr 0,.tm 44 0]),(2979,32012,iT 41 9++[.dr 0,.tm 44 0])],[]⟩ = .ok zT:=by kernel_rfl
theorem aT8 (x:bA) (hx:okD aA x) (hp:(fun _=>True) x):zT.wp [dV,dW,nM,lC,kS,jC,pH] [⟨aA,x⟩] [] (fun v=>v.as .bool=(fun x=>gG x) x):=by
  have hst:x.2.2.2.2.2.1.length≤9223372036854775807:=hx.2.2.2.2.2.1.1
  delta zT dV dW nM lC kS jC pH;refine dB ?_
  refine dT ?_
  intro _
  refine ⟨fun h=>nK (.inl h),fun h1=>⟨fun h=>nK (.inr (.inl h)),fun h2 _=>⟨fun h=>nK (.inr (.inr (.inl h))),fun h3=>⟨fun h=>nK (.inr (.inr (.inr (.inl h)))),fun h4 _=>?_⟩⟩⟩⟩
  have hm:=(bR _).1 h1
  refine ⟨by omega,fun _=>⟨fun hr _=>?_,fun hr _=>?_⟩⟩
  all_goals
    refine ⟨fun s=>∃ k:Nat,k≤x.2.2.2.2.2.1.length∧s=(k:Int)∧∀ i,i<k→mV x.2.2.1 x.2.2.2.2.1 (x.2.2.2.2.2.1.getD i (aV aD))=true,fun s=>x.2.2.2.2.2.1.length - (s:Int).toNat,⟨0,by omega,rfl,by omega⟩,fun s _ hI=>?_⟩
    obtain ⟨k,hk,rfl,ha⟩:=hI
    refine dT ?_
    obtain ⟨n,hn⟩:∃ n,n=zV x.2.2.1 x.2.2.2.2.1:=⟨_,rfl⟩
    have hn1:=hn
    unfold zV at hn1
    rw[hr] at hn1
    simp only[if_true,Bool.false_eq_true,if_false] at hn1
    have hkn:=(hn1.symm.trans hn).symm
    clear hn hn1
    constructor
  rotate_left 1
  rotate_left 2
  all_goals first
    | (intro hge
       have hst:=aOB (s:=x) (fun i hi=>ha i (by omega))
       rw[aS8 h1 ⟨by omega,by omega⟩ h4 hst]
       (repeat' first|intro _|(with_reducible apply And.intro))
       all_goals simp_all
       done)
    | skip
  all_goals
    intro hlt
    have hk':k<x.2.2.2.2.2.1.length:=by omega
    (repeat' first|intro _|(with_reducible apply And.intro))
    all_goals first|omega|exact h1|(exact aGY hk' fun hh=>by have:=((aHE hkn.symm).1 hh).1;omega)|skip
    all_goals first|(refine aGY hk' fun hh=>?_;have h5:=((aHE hkn.symm).1 hh).2;exact Bool.noConfusion (h5.symm.trans (by assumption:_=false)))|(refine ⟨k+1,by omega,rfl,fun i hi=>?_⟩;rcases Nat.lt_or_eq_of_le (Nat.le_of_lt_succ hi) with h|rfl;exact ha i h;exact (aHE hkn.symm).2 ⟨by omega,by assumption⟩)
theorem tK:Con.Holds Tryz.prog dY:=aS aW (aH tP (aH tG (aH aPN (aH aLA (aH aL5 (aH aFV (aH aVK aR))))))) aVY aT8
def dX:Con:=⟨39,aA,.bool,[.val ⟨true,aA,[]⟩],[⟨false,.bool,[0]⟩],false,none,
 ((fun _=>True):(bA)→Prop),
 ((fun x=>gG x):(bA)→(Bool))⟩
def aAI:T:=.call 0 (aJ aA 2 (.Z 0)) <|
 .bNU .not (.Z 1) <|
 .ite (.Z 2) (
  .ret (.cb false)) (
  .bNU (.bNX 76 aE) (aJ aA 1 (.Z 0)) <|
  .call 1 (bB (.bNT tI aE) [(.p1 tI cU (.Z 0)),(.ci .i64 0),(.Z 3)]) <|
  .bNU .not (.Z 4) <|
  .ite (.Z 5) (
   .ret (.cb false)) (
   .bNU (.bNX 112 aB) (aJ aA 11 (.Z 0)) <|
   .bNU (.bNX 78 bG) (aJ aA 2 (.Z 0)) <|
   .bNU (.cmp .neq .i64) (.bNV tI tI (.Z 6) (.Z 7)) <|
   .ite (.Z 8) (
    .ret (.cb false)) (
    .bNU (.bNY 78 bG) (.bNV aK tI (aJ aA 2 (.Z 0)) (.ci .i64 0)) <|
    .bNU (.bNX 78 bG) (aJ aA 2 (.Z 0)) <|
    .bNU (.ar .sub .i64) (.bNV tI tI (.Z 10) (.ci .i64 1)) <|
    .bNU (.bNY 78 bG) (.bNV aK tI (aJ aA 2 (.Z 0)) (.Z 11)) <|
    .loop tI (.ci .i64 0) <|
     .bNU (.bNX 78 bG) (aJ aA 2 (.Z 0)) <|
     .bNU (.cmp .lss .i64) (.bNV tI tI (.Z 13) (.Z 14)) <|
     .ite (.Z 15) (
      .bNU (.bNY 112 aB) (.bNV aI tI (aJ aA 11 (.Z 0)) (.Z 13)) <|
      .bNU (.bNX 3 tI) (.Z 16) <|
      .bNU (.bNY 78 bG) (.bNV aK tI (aJ aA 2 (.Z 0)) (.Z 13)) <|
      .bNU (.bNX 3 tI) (aO bG 3 (.Z 18)) <|
      .bNU (.cmp .neq .i64) (.bNV tI tI (.Z 17) (.Z 19)) <|
      .ite (.Z 20) (
       .ret (.cb false)) (
       .bNU (.ar .add .i64) (.bNV tI tI (.Z 13) (.ci .i64 1)) <|
       .bNW 0 (.Z 21))) (
      .loop tI (.ci .i64 0) <|
       .bNU (.bNX 80 aD) (aJ aA 5 (.Z 0)) <|
       .bNU (.cmp .lss .i64) (.bNV tI tI (.Z 16) (.Z 17)) <|
       .ite (.Z 18) (
        .bNU (.bNY 80 aD) (.bNV (.slice 80 aD) tI (aJ aA 5 (.Z 0)) (.Z 16)) <|
        .bNU (.bNX 112 aB) (aO aD 1 (.Z 19)) <|
        .bNU (.cmp .eql .i64) (.bNV tI tI (.Z 20) (.ci .i64 0)) <|
        .ite (.Z 21) (
         .ret (.cb false)) (
         .bNU (.bNY 112 aB) (.bNV aI tI (aO aD 1 (.Z 19)) (.ci .i64 0)) <|
         .call 2 (.Z 22) <|
         .bNU .not (.Z 23) <|
         .ite (.Z 24) (
          .ret (.cb false)) (
          .bNU (.bNY 112 aB) (.bNV aI tI (aO aD 1 (.Z 19)) (.ci .i64 0)) <|
          .bNU (.bNX 3 tI) (.Z 25) <|
          .bNU (.cmp .neq .i64) (.bNV tI tI (.Z 26) (aJ bG 1 (.Z 9))) <|
          .ite (.Z 27) (
           .ret (.cb false)) (
           .bNU .not (aJ aA 4 (.Z 0)) <|
           .ite (.Z 28) (
            .bNU (.bNX 112 aB) (aO aD 1 (.Z 19)) <|
            .bNU (.bNX 78 bG) (aJ aA 2 (.Z 0)) <|
            .bNU (.ar .add .i64) (.bNV tI tI (.Z 30) (.ci .i64 1)) <|
            .bNU (.cmp .neq .i64) (.bNV tI tI (.Z 29) (.Z 31)) <|
            .ite (.Z 32) (
             .ret (.cb false)) (
             .ite (aJ aA 4 (.Z 0)) (
              .bNU (.bNX 112 aB) (aO aD 1 (.Z 19)) <|
              .bNU (.cmp .neq .i64) (.bNV tI tI (.Z 33) (.ci .i64 1)) <|
              .ite (.Z 34) (
               .ret (.cb false)) (
               .loop tI (.ci .i64 1) <|
                .bNU (.bNX 112 aB) (aO aD 1 (.Z 19)) <|
                .bNU (.cmp .lss .i64) (.bNV tI tI (.Z 35) (.Z 36)) <|
                .ite (.Z 37) (
                 .bNU (.bNY 112 aB) (.bNV aI tI (aO aD 1 (.Z 19)) (.Z 35)) <|
                 .call 2 (.Z 38) <|
                 .bNU .not (.Z 39) <|
                 .ite (.Z 40) (
                  .ret (.cb false)) (
                  .bNU (.ar .sub .i64) (.bNV tI tI (.Z 35) (.ci .i64 1)) <|
                  .bNU (.bNY 112 aB) (.bNV aI tI (aO aD 1 (.Z 19)) (.Z 35)) <|
                  .bNU (.bNX 3 tI) (.Z 42) <|
                  .bNU (.bNY 78 bG) (.bNV aK tI (aJ aA 2 (.Z 0)) (.Z 41)) <|
                  .bNU (.cmp .neq .i64) (.bNV tI tI (.Z 43) (aJ bG 2 (.Z 44))) <|
                  .ite (.Z 45) (
                   .ret (.cb false)) (
                   .bNU (.ar .add .i64) (.bNV tI tI (.Z 35) (.ci .i64 1)) <|
                   .bNW 0 (.Z 46)))) (
                 .bNU (.ar .add .i64) (.bNV tI tI (.Z 16) (.ci .i64 1)) <|
                 .bNW 1 (.Z 38)))) (
              .loop tI (.ci .i64 1) <|
               .bNU (.bNX 112 aB) (aO aD 1 (.Z 19)) <|
               .bNU (.cmp .lss .i64) (.bNV tI tI (.Z 33) (.Z 34)) <|
               .ite (.Z 35) (
                .bNU (.bNY 112 aB) (.bNV aI tI (aO aD 1 (.Z 19)) (.Z 33)) <|
                .call 2 (.Z 36) <|
                .bNU .not (.Z 37) <|
                .ite (.Z 38) (
                 .ret (.cb false)) (
                 .bNU (.ar .sub .i64) (.bNV tI tI (.Z 33) (.ci .i64 1)) <|
                 .bNU (.bNY 112 aB) (.bNV aI tI (aO aD 1 (.Z 19)) (.Z 33)) <|
                 .bNU (.bNX 3 tI) (.Z 40) <|
                 .bNU (.bNY 78 bG) (.bNV aK tI (aJ aA 2 (.Z 0)) (.Z 39)) <|
                 .bNU (.cmp .neq .i64) (.bNV tI tI (.Z 41) (aJ bG 2 (.Z 42))) <|
                 .ite (.Z 43) (
                  .ret (.cb false)) (
                  .bNU (.ar .add .i64) (.bNV tI tI (.Z 33) (.ci .i64 1)) <|
                  .bNW 0 (.Z 44)))) (
                .bNU (.ar .add .i64) (.bNV tI tI (.Z 16) (.ci .i64 1)) <|
                .bNW 1 (.Z 36))))) (
            .ite (aJ aA 4 (.Z 0)) (
             .bNU (.bNX 112 aB) (aO aD 1 (.Z 19)) <|
             .bNU (.cmp .neq .i64) (.bNV tI tI (.Z 29) (.ci .i64 1)) <|
             .ite (.Z 30) (
              .ret (.cb false)) (
              .loop tI (.ci .i64 1) <|
               .bNU (.bNX 112 aB) (aO aD 1 (.Z 19)) <|
               .bNU (.cmp .lss .i64) (.bNV tI tI (.Z 31) (.Z 32)) <|
               .ite (.Z 33) (
                .bNU (.bNY 112 aB) (.bNV aI tI (aO aD 1 (.Z 19)) (.Z 31)) <|
                .call 2 (.Z 34) <|
                .bNU .not (.Z 35) <|
                .ite (.Z 36) (
                 .ret (.cb false)) (
                 .bNU (.ar .sub .i64) (.bNV tI tI (.Z 31) (.ci .i64 1)) <|
                 .bNU (.bNY 112 aB) (.bNV aI tI (aO aD 1 (.Z 19)) (.Z 31)) <|
                 .bNU (.bNX 3 tI) (.Z 38) <|
                 .bNU (.bNY 78 bG) (.bNV aK tI (aJ aA 2 (.Z 0)) (.Z 37)) <|
                 .bNU (.cmp .neq .i64) (.bNV tI tI (.Z 39) (aJ bG 2 (.Z 40))) <|
                 .ite (.Z 41) (
                  .ret (.cb false)) (
                  .bNU (.ar .add .i64) (.bNV tI tI (.Z 31) (.ci .i64 1)) <|
                  .bNW 0 (.Z 42)))) (
                .bNU (.ar .add .i64) (.bNV tI tI (.Z 16) (.ci .i64 1)) <|
                .bNW 1 (.Z 34)))) (
             .loop tI (.ci .i64 1) <|
              .bNU (.bNX 112 aB) (aO aD 1 (.Z 19)) <|
              .bNU (.cmp .lss .i64) (.bNV tI tI (.Z 29) (.Z 30)) <|
              .ite (.Z 31) (
               .bNU (.bNY 112 aB) (.bNV aI tI (aO aD 1 (.Z 19)) (.Z 29)) <|
               .call 2 (.Z 32) <|
               .bNU .not (.Z 33) <|
               .ite (.Z 34) (
                .ret (.cb false)) (
                .bNU (.ar .sub .i64) (.bNV tI tI (.Z 29) (.ci .i64 1)) <|
                .bNU (.bNY 112 aB) (.bNV aI tI (aO aD 1 (.Z 19)) (.Z 29)) <|
                .bNU (.bNX 3 tI) (.Z 36) <|
                .bNU (.bNY 78 bG) (.bNV aK tI (aJ aA 2 (.Z 0)) (.Z 35)) <|
                .bNU (.cmp .neq .i64) (.bNV tI tI (.Z 37) (aJ bG 2 (.Z 38))) <|
                .ite (.Z 39) (
                 .ret (.cb false)) (
                 .bNU (.ar .add .i64) (.bNV tI tI (.Z 29) (.ci .i64 1)) <|
                 .bNW 0 (.Z 40)))) (
               .bNU (.ar .add .i64) (.bNV tI tI (.Z 16) (.ci .i64 1)) <|
               .bNW 1 (.Z 32)))))))) (
        .call 3 (.bNV aB tI (aJ aA 7 (.Z 0)) (aJ bG 1 (.Z 9))) <|
        .ite (.Z 19) (
         .call 3 (.bNV aB tI (aJ aA 8 (.Z 0)) (aJ bG 2 (.Z 12))) <|
         .ite (.Z 20) (
          .call 3 (.bNV aB tI (aJ aA 9 (.Z 0)) (aJ bG 2 (.Z 12))) <|
          .ite (.Z 21) (
           .call 3 (.bNV aB tI (aJ aA 10 (.Z 0)) (aJ bG 1 (.Z 9))) <|
           .ret (.Z 22)) (
           .ret (.cb false))) (
          .ret (.cb false))) (
         .ret (.cb false)))))))
theorem aW4:bM Tryz.prog [bY,bI,bJ,pM] dX false 3000 ⟨[(2984,8013,iT 46 9++[.dr 0,.tm 5 0]),(2974,16016,iT 51 47++[.dr 5,.tm 6 0]),(2956,5392035,[.tm 8 0]),(2956,2320033,[.tm 8 0]),(2956,2576031,[.tm 8 0]),(2956,1040029,[.tm 8 0])],[]⟩ = .ok aAI:=by kernel_rfl
theorem aT9 (x:bA) (hx:okD aA x) (hp:(fun _=>True) x):aAI.wp [bY,bI,bJ,pM] [⟨aA,x⟩] [] (fun v=>v.as .bool=(fun x=>gG x) x):=by
  obtain ⟨pc,plan,ops,last,redo,stash,full,X,Y,G,D,sum⟩:=x
  have hst:stash.length≤9223372036854775807:=hx.2.2.2.2.2.1.1
  have hsr:∀ k,k<stash.length→(stash.getD k (aV aD)).2.length≤9223372036854775807:=fun k hk=>by rw[aZ hk];exact (hx.2.2.2.2.2.1.2 _ (List.getElem_mem hk)).2.1
  have hol:ops.length≤9223372036854775807:=hx.2.2.1.1
  delta aAI bY bI bJ pM;refine dB ?_
  refine dT ?_
  refine ⟨fun h=>nK (.inl h),fun h1 _=>⟨fun h=>?_,fun h2 _ _=>⟨fun h=>?_,fun h3=>?_⟩⟩⟩
  · rcases h with h|h
    · exact nK (.inr (.inl (by omega)))
    · exact nK (.inr (.inr (.inl (by omega))))
  · exact nK (.inr (.inr (.inr (.inl (Bool.eq_false_iff.2 fun hh=>by rw[aB6] at hh;dsimp only at hh;omega)))))
  have hm:=(bR _).1 h1
  refine ⟨by omega,fun _ _=>⟨by omega,fun _=>⟨by omega,fun _=>?_⟩⟩⟩
  have ein:(ops.getD 0 (aV bG)).2.1=iJ ops:=by unfold iJ;rw[if_pos h1];rfl
  have eout:(ops.getD (ops.length - 1) (aV bG)).2.2.1=eM ops:=by unfold eM;rw[if_pos h1];rfl
  simp only[ein,eout]
  refine ⟨fun s=>∃ k:Nat,k≤ops.length∧s=(k:Int)∧∀ i,i<k→aK2 ops sum.1 i=true,fun s=>ops.length - (s:Int).toNat,⟨0,by omega,rfl,by omega⟩,fun s _ hI=>?_⟩
  obtain ⟨k,hk,rfl,hf⟩:=hI
  refine dT ?_
  intro _
  constructor
  · intro hlt
    have hk':k<ops.length:=by omega
    have hk2:k<sum.1.length:=by omega
    have e:=aOY ops sum.1 hk' hk2
    rw[← aZ hk' (d:=aV bG),← aZ hk2 (d:=aV aB)] at e
    (repeat' first|intro _|(with_reducible apply And.intro))
    all_goals first|omega|(exact nK (.inr (.inr (.inr (.inl (aUS hk' fun h2=>by have:=e.1 h2;omega))))))|(refine ⟨k+1,by omega,rfl,fun i hi=>?_⟩;rcases Nat.lt_or_eq_of_le (Nat.le_of_lt_succ hi) with h|rfl;exact hf i h;exact e.2 (by omega))
  intro hge
  have hfit:aMT ops sum.1=true:=(aB6 _ _).2 ⟨by omega,fun i hi=>hf i (by omega)⟩
  obtain ⟨F,hF⟩:∃ F:iQ→Bool,F=mV ops redo:=⟨_,rfl⟩
  obtain ⟨n,hn⟩:∃ n,n=zV ops redo:=⟨_,rfl⟩
  have hz0:fX ops 0=iJ ops:=by unfold fX iJ;rw[if_pos (by omega),if_pos h1]
  have sb:∀ S:iQ,F S=true↔S.2.length=n∧∀ i,i<n→eF (S.2.getD i (aV aB)) (fX ops i)=true:=fun S=>by rw[hF,hn];exact aLQ _ _ _
  have bad:∀ j,j<stash.length→¬ F (stash.getD j (aV aD))=true→false=gG (pc,plan,ops,last,redo,stash,full,X,Y,G,D,sum):=fun j hj h=>aGY hj (by show ¬ mV ops redo _=true;rw[← hF];exact h)
  have fin:(∀ i,i<stash.length→F (stash.getD i (aV aD))=true)→gG (pc,plan,ops,last,redo,stash,full,X,Y,G,D,sum)=(iS X (iJ ops)&&(iS D (iJ ops)&&(iS Y (eM ops)&&iS G (eM ops)))) :=
    fun h=>aS8 h1 ⟨by dsimp only;omega,by dsimp only;omega⟩ hfit (aOB fun i hi=>by show mV ops redo _=true;rw[← hF];exact h i hi)
  have hn1:(redo=true→n=1)∧(redo=false→n=ops.length+1):=by rw[hn];unfold zV;exact ⟨fun h=>by rw[h];rfl,fun h=>by rw[h];rfl⟩
  clear hF hn
  cases redo
  all_goals
    simp only[Bool.not_true,Bool.not_false,reduceCtorEq,true_implies,false_implies,and_true,true_and,forall_const] at hn1 ⊢
    refine ⟨fun s=>∃ k:Nat,k≤stash.length∧s=(k:Int)∧∀ i,i<k→F (stash.getD i (aV aD))=true,fun s=>stash.length - (s:Int).toNat,⟨0,by omega,rfl,by omega⟩,fun s _ hI=>?_⟩
    obtain ⟨j,hj,rfl,ha⟩:=hI
    refine dT ?_
    intro _
    constructor
    rotate_left
    · intro hge
      rw[fin fun i hi=>ha i (by omega)]
      (repeat' first|intro _|(with_reducible apply And.intro))
      all_goals simp_all
    intro hlt
    have hj':j<stash.length:=by omega
    have hrl:=hsr j hj'
    have bj:=bad j hj'
    have sj:=sb (stash.getD j (aV aD))
    have nx:F (stash.getD j (aV aD))=true→∀ i,i<j+1→F (stash.getD i (aV aD))=true:=fun h i hi=>by
      rcases Nat.lt_or_eq_of_le (Nat.le_of_lt_succ hi) with h'|rfl
      · exact ha i h'
      · exact h
    clear ha fin bad sb hsr
    generalize stash.getD j (aV aD)=S at *
    (repeat' first|intro _|(with_reducible apply And.intro))
    all_goals first|omega|(refine bj fun hh=>?_;have:=(sj.1 hh).1;omega)|(refine bj fun hh=>?_;have h5:=(sj.1 hh).2 0 (by omega);rw[cE] at h5;first|omega|(simp_all;done))|skip
    refine ⟨fun s=>∃ k:Nat,1≤k∧k≤S.2.length∧s=(k:Int)∧∀ i,1≤i→i<k→eF (S.2.getD i (aV aB)) (fX ops i)=true,fun s=>S.2.length - (s:Int).toNat,⟨1,by omega,by omega,rfl,by omega⟩,fun s _ hI=>?_⟩
    obtain ⟨k,hk1,hk,rfl,ha⟩:=hI
    refine dT ?_
    have hsz:k≤ops.length→fX ops k=(ops.getD (k - 1) (aV bG)).2.2.1:=fun h=>by
      have:=aV3 h1 (k:=k - 1) (by omega)
      rwa [Nat.sub_add_cancel hk1] at this
    (repeat' first|intro _|(with_reducible apply And.intro))
    all_goals first|omega|skip
    all_goals first
      | (refine bj fun hh=>?_;have h5:=(sj.1 hh).2 k (by omega);rw[cE,hsz (by omega)] at h5;first|omega|(simp_all;done))
      | (refine ⟨k+1,by omega,by omega,rfl,fun i hi1 hi=>?_⟩
         rcases Nat.lt_or_eq_of_le (Nat.le_of_lt_succ hi) with h'|rfl
         · exact ha i hi1 h'
         · rw[cE,hsz (by omega)];exact ⟨by assumption,by omega⟩)
      | (refine ⟨j+1,by omega,rfl,nx (sj.2 ⟨by omega,fun i hi=>?_⟩)⟩
         by_cases hi1:1≤i
         · exact ha i hi1 (by omega)
         · obtain rfl:i=0:=by omega
           rw[cE,hz0];exact ⟨by assumption,by omega⟩)
theorem tS:Con.Holds Tryz.prog dX:=aS aW (aH jI (aH eY (aH fD (aH aSW aR)))) aW4 aT9
end
end Go.Proofs.YtdeobhdbmehpgaaGreat
