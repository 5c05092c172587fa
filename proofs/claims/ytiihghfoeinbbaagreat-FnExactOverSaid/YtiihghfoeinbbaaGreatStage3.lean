/- Stage3: lemmas. No conditions. -/
import Derived.Test.YtiihghfoeinbbaaGreatZero2
import Derived.Test.YtiihghfoeinbbaaGreatSame3
namespace Go.Proofs.YtiihghfoeinbbaaGreat
noncomputable section
set_option maxRecDepth 100000
open Go.ChangeShapes Go.WideShapes Go.ChangeAt Go.RowKit Go.Deep
set_option linter.unusedVariables false
set_option linter.unusedSimpArgs false
def lH (m:List eK):Int:=if cQ m=true then (m.getD 0 zOp).2.1 else 0
def gY (m:List eK):Int:=if cQ m=true then (m.getD (m.length - 1) zOp).2.2.1 else 0
def eQ (v:List Int) (n:Int):Bool:=iK v&&decide ((v.length:Int)=n)
theorem cF (v:List Int) (n:Int):eQ v n=true↔iK v=true∧(v.length:Int)=n:=by unfold eQ;rw[Bool.and_eq_true,decide_eq_true_eq]
def jA (v:List Int) (n:Int):Bool:=decide (v.length=0) || eQ v n
def fW (m:List eK) (i:Nat):Int:=if i<m.length then (m.getD i zOp).2.1 else (m.getD (m.length - 1) zOp).2.2.1
theorem aSL {m:List eK} (h:cQ m=true) {k:Nat} (hk:k<m.length):fW m (k+1)=(m.getD k zOp).2.2.1:=by
 unfold fW
 split
 ·rename_i h1
  have h2:=((bY m).1 h).2.2 (k+1) h1
  rw[zO m h1] at h2
  rcases h2.2 with h3|h3
  ·omega
  ·rw[aZ h1,aZ hk]
   exact h3.symm
 ·have:m.length - 1=k:=by omega
  rw[this]
def qH (m:List eK) (r:List (List Int)) (n:Nat):Bool:=(List.range n).all fun i=>eQ (r.getD i []) (fW m i)
theorem mR (m:List eK) (r:List (List Int)) (n:Nat):qH m r n=true↔∀ i,i<n→eQ (r.getD i []) (fW m i)=true:=by unfold qH;simp only[List.all_eq_true,List.mem_range]
def aAR (m:List eK) (redo:Bool):Nat:=if redo=true then 1 else m.length+1
def nF (m:List eK) (redo:Bool) (x:Int × List (List Int)):Bool:=decide (x.2.length=aAR m redo)&&qH m x.2 (aAR m redo)
theorem aIO (m:List eK) (redo:Bool) (x:Int × List (List Int)):nF m redo x=true↔x.2.length=aAR m redo∧∀ i,i<aAR m redo→eQ (x.2.getD i []) (fW m i)=true:=by unfold nF;rw[Bool.and_eq_true,decide_eq_true_eq,mR]
def gS (s:bC):Bool:=cQ s.2.2.1&&(decide (0≤s.1∧s.1≤(s.2.1.length:Int))&&(aM1 s.2.2.1 s.2.2.2.2.2.2.2.2.2.2.2.1&&(s.2.2.2.2.2.1.all (nF s.2.2.1 s.2.2.2.2.1) &&
 (jA s.2.2.2.2.2.2.2.1 (lH s.2.2.1)&&(jA s.2.2.2.2.2.2.2.2.2.2.1 (lH s.2.2.1)&&(jA s.2.2.2.2.2.2.2.2.1 (gY s.2.2.1)&&jA s.2.2.2.2.2.2.2.2.2.1 (gY s.2.2.1)))))))
theorem eJ (s:bC):gS s=true↔cQ s.2.2.1=true∧(0≤s.1∧s.1≤(s.2.1.length:Int))∧aM1 s.2.2.1 s.2.2.2.2.2.2.2.2.2.2.2.1=true∧s.2.2.2.2.2.1.all (nF s.2.2.1 s.2.2.2.2.1)=true ∧
 jA s.2.2.2.2.2.2.2.1 (lH s.2.2.1)=true∧jA s.2.2.2.2.2.2.2.2.2.2.1 (lH s.2.2.1)=true∧jA s.2.2.2.2.2.2.2.2.1 (gY s.2.2.1)=true∧jA s.2.2.2.2.2.2.2.2.2.1 (gY s.2.2.1)=true:=by
 unfold gS;simp only[Bool.and_eq_true,decide_eq_true_eq]
theorem aAM {v:List Int} {n:Int} (h:iK v=false):false=eQ v n:=by unfold eQ;rw[h];rfl
theorem bHG {v:List Int} {n:Int} (h:iK v=true):((v.length:Int)==n)=eQ v n:=by unfold eQ;rw[h,Bool.true_and];rfl
theorem aGN {s:bC} {k:Nat} (hk:k<s.2.2.2.2.2.1.length) (h:¬ nF s.2.2.1 s.2.2.2.2.1 (s.2.2.2.2.2.1.getD k (aX aD))=true):false=gS s:=by
 refine (Bool.eq_false_iff.2 fun hh=>?_).symm
 have h4:=((eJ s).1 hh).2.2.2.1
 rw[List.all_eq_true] at h4
 exact h (h4 _ (by rw[aZ hk];exact List.getElem_mem hk))
theorem aNN {s:bC} (h:∀ i,i<s.2.2.2.2.2.1.length→nF s.2.2.1 s.2.2.2.2.1 (s.2.2.2.2.2.1.getD i (aX aD))=true):s.2.2.2.2.2.1.all (nF s.2.2.1 s.2.2.2.2.1)=true:=by
 rw[List.all_eq_true]
 intro x hx
 obtain ⟨i,hi,rfl⟩:=List.getElem_of_mem hx
 have:=h i hi
 rwa [aZ hi] at this
theorem aGO {m:List eK} {redo:Bool} {x:eZ} {n:Nat} (hn:n=aAR m redo):nF m redo x=true↔x.2.length=n∧qH m x.2 n=true:=by
 unfold nF;rw[Bool.and_eq_true,decide_eq_true_eq,hn]
theorem aU4 {s:bC} (h1:cQ s.2.2.1=true) (h2:0≤s.1∧s.1≤(s.2.1.length:Int)) (h3:aM1 s.2.2.1 s.2.2.2.2.2.2.2.2.2.2.2.1=true) (h4:s.2.2.2.2.2.1.all (nF s.2.2.1 s.2.2.2.2.1)=true) :
  gS s=(jA s.2.2.2.2.2.2.2.1 (lH s.2.2.1)&&(jA s.2.2.2.2.2.2.2.2.2.2.1 (lH s.2.2.1)&&(jA s.2.2.2.2.2.2.2.2.1 (gY s.2.2.1)&&jA s.2.2.2.2.2.2.2.2.2.1 (gY s.2.2.1)))):=by
 unfold gS;rw[h1,h3,h4];simp[h2]
theorem nQ {s:bC} (h:cQ s.2.2.1=false∨s.1<0∨(s.2.1.length:Int)<s.1∨aM1 s.2.2.1 s.2.2.2.2.2.2.2.2.2.2.2.1=false∨jA s.2.2.2.2.2.2.2.1 (lH s.2.2.1)=false∨jA s.2.2.2.2.2.2.2.2.2.2.1 (lH s.2.2.1)=false∨jA s.2.2.2.2.2.2.2.2.1 (gY s.2.2.1)=false):false=gS s:=by
 refine (Bool.eq_false_iff.2 fun hh=>?_).symm
 obtain ⟨h1,h2,h3,h4,h5,h6,h7,h8⟩:=(eJ s).1 hh
 rcases h with h|h|h|h|h|h|h
 ·rw[h] at h1;cases h1
 ·omega
 ·omega
 ·rw[h] at h3;cases h3
 ·rw[h] at h5;cases h5
 ·rw[h] at h6;cases h6
 ·rw[h] at h7;cases h7
def cZ:Con:=⟨189,aB,.bool,[.val ⟨false,aB,[]⟩],[⟨false,.bool,[0]⟩],false,none,
 ((fun _=>True):(List Int)→Prop),
 ((fun x=>iK x):(List Int)→(Bool))⟩
def aGV:T :=
 .bMD (.bMG 3 tI) (.Z 0) <|
 .bMD (.cmp .geq .i64) (.bME tI tI (.Z 1) (.ci .i64 1)) <|
 .ite (.Z 2) (
  .bMD (.bMG 3 tI) (.Z 0) <|
  .bMD (.cmp .leq .i64) (.bME tI tI (.Z 3) (.ci .i64 6)) <|
  .ite (.Z 4) (
   .call 0 (.Z 0) <|
   .ret (.Z 5)) (
   .ret (.cb false))) (
  .ret (.cb false))
theorem bC5:bL Tryz.prog [iC] cZ false 3000 ⟨[],[]⟩ = .ok aGV:=by kernel_rfl
theorem bCT (x:List Int) (hx:okD aB x) (hp:(fun _=>True) x):aGV.wp [iC] [⟨aB,x⟩] [] (fun v=>v.as .bool=(fun x=>iK x) x):=by
 delta aGV iC;refine dD ?_;try with_reducible exact True.intro
 (repeat' first|intro _|(with_reducible apply And.intro))
 all_goals simp only[lU] at *
 all_goals first|(first|(refine (Bool.eq_false_iff.2 ?_).symm;rw[ne_eq,cP];intro hh;omega)|(refine (cP.2 ?_).symm;omega))|(rw[Bool.eq_iff_iff,cP];exact ⟨fun h=>⟨by omega,by omega,h⟩,fun h=>h.2.2⟩)
theorem oF:Con.Holds Tryz.prog cZ:=aR aW (aG aCY aS) bC5 bCT
def cA:Con:=⟨209,(.bMC aB tI),.bool,[.val ⟨false,aB,[]⟩,.val ⟨false,tI,[]⟩],[⟨false,.bool,[0]⟩],false,none,
 ((fun _=>True):(cD × Int)→Prop),
 ((fun x=>eQ x.1 x.2):(cD × Int)→(Bool))⟩
def aGB:T:=.call 0 (.p1 aB tI (.Z 0)) <|.ite (.Z 1) (
 .bMD (.bMG 3 tI) (.p1 aB tI (.Z 0)) <|
 .bMD (.cmp .eql .i64) (.bME tI tI (.Z 2) (aQ (.bMC aB tI) 1 (.Z 0))) <|
 .ret (.Z 3)) (
 .ret (.cb false))
theorem bBY:bL Tryz.prog [cZ] cA false 3000 ⟨[],[]⟩ = .ok aGB:=by kernel_rfl
theorem bD7 (x:cD × Int) (hx:okD (.bMC aB tI) x) (hp:(fun _=>True) x):aGB.wp [cZ] [⟨(.bMC aB tI),x⟩] [] (fun v=>v.as .bool=(fun x=>eQ x.1 x.2) x):=by
 delta aGB cZ;refine dD ?_
 exact ⟨fun h _=>bHG h,fun h=>aAM h⟩
theorem jI:Con.Holds Tryz.prog cA:=aR aW (aG oF aS) bBY bD7
def iY:Con:=⟨210,aE,tI,[.val ⟨true,aE,[]⟩],[⟨false,tI,[0]⟩],false,none,
 ((fun _=>True):(bM)→Prop),
 ((fun x=>lH x):(bM)→(Int))⟩
def aLR:T:=.call 0 (.Z 0) <|
 .bMD .not (.Z 1) <|
 .ite (.Z 2) (
  .ret (.ci .i64 0)) (
  .bMD (.bMH 146 bA) (.bME aE tI (.Z 0) (.ci .i64 0)) <|
  .ret (aJ bA 1 (.Z 3)))
theorem bEK:bL Tryz.prog [bQ] iY false 3000 ⟨[],[]⟩ = .ok aLR:=by kernel_rfl
theorem bF9 (x:bM) (hx:okD aE x) (hp:(fun _=>True) x):aLR.wp [bQ] [⟨aE,x⟩] [] (fun v=>v.as tI=(fun x=>lH x) x):=by
 delta aLR bQ;refine dD ?_
 refine ⟨fun h=>?_,fun h=>?_⟩
 all_goals simp only[lU] at h
 ·unfold lH;rw[h];rfl
 ·have:=(bY x).1 h
  refine ⟨by omega,fun _=>?_⟩
  unfold lH;rw[if_pos h];rfl
theorem aFD:Con.Holds Tryz.prog iY:=aR aW (aG gW aS) bEK bF9
def gF:Con:=⟨211,aE,tI,[.val ⟨true,aE,[]⟩],[⟨false,tI,[0]⟩],false,none,
 ((fun _=>True):(bM)→Prop),
 ((fun x=>gY x):(bM)→(Int))⟩
def aFY:T:=.call 0 (.Z 0) <|
 .bMD .not (.Z 1) <|
 .ite (.Z 2) (
  .ret (.ci .i64 0)) (
  .bMD (.bMG 146 bA) (.Z 0) <|
  .bMD (.ar .sub .i64) (.bME tI tI (.Z 3) (.ci .i64 1)) <|
  .bMD (.bMH 146 bA) (.bME aE tI (.Z 0) (.Z 4)) <|
  .ret (aJ bA 2 (.Z 5)))
theorem bCR:bL Tryz.prog [bQ] gF false 3000 ⟨[],[]⟩ = .ok aFY:=by kernel_rfl
theorem bDK (x:bM) (hx:okD aE x) (hp:(fun _=>True) x):aFY.wp [bQ] [⟨aE,x⟩] [] (fun v=>v.as tI=(fun x=>gY x) x):=by
 delta aFY bQ;refine dD ?_
 refine ⟨fun h=>?_,fun h=>?_⟩
 all_goals simp only[lU] at h
 ·unfold gY;rw[h];rfl
 ·have:=(bY x).1 h
  refine fun _=>⟨by omega,fun _=>⟨by omega,fun _=>?_⟩⟩
  unfold gY;rw[if_pos h,yF];rfl
theorem aBY:Con.Holds Tryz.prog gF:=aR aW (aG gW aS) bCR bDK
def qA:Con:=⟨265,(.bMC aB tI),.bool,[.val ⟨false,aB,[]⟩,.val ⟨false,tI,[]⟩],[⟨false,.bool,[0]⟩],false,none,
 ((fun _=>True):(cD × Int)→Prop),
 ((fun x=>jA x.1 x.2):(cD × Int)→(Bool))⟩
def aA9:T :=
 .bMD (.bMG 3 tI) (.p1 aB tI (.Z 0)) <|
 .bMD (.cmp .eql .i64) (.bME tI tI (.Z 1) (.ci .i64 0)) <|
 .ite (.Z 2) (
  .ret (.cb true)) (
  .call 0 (.Z 0) <|
  .ret (.Z 3))
theorem aSG:bL Tryz.prog [cA] qA false 3000 ⟨[],[]⟩ = .ok aA9:=by kernel_rfl
theorem aU9 (x:cD × Int) (hx:okD (.bMC aB tI) x) (hp:(fun _=>True) x):aA9.wp [cA] [⟨(.bMC aB tI),x⟩] [] (fun v=>v.as .bool=(fun x=>jA x.1 x.2) x):=by
 delta aA9 cA;refine dD ?_
 intro _
 refine eE ?_
 refine ⟨fun h=>?_,fun h=>?_⟩
 ·unfold jA;rw[decide_eq_true (by omega)];rfl
 ·unfold jA;rw[decide_eq_false (by omega)];rfl
theorem aTI:Con.Holds Tryz.prog qA:=aR aW (aG jI aS) aSG aU9
def pN:Con:=⟨259,(.bMC aB tI),.bool,[.val ⟨false,aB,[]⟩,.val ⟨false,tI,[]⟩],[⟨false,.bool,[0]⟩],false,none,
 ((fun _=>True):(cD × Int)→Prop),
 ((fun x=>jA x.1 x.2):(cD × Int)→(Bool))⟩
def aAQ:T :=
 .bMD (.bMG 3 tI) (.p1 aB tI (.Z 0)) <|
 .bMD (.cmp .eql .i64) (.bME tI tI (.Z 1) (.ci .i64 0)) <|
 .ite (.Z 2) (
  .ret (.cb true)) (
  .call 0 (.p1 aB tI (.Z 0)) <|
  .ite (.Z 3) (
   .bMD (.bMG 3 tI) (.p1 aB tI (.Z 0)) <|
   .bMD (.cmp .eql .i64) (.bME tI tI (.Z 4) (aQ (.bMC aB tI) 1 (.Z 0))) <|
   .ret (.Z 5)) (
   .ret (.cb false)))
theorem aUW:bL Tryz.prog [bI] pN false 3000 ⟨[],[]⟩ = .ok aAQ:=by kernel_rfl
theorem aRW (x:cD × Int) (hx:okD (.bMC aB tI) x) (hp:(fun _=>True) x):aAQ.wp [bI] [⟨(.bMC aB tI),x⟩] [] (fun v=>v.as .bool=(fun x=>jA x.1 x.2) x):=by
 delta aAQ bI;refine dD ?_
 intro _
 refine eE ?_
 refine ⟨fun h=>?_,fun h=>⟨fun h2 _=>?_,fun h2=>?_⟩⟩
 ·unfold jA;rw[decide_eq_true (by omega)];rfl
 ·unfold jA;rw[decide_eq_false (by omega),Bool.false_or];exact bHG h2
 ·unfold jA;rw[decide_eq_false (by omega),Bool.false_or];exact aAM h2
theorem aVH:Con.Holds Tryz.prog pN:=aR aW (aG fD aS) aUW aRW
def lF:Con:=⟨246,(.bMC aE (.bMC aH tI)),.bool,[.val ⟨false,aE,[]⟩,.val ⟨false,aH,[]⟩,.val ⟨false,tI,[]⟩],[⟨false,.bool,[0]⟩],false,none,
 ((fun x=>cQ x.1=true∧x.2.2≤(x.2.1.length:Int)):(bM × (cV × Int))→Prop),
 ((fun x=>qH x.1 x.2.1 x.2.2.toNat):(bM × (cV × Int))→(Bool))⟩
def aEJ:T:=.loop tI (.ci .i64 0) <|
 .bMD (.cmp .lss .i64) (.bME tI tI (.Z 1) (aQ (.bMC aE (.bMC aH tI)) 2 (.Z 0))) <|
 .ite (.Z 2) (
  .bMD (.bMG 146 bA) (.p1 aE (.bMC aH tI) (.Z 0)) <|
  .bMD (.ar .sub .i64) (.bME tI tI (.Z 3) (.ci .i64 1)) <|
  .bMD (.bMH 146 bA) (.bME aE tI (.p1 aE (.bMC aH tI) (.Z 0)) (.Z 4)) <|
  .bMD (.bMG 146 bA) (.p1 aE (.bMC aH tI) (.Z 0)) <|
  .bMD (.cmp .lss .i64) (.bME tI tI (.Z 1) (.Z 6)) <|
  .ite (.Z 7) (
   .bMD (.bMH 146 bA) (.bME aE tI (.p1 aE (.bMC aH tI) (.Z 0)) (.Z 1)) <|
   .bMD (.bMH 156 aB) (.bME aH tI (aJ (.bMC aE (.bMC aH tI)) 1 (.Z 0)) (.Z 1)) <|
   .call 0 (.bME aB tI (.Z 9) (aJ bA 1 (.Z 8))) <|
   .bMD .not (.Z 10) <|
   .ite (.Z 11) (
    .ret (.cb false)) (
    .bMD (.ar .add .i64) (.bME tI tI (.Z 1) (.ci .i64 1)) <|
    .bMF 0 (.Z 12))) (
   .bMD (.bMH 156 aB) (.bME aH tI (aJ (.bMC aE (.bMC aH tI)) 1 (.Z 0)) (.Z 1)) <|
   .call 0 (.bME aB tI (.Z 8) (aJ bA 2 (.Z 5))) <|
   .bMD .not (.Z 9) <|
   .ite (.Z 10) (
    .ret (.cb false)) (
    .bMD (.ar .add .i64) (.bME tI tI (.Z 1) (.ci .i64 1)) <|
    .bMF 0 (.Z 11)))) (
  .ret (.cb true))
theorem aWK:bL Tryz.prog [cA] lF false 3000 ⟨[(2993,1001,[.tm 7 0])],[]⟩ = .ok aEJ:=by kernel_rfl
theorem aVW (x:bM × (cV × Int)) (hx:okD (.bMC aE (.bMC aH tI)) x) (hp:(fun x=>cQ x.1=true∧x.2.2≤(x.2.1.length:Int)) x):aEJ.wp [cA] [⟨(.bMC aE (.bMC aH tI)),x⟩] [] (fun v=>v.as .bool=(fun x=>qH x.1 x.2.1 x.2.2.toNat) x):=by
 obtain ⟨m,r,n⟩:=x
 obtain ⟨hm,hn⟩:cQ m=true∧n≤(r.length:Int):=hp
 have hr:r.length≤9223372036854775807:=hx.2.1.1
 have hm1:=(bY m).1 hm
 delta aEJ cA;refine dD ?_
 refine ⟨fun s=>∃ k:Nat,k≤n.toNat∧s=(k:Int)∧∀ i,i<k→eQ (r.getD i []) (fW m i)=true,fun s=>n.toNat - (s:Int).toNat,⟨0,by omega,rfl,by omega⟩,fun s _ hI=>?_⟩
 obtain ⟨k,hk,rfl,ha⟩:=hI
 refine eE ?_
 have bad:k<n.toNat→∀ z:Int,z=fW m k→eQ (r.getD k []) z=false→false=qH m r n.toNat:=fun h z hz hv=>by
  refine (Bool.eq_false_iff.2 fun hh=>?_).symm
  have:=(mR _ _ _).1 hh k h
  rw[← hz,hv] at this;cases this
 have good:∀ z:Int,z=fW m k→eQ (r.getD k []) z=true→∀ i,i<k+1→eQ (r.getD i []) (fW m i)=true:=fun z hz hv i hi=>by
  rcases Nat.lt_or_eq_of_le (Nat.le_of_lt_succ hi) with h|rfl
  ·exact ha i h
  ·rw[← hz];exact hv
 constructor
 ·intro hlt
  have e1:(m.getD (m.length - 1) (aX bA)).2.2.1=(m.getD (m.length - 1) zOp).2.2.1:=rfl
  have e2:(m.getD k (aX bA)).2.1=(m.getD k zOp).2.1:=rfl
  have z1:k<m.length→(m.getD k zOp).2.1=fW m k:=fun h=>by unfold fW;rw[if_pos h]
  have z2:¬ k<m.length→(m.getD (m.length - 1) zOp).2.2.1=fW m k:=fun h=>by unfold fW;rw[if_neg h]
  (repeat' first|intro _|(with_reducible apply And.intro))
  all_goals first|omega|(exact bad (by omega) _ (z1 (by omega)) (by assumption))|(exact bad (by omega) _ (z2 (by omega)) (by assumption))|(exact ⟨k+1,by omega,rfl,good _ (z1 (by omega)) (by assumption)⟩)|(exact ⟨k+1,by omega,rfl,good _ (z2 (by omega)) (by assumption)⟩)
 ·intro hge
  exact ((mR _ _ _).2 fun i hi=>ha i (by omega)).symm
theorem aJV:Con.Holds Tryz.prog lF:=aR aW (aG jI aS) aWK aVW
def dW:Con:=⟨191,aA,.bool,[.val ⟨true,aA,[]⟩],[⟨false,.bool,[0]⟩],false,none,
 ((fun _=>True):(bC)→Prop),
 ((fun x=>gS x):(bC)→(Bool))⟩
def aBG:T:=.call 0 (.Z 0) <|.call 1 (.Z 1) <|
 .bMD .not (.Z 2) <|
 .ite (.Z 3) (
  .ret (.cb false)) (
  .bMD (.cmp .lss .i64) (.bME tI tI (.p1 tI cY (.Z 0)) (.ci .i64 0)) <|
  .ite (.Z 4) (
   .ret (.cb false)) (
   .bMD (.bMG 194 aO) (aJ aA 1 (.Z 0)) <|
   .bMD (.cmp .gtr .i64) (.bME tI tI (.p1 tI cY (.Z 0)) (.Z 5)) <|
   .ite (.Z 6) (
    .ret (.cb false)) (
    .call 2 (.bME aE aH (.Z 1) (aJ aA 11 (.Z 0))) <|
    .bMD .not (.Z 7) <|
    .ite (.Z 8) (
     .ret (.cb false)) (
     .bMD (.bMG 146 bA) (aJ aA 2 (.Z 0)) <|
     .bMD (.ar .add .i64) (.bME tI tI (.Z 9) (.ci .i64 1)) <|
     .ite (aJ aA 4 (.Z 0)) (
      .bMD (.bMG 206 aD) (aJ aA 5 (.Z 0)) <|
      .loop tI (.ci .i64 0) <|
       .bMD (.cmp .lss .i64) (.bME tI tI (.Z 12) (.Z 11)) <|
       .ite (.Z 13) (
        .bMD (.bMH 206 aD) (.bME (.slice 206 aD) tI (aJ aA 5 (.Z 0)) (.Z 12)) <|
        .bMD (.bMG 156 aB) (aQ aD 1 (.Z 14)) <|
        .bMD (.cmp .neq .i64) (.bME tI tI (.Z 15) (.ci .i64 1)) <|
        .ite (.Z 16) (
         .ret (.cb false)) (
         .call 3 (bE (.bMC aE (.bMC aH tI)) [(aJ aA 2 (.Z 0)),(aQ aD 1 (.Z 14)),(.ci .i64 1)]) <|
         .bMD .not (.Z 17) <|
         .ite (.Z 18) (
          .ret (.cb false)) (
          .bMD (.ar .add .i64) (.bME tI tI (.Z 12) (.ci .i64 1)) <|
          .bMF 0 (.Z 19)))) (
        .call 4 (.Z 1) <|
        .call 5 (.Z 1) <|
        .call 6 (.bME aB tI (aJ aA 7 (.Z 0)) (.Z 14)) <|
        .ite (.Z 16) (
         .call 6 (.bME aB tI (aJ aA 10 (.Z 0)) (.Z 14)) <|
         .ite (.Z 17) (
          .call 6 (.bME aB tI (aJ aA 8 (.Z 0)) (.Z 15)) <|
          .ite (.Z 18) (
           .call 6 (.bME aB tI (aJ aA 9 (.Z 0)) (.Z 15)) <|
           .ret (.Z 19)) (
           .ret (.cb false))) (
          .ret (.cb false))) (
         .ret (.cb false)))) (
      .bMD (.bMG 206 aD) (aJ aA 5 (.Z 0)) <|
      .loop tI (.ci .i64 0) <|
       .bMD (.cmp .lss .i64) (.bME tI tI (.Z 12) (.Z 11)) <|
       .ite (.Z 13) (
        .bMD (.bMH 206 aD) (.bME (.slice 206 aD) tI (aJ aA 5 (.Z 0)) (.Z 12)) <|
        .bMD (.bMG 156 aB) (aQ aD 1 (.Z 14)) <|
        .bMD (.cmp .neq .i64) (.bME tI tI (.Z 15) (.Z 10)) <|
        .ite (.Z 16) (
         .ret (.cb false)) (
         .call 3 (bE (.bMC aE (.bMC aH tI)) [(aJ aA 2 (.Z 0)),(aQ aD 1 (.Z 14)),(.Z 10)]) <|
         .bMD .not (.Z 17) <|
         .ite (.Z 18) (
          .ret (.cb false)) (
          .bMD (.ar .add .i64) (.bME tI tI (.Z 12) (.ci .i64 1)) <|
          .bMF 0 (.Z 19)))) (
        .call 4 (.Z 1) <|
        .call 5 (.Z 1) <|
        .call 6 (.bME aB tI (aJ aA 7 (.Z 0)) (.Z 14)) <|
        .ite (.Z 16) (
         .call 6 (.bME aB tI (aJ aA 10 (.Z 0)) (.Z 14)) <|
         .ite (.Z 17) (
          .call 6 (.bME aB tI (aJ aA 8 (.Z 0)) (.Z 15)) <|
          .ite (.Z 18) (
           .call 6 (.bME aB tI (aJ aA 9 (.Z 0)) (.Z 15)) <|
           .ret (.Z 19)) (
           .ret (.cb false))) (
          .ret (.cb false))) (
         .ret (.cb false))))))))
theorem aTH:bL Tryz.prog [dV,bQ,nW,lF,iY,gF,qA] dW false 3000 ⟨[(2979,48012,iQ 41 9++[.dr 0,.tm 44 0]),(2979,32012,iQ 41 9++[.dr 0,.tm 44 0])],[]⟩ = .ok aBG:=by kernel_rfl
theorem aVJ (x:bC) (hx:okD aA x) (hp:(fun _=>True) x):aBG.wp [dV,bQ,nW,lF,iY,gF,qA] [⟨aA,x⟩] [] (fun v=>v.as .bool=(fun x=>gS x) x):=by
  have hst:x.2.2.2.2.2.1.length≤9223372036854775807:=hx.2.2.2.2.2.1.1
  delta aBG dV bQ nW lF iY gF qA;refine dD ?_
  refine eE ?_
  intro _
  refine ⟨fun h=>nQ (.inl h),fun h1=>⟨fun h=>nQ (.inr (.inl h)),fun h2 _=>⟨fun h=>nQ (.inr (.inr (.inl h))),fun h3=>⟨fun h=>nQ (.inr (.inr (.inr (.inl h)))),fun h4 _=>?_⟩⟩⟩⟩
  have hm:=(bY _).1 h1
  refine ⟨by omega,fun _=>⟨fun hr _=>?_,fun hr _=>?_⟩⟩
  all_goals
    refine ⟨fun s=>∃ k:Nat,k≤x.2.2.2.2.2.1.length∧s=(k:Int)∧∀ i,i<k→nF x.2.2.1 x.2.2.2.2.1 (x.2.2.2.2.2.1.getD i (aX aD))=true,fun s=>x.2.2.2.2.2.1.length - (s:Int).toNat,⟨0,by omega,rfl,by omega⟩,fun s _ hI=>?_⟩
    obtain ⟨k,hk,rfl,ha⟩:=hI
    refine eE ?_
    obtain ⟨n,hn⟩:∃ n,n=aAR x.2.2.1 x.2.2.2.2.1:=⟨_,rfl⟩
    have hn1:=hn
    unfold aAR at hn1
    rw[hr] at hn1
    simp only[if_true,Bool.false_eq_true,if_false] at hn1
    have hkn:=(hn1.symm.trans hn).symm
    clear hn hn1
    constructor
  rotate_left 1
  rotate_left 2
  all_goals first
    | (intro hge
       have hst:=aNN (s:=x) (fun i hi=>ha i (by omega))
       rw[aU4 h1 ⟨by omega,by omega⟩ h4 hst]
       (repeat' first|intro _|(with_reducible apply And.intro))
       all_goals simp_all
       done)
    | skip
  all_goals
    intro hlt
    have hk':k<x.2.2.2.2.2.1.length:=by omega
    (repeat' first|intro _|(with_reducible apply And.intro))
    all_goals first|omega|exact h1|(exact aGN hk' fun hh=>by have:=((aGO hkn.symm).1 hh).1;omega)|skip
    all_goals first|(refine aGN hk' fun hh=>?_;have h5:=((aGO hkn.symm).1 hh).2;exact Bool.noConfusion (h5.symm.trans (by assumption:_=false)))|(refine ⟨k+1,by omega,rfl,fun i hi=>?_⟩;rcases Nat.lt_or_eq_of_le (Nat.le_of_lt_succ hi) with h|rfl;exact ha i h;exact (aGO hkn.symm).2 ⟨by omega,by assumption⟩)
theorem uF:Con.Holds Tryz.prog dW:=aR aW (aG uE (aG gW (aG aQL (aG aJV (aG aFD (aG aBY (aG aTI aS))))))) aTH aVJ
def dX:Con:=⟨184,aA,.bool,[.val ⟨true,aA,[]⟩],[⟨false,.bool,[0]⟩],false,none,
 ((fun _=>True):(bC)→Prop),
 ((fun x=>gS x):(bC)→(Bool))⟩
def aAV:T:=.call 0 (aJ aA 2 (.Z 0)) <|
 .bMD .not (.Z 1) <|
 .ite (.Z 2) (
  .ret (.cb false)) (
  .bMD (.bMG 194 aO) (aJ aA 1 (.Z 0)) <|
  .call 1 (bE (.bMC tI aO) [(.p1 tI cY (.Z 0)),(.ci .i64 0),(.Z 3)]) <|
  .bMD .not (.Z 4) <|
  .ite (.Z 5) (
   .ret (.cb false)) (
   .bMD (.bMG 156 aB) (aJ aA 11 (.Z 0)) <|
   .bMD (.bMG 146 bA) (aJ aA 2 (.Z 0)) <|
   .bMD (.cmp .neq .i64) (.bME tI tI (.Z 6) (.Z 7)) <|
   .ite (.Z 8) (
    .ret (.cb false)) (
    .bMD (.bMH 146 bA) (.bME aE tI (aJ aA 2 (.Z 0)) (.ci .i64 0)) <|
    .bMD (.bMG 146 bA) (aJ aA 2 (.Z 0)) <|
    .bMD (.ar .sub .i64) (.bME tI tI (.Z 10) (.ci .i64 1)) <|
    .bMD (.bMH 146 bA) (.bME aE tI (aJ aA 2 (.Z 0)) (.Z 11)) <|
    .loop tI (.ci .i64 0) <|
     .bMD (.bMG 146 bA) (aJ aA 2 (.Z 0)) <|
     .bMD (.cmp .lss .i64) (.bME tI tI (.Z 13) (.Z 14)) <|
     .ite (.Z 15) (
      .bMD (.bMH 156 aB) (.bME aH tI (aJ aA 11 (.Z 0)) (.Z 13)) <|
      .bMD (.bMG 3 tI) (.Z 16) <|
      .bMD (.bMH 146 bA) (.bME aE tI (aJ aA 2 (.Z 0)) (.Z 13)) <|
      .bMD (.bMG 3 tI) (aQ bA 3 (.Z 18)) <|
      .bMD (.cmp .neq .i64) (.bME tI tI (.Z 17) (.Z 19)) <|
      .ite (.Z 20) (
       .ret (.cb false)) (
       .bMD (.ar .add .i64) (.bME tI tI (.Z 13) (.ci .i64 1)) <|
       .bMF 0 (.Z 21))) (
      .loop tI (.ci .i64 0) <|
       .bMD (.bMG 206 aD) (aJ aA 5 (.Z 0)) <|
       .bMD (.cmp .lss .i64) (.bME tI tI (.Z 16) (.Z 17)) <|
       .ite (.Z 18) (
        .bMD (.bMH 206 aD) (.bME (.slice 206 aD) tI (aJ aA 5 (.Z 0)) (.Z 16)) <|
        .bMD (.bMG 156 aB) (aQ aD 1 (.Z 19)) <|
        .bMD (.cmp .eql .i64) (.bME tI tI (.Z 20) (.ci .i64 0)) <|
        .ite (.Z 21) (
         .ret (.cb false)) (
         .bMD (.bMH 156 aB) (.bME aH tI (aQ aD 1 (.Z 19)) (.ci .i64 0)) <|
         .call 2 (.Z 22) <|
         .bMD .not (.Z 23) <|
         .ite (.Z 24) (
          .ret (.cb false)) (
          .bMD (.bMH 156 aB) (.bME aH tI (aQ aD 1 (.Z 19)) (.ci .i64 0)) <|
          .bMD (.bMG 3 tI) (.Z 25) <|
          .bMD (.cmp .neq .i64) (.bME tI tI (.Z 26) (aJ bA 1 (.Z 9))) <|
          .ite (.Z 27) (
           .ret (.cb false)) (
           .bMD .not (aJ aA 4 (.Z 0)) <|
           .ite (.Z 28) (
            .bMD (.bMG 156 aB) (aQ aD 1 (.Z 19)) <|
            .bMD (.bMG 146 bA) (aJ aA 2 (.Z 0)) <|
            .bMD (.ar .add .i64) (.bME tI tI (.Z 30) (.ci .i64 1)) <|
            .bMD (.cmp .neq .i64) (.bME tI tI (.Z 29) (.Z 31)) <|
            .ite (.Z 32) (
             .ret (.cb false)) (
             .ite (aJ aA 4 (.Z 0)) (
              .bMD (.bMG 156 aB) (aQ aD 1 (.Z 19)) <|
              .bMD (.cmp .neq .i64) (.bME tI tI (.Z 33) (.ci .i64 1)) <|
              .ite (.Z 34) (
               .ret (.cb false)) (
               .loop tI (.ci .i64 1) <|
                .bMD (.bMG 156 aB) (aQ aD 1 (.Z 19)) <|
                .bMD (.cmp .lss .i64) (.bME tI tI (.Z 35) (.Z 36)) <|
                .ite (.Z 37) (
                 .bMD (.bMH 156 aB) (.bME aH tI (aQ aD 1 (.Z 19)) (.Z 35)) <|
                 .call 2 (.Z 38) <|
                 .bMD .not (.Z 39) <|
                 .ite (.Z 40) (
                  .ret (.cb false)) (
                  .bMD (.ar .sub .i64) (.bME tI tI (.Z 35) (.ci .i64 1)) <|
                  .bMD (.bMH 156 aB) (.bME aH tI (aQ aD 1 (.Z 19)) (.Z 35)) <|
                  .bMD (.bMG 3 tI) (.Z 42) <|
                  .bMD (.bMH 146 bA) (.bME aE tI (aJ aA 2 (.Z 0)) (.Z 41)) <|
                  .bMD (.cmp .neq .i64) (.bME tI tI (.Z 43) (aJ bA 2 (.Z 44))) <|
                  .ite (.Z 45) (
                   .ret (.cb false)) (
                   .bMD (.ar .add .i64) (.bME tI tI (.Z 35) (.ci .i64 1)) <|
                   .bMF 0 (.Z 46)))) (
                 .bMD (.ar .add .i64) (.bME tI tI (.Z 16) (.ci .i64 1)) <|
                 .bMF 1 (.Z 38)))) (
              .loop tI (.ci .i64 1) <|
               .bMD (.bMG 156 aB) (aQ aD 1 (.Z 19)) <|
               .bMD (.cmp .lss .i64) (.bME tI tI (.Z 33) (.Z 34)) <|
               .ite (.Z 35) (
                .bMD (.bMH 156 aB) (.bME aH tI (aQ aD 1 (.Z 19)) (.Z 33)) <|
                .call 2 (.Z 36) <|
                .bMD .not (.Z 37) <|
                .ite (.Z 38) (
                 .ret (.cb false)) (
                 .bMD (.ar .sub .i64) (.bME tI tI (.Z 33) (.ci .i64 1)) <|
                 .bMD (.bMH 156 aB) (.bME aH tI (aQ aD 1 (.Z 19)) (.Z 33)) <|
                 .bMD (.bMG 3 tI) (.Z 40) <|
                 .bMD (.bMH 146 bA) (.bME aE tI (aJ aA 2 (.Z 0)) (.Z 39)) <|
                 .bMD (.cmp .neq .i64) (.bME tI tI (.Z 41) (aJ bA 2 (.Z 42))) <|
                 .ite (.Z 43) (
                  .ret (.cb false)) (
                  .bMD (.ar .add .i64) (.bME tI tI (.Z 33) (.ci .i64 1)) <|
                  .bMF 0 (.Z 44)))) (
                .bMD (.ar .add .i64) (.bME tI tI (.Z 16) (.ci .i64 1)) <|
                .bMF 1 (.Z 36))))) (
            .ite (aJ aA 4 (.Z 0)) (
             .bMD (.bMG 156 aB) (aQ aD 1 (.Z 19)) <|
             .bMD (.cmp .neq .i64) (.bME tI tI (.Z 29) (.ci .i64 1)) <|
             .ite (.Z 30) (
              .ret (.cb false)) (
              .loop tI (.ci .i64 1) <|
               .bMD (.bMG 156 aB) (aQ aD 1 (.Z 19)) <|
               .bMD (.cmp .lss .i64) (.bME tI tI (.Z 31) (.Z 32)) <|
               .ite (.Z 33) (
                .bMD (.bMH 156 aB) (.bME aH tI (aQ aD 1 (.Z 19)) (.Z 31)) <|
                .call 2 (.Z 34) <|
                .bMD .not (.Z 35) <|
                .ite (.Z 36) (
                 .ret (.cb false)) (
                 .bMD (.ar .sub .i64) (.bME tI tI (.Z 31) (.ci .i64 1)) <|
                 .bMD (.bMH 156 aB) (.bME aH tI (aQ aD 1 (.Z 19)) (.Z 31)) <|
                 .bMD (.bMG 3 tI) (.Z 38) <|
                 .bMD (.bMH 146 bA) (.bME aE tI (aJ aA 2 (.Z 0)) (.Z 37)) <|
                 .bMD (.cmp .neq .i64) (.bME tI tI (.Z 39) (aJ bA 2 (.Z 40))) <|
                 .ite (.Z 41) (
                  .ret (.cb false)) (
                  .bMD (.ar .add .i64) (.bME tI tI (.Z 31) (.ci .i64 1)) <|
                  .bMF 0 (.Z 42)))) (
                .bMD (.ar .add .i64) (.bME tI tI (.Z 16) (.ci .i64 1)) <|
                .bMF 1 (.Z 34)))) (
             .loop tI (.ci .i64 1) <|
              .bMD (.bMG 156 aB) (aQ aD 1 (.Z 19)) <|
              .bMD (.cmp .lss .i64) (.bME tI tI (.Z 29) (.Z 30)) <|
              .ite (.Z 31) (
               .bMD (.bMH 156 aB) (.bME aH tI (aQ aD 1 (.Z 19)) (.Z 29)) <|
               .call 2 (.Z 32) <|
               .bMD .not (.Z 33) <|
               .ite (.Z 34) (
                .ret (.cb false)) (
                .bMD (.ar .sub .i64) (.bME tI tI (.Z 29) (.ci .i64 1)) <|
                .bMD (.bMH 156 aB) (.bME aH tI (aQ aD 1 (.Z 19)) (.Z 29)) <|
                .bMD (.bMG 3 tI) (.Z 36) <|
                .bMD (.bMH 146 bA) (.bME aE tI (aJ aA 2 (.Z 0)) (.Z 35)) <|
                .bMD (.cmp .neq .i64) (.bME tI tI (.Z 37) (aJ bA 2 (.Z 38))) <|
                .ite (.Z 39) (
                 .ret (.cb false)) (
                 .bMD (.ar .add .i64) (.bME tI tI (.Z 29) (.ci .i64 1)) <|
                 .bMF 0 (.Z 40)))) (
               .bMD (.ar .add .i64) (.bME tI tI (.Z 16) (.ci .i64 1)) <|
               .bMF 1 (.Z 32)))))))) (
        .call 3 (.bME aB tI (aJ aA 7 (.Z 0)) (aJ bA 1 (.Z 9))) <|
        .ite (.Z 19) (
         .call 3 (.bME aB tI (aJ aA 8 (.Z 0)) (aJ bA 2 (.Z 12))) <|
         .ite (.Z 20) (
          .call 3 (.bME aB tI (aJ aA 9 (.Z 0)) (aJ bA 2 (.Z 12))) <|
          .ite (.Z 21) (
           .call 3 (.bME aB tI (aJ aA 10 (.Z 0)) (aJ bA 1 (.Z 9))) <|
           .ret (.Z 22)) (
           .ret (.cb false))) (
          .ret (.cb false))) (
         .ret (.cb false)))))))
theorem aSW:bL Tryz.prog [cB,bH,bI,pN] dX false 3000 ⟨[(2984,8013,iQ 46 9++[.dr 0,.tm 5 0]),(2974,16016,iQ 51 47++[.dr 5,.tm 6 0]),(2956,5392035,[.tm 8 0]),(2956,2320033,[.tm 8 0]),(2956,2576031,[.tm 8 0]),(2956,1040029,[.tm 8 0])],[]⟩ = .ok aAV:=by kernel_rfl
theorem aSP (x:bC) (hx:okD aA x) (hp:(fun _=>True) x):aAV.wp [cB,bH,bI,pN] [⟨aA,x⟩] [] (fun v=>v.as .bool=(fun x=>gS x) x):=by
  obtain ⟨pc,plan,ops,last,redo,stash,full,X,Y,G,D,sum⟩:=x
  have hst:stash.length≤9223372036854775807:=hx.2.2.2.2.2.1.1
  have hsr:∀ k,k<stash.length→(stash.getD k (aX aD)).2.length≤9223372036854775807:=fun k hk=>by rw[aZ hk];exact (hx.2.2.2.2.2.1.2 _ (List.getElem_mem hk)).2.1
  have hol:ops.length≤9223372036854775807:=hx.2.2.1.1
  delta aAV cB bH bI pN;refine dD ?_
  refine eE ?_
  refine ⟨fun h=>nQ (.inl h),fun h1 _=>⟨fun h=>?_,fun h2 _ _=>⟨fun h=>?_,fun h3=>?_⟩⟩⟩
  · rcases h with h|h
    · exact nQ (.inr (.inl (by omega)))
    · exact nQ (.inr (.inr (.inl (by omega))))
  · exact nQ (.inr (.inr (.inr (.inl (Bool.eq_false_iff.2 fun hh=>by rw[aBA] at hh;dsimp only at hh;omega)))))
  have hm:=(bY _).1 h1
  refine ⟨by omega,fun _ _=>⟨by omega,fun _=>⟨by omega,fun _=>?_⟩⟩⟩
  have ein:(ops.getD 0 (aX bA)).2.1=lH ops:=by unfold lH;rw[if_pos h1];rfl
  have eout:(ops.getD (ops.length - 1) (aX bA)).2.2.1=gY ops:=by unfold gY;rw[if_pos h1];rfl
  simp only[ein,eout]
  refine ⟨fun s=>∃ k:Nat,k≤ops.length∧s=(k:Int)∧∀ i,i<k→aKM ops sum.1 i=true,fun s=>ops.length - (s:Int).toNat,⟨0,by omega,rfl,by omega⟩,fun s _ hI=>?_⟩
  obtain ⟨k,hk,rfl,hf⟩:=hI
  refine eE ?_
  intro _
  constructor
  · intro hlt
    have hk':k<ops.length:=by omega
    have hk2:k<sum.1.length:=by omega
    have e:=aN8 ops sum.1 hk' hk2
    rw[← aZ hk' (d:=aX bA),← aZ hk2 (d:=aX aB)] at e
    (repeat' first|intro _|(with_reducible apply And.intro))
    all_goals first|omega|(exact nQ (.inr (.inr (.inr (.inl (aUU hk' fun h2=>by have:=e.1 h2;omega))))))|(refine ⟨k+1,by omega,rfl,fun i hi=>?_⟩;rcases Nat.lt_or_eq_of_le (Nat.le_of_lt_succ hi) with h|rfl;exact hf i h;exact e.2 (by omega))
  intro hge
  have hfit:aM1 ops sum.1=true:=(aBA _ _).2 ⟨by omega,fun i hi=>hf i (by omega)⟩
  obtain ⟨F,hF⟩:∃ F:eZ→Bool,F=nF ops redo:=⟨_,rfl⟩
  obtain ⟨n,hn⟩:∃ n,n=aAR ops redo:=⟨_,rfl⟩
  have hz0:fW ops 0=lH ops:=by unfold fW lH;rw[if_pos (by omega),if_pos h1]
  have sb:∀ S:eZ,F S=true↔S.2.length=n∧∀ i,i<n→eQ (S.2.getD i (aX aB)) (fW ops i)=true:=fun S=>by rw[hF,hn];exact aIO _ _ _
  have bad:∀ j,j<stash.length→¬ F (stash.getD j (aX aD))=true→false=gS (pc,plan,ops,last,redo,stash,full,X,Y,G,D,sum):=fun j hj h=>aGN hj (by show ¬ nF ops redo _=true;rw[← hF];exact h)
  have fin:(∀ i,i<stash.length→F (stash.getD i (aX aD))=true)→gS (pc,plan,ops,last,redo,stash,full,X,Y,G,D,sum)=(jA X (lH ops)&&(jA D (lH ops)&&(jA Y (gY ops)&&jA G (gY ops)))) :=
    fun h=>aU4 h1 ⟨by dsimp only;omega,by dsimp only;omega⟩ hfit (aNN fun i hi=>by show nF ops redo _=true;rw[← hF];exact h i hi)
  have hn1:(redo=true→n=1)∧(redo=false→n=ops.length+1):=by rw[hn];unfold aAR;exact ⟨fun h=>by rw[h];rfl,fun h=>by rw[h];rfl⟩
  clear hF hn
  cases redo
  all_goals
    simp only[Bool.not_true,Bool.not_false,reduceCtorEq,true_implies,false_implies,and_true,true_and,forall_const] at hn1 ⊢
    refine ⟨fun s=>∃ k:Nat,k≤stash.length∧s=(k:Int)∧∀ i,i<k→F (stash.getD i (aX aD))=true,fun s=>stash.length - (s:Int).toNat,⟨0,by omega,rfl,by omega⟩,fun s _ hI=>?_⟩
    obtain ⟨j,hj,rfl,ha⟩:=hI
    refine eE ?_
    intro _
    constructor
    rotate_left
    · intro hge
      rw[fin fun i hi=>ha i (by omega)]
      (repeat' first|intro _|(with_reducible apply And.intro))
      all_goals simp_all
    intro hlt
    have hj':j<stash.length:=by omega
    have hrl:=hsr j hj'
    have bj:=bad j hj'
    have sj:=sb (stash.getD j (aX aD))
    have nx:F (stash.getD j (aX aD))=true→∀ i,i<j+1→F (stash.getD i (aX aD))=true:=fun h i hi=>by
      rcases Nat.lt_or_eq_of_le (Nat.le_of_lt_succ hi) with h'|rfl
      · exact ha i h'
      · exact h
    clear ha fin bad sb hsr
    generalize stash.getD j (aX aD)=S at *
    (repeat' first|intro _|(with_reducible apply And.intro))
    all_goals first|omega|(refine bj fun hh=>?_;have:=(sj.1 hh).1;omega)|(refine bj fun hh=>?_;have h5:=(sj.1 hh).2 0 (by omega);rw[cF] at h5;first|omega|(simp_all;done))|skip
    refine ⟨fun s=>∃ k:Nat,1≤k∧k≤S.2.length∧s=(k:Int)∧∀ i,1≤i→i<k→eQ (S.2.getD i (aX aB)) (fW ops i)=true,fun s=>S.2.length - (s:Int).toNat,⟨1,by omega,by omega,rfl,by omega⟩,fun s _ hI=>?_⟩
    obtain ⟨k,hk1,hk,rfl,ha⟩:=hI
    refine eE ?_
    have hsz:k≤ops.length→fW ops k=(ops.getD (k - 1) (aX bA)).2.2.1:=fun h=>by
      have:=aSL h1 (k:=k - 1) (by omega)
      rwa [Nat.sub_add_cancel hk1] at this
    (repeat' first|intro _|(with_reducible apply And.intro))
    all_goals first|omega|skip
    all_goals first
      | (refine bj fun hh=>?_;have h5:=(sj.1 hh).2 k (by omega);rw[cF,hsz (by omega)] at h5;first|omega|(simp_all;done))
      | (refine ⟨k+1,by omega,by omega,rfl,fun i hi1 hi=>?_⟩
         rcases Nat.lt_or_eq_of_le (Nat.le_of_lt_succ hi) with h'|rfl
         · exact ha i hi1 h'
         · rw[cF,hsz (by omega)];exact ⟨by assumption,by omega⟩)
      | (refine ⟨j+1,by omega,rfl,nx (sj.2 ⟨by omega,fun i hi=>?_⟩)⟩
         by_cases hi1:1≤i
         · exact ha i hi1 (by omega)
         · obtain rfl:i=0:=by omega
           rw[cF,hz0];exact ⟨by assumption,by omega⟩)
theorem uD:Con.Holds Tryz.prog dX:=aR aW (aG jV (aG eS (aG fD (aG aVH aS)))) aSW aSP
end
end Go.Proofs.YtiihghfoeinbbaaGreat
