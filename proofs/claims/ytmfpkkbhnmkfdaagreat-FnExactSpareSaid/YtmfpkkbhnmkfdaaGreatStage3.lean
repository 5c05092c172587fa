/- Stage3: lemmas. No conditions. -/
import Derived.Test.YtmfpkkbhnmkfdaaGreatZero2
import Derived.Test.YtmfpkkbhnmkfdaaGreatSame3
namespace Go.Proofs.YtmfpkkbhnmkfdaaGreat
noncomputable section
set_option maxRecDepth 100000
open Go.ChangeShapes Go.WideShapes Go.ChangeAt Go.RowKit Go.Deep
set_option linter.unusedVariables false
set_option linter.unusedSimpArgs false
def lW (m:List eV):Int:=if cS m=true then (m.getD 0 zOp).2.1 else 0
def iE (m:List eV):Int:=if cS m=true then (m.getD (m.length - 1) zOp).2.2.1 else 0
def fB (v:List Int) (n:Int):Bool:=iZ v&&decide ((v.length:Int)=n)
theorem cI (v:List Int) (n:Int):fB v n=true↔iZ v=true∧(v.length:Int)=n:=by unfold fB;rw[Bool.and_eq_true,decide_eq_true_eq]
def jP (v:List Int) (n:Int):Bool:=decide (v.length=0) || fB v n
def gR (m:List eV) (i:Nat):Int:=if i<m.length then (m.getD i zOp).2.1 else (m.getD (m.length - 1) zOp).2.2.1
theorem aXF {m:List eV} (h:cS m=true) {k:Nat} (hk:k<m.length):gR m (k+1)=(m.getD k zOp).2.2.1:=by
 unfold gR
 split
 ·rename_i h1
  have h2:=((bY m).1 h).2.2 (k+1) h1
  rw[aBS m h1] at h2
  rcases h2.2 with h3|h3
  ·omega
  ·rw[aZ h1,aZ hk]
   exact h3.symm
 ·have:m.length - 1=k:=by omega
  rw[this]
def rI (m:List eV) (r:List (List Int)) (n:Nat):Bool:=(List.range n).all fun i=>fB (r.getD i []) (gR m i)
theorem nH (m:List eV) (r:List (List Int)) (n:Nat):rI m r n=true↔∀ i,i<n→fB (r.getD i []) (gR m i)=true:=by unfold rI;simp only[List.all_eq_true,List.mem_range]
def aBH (m:List eV) (redo:Bool):Nat:=if redo=true then 1 else m.length+1
def oP (m:List eV) (redo:Bool) (x:Int × List (List Int)):Bool:=decide (x.2.length=aBH m redo)&&rI m x.2 (aBH m redo)
theorem aKB (m:List eV) (redo:Bool) (x:Int × List (List Int)):oP m redo x=true↔x.2.length=aBH m redo∧∀ i,i<aBH m redo→fB (x.2.getD i []) (gR m i)=true:=by unfold oP;rw[Bool.and_eq_true,decide_eq_true_eq,nH]
def hN (s:bC):Bool:=cS s.2.2.1&&(decide (0≤s.1∧s.1≤(s.2.1.length:Int))&&(aO1 s.2.2.1 s.2.2.2.2.2.2.2.2.2.2.2.1&&(s.2.2.2.2.2.1.all (oP s.2.2.1 s.2.2.2.2.1) &&
 (jP s.2.2.2.2.2.2.2.1 (lW s.2.2.1)&&(jP s.2.2.2.2.2.2.2.2.2.2.1 (lW s.2.2.1)&&(jP s.2.2.2.2.2.2.2.2.1 (iE s.2.2.1)&&jP s.2.2.2.2.2.2.2.2.2.1 (iE s.2.2.1)))))))
theorem eW (s:bC):hN s=true↔cS s.2.2.1=true∧(0≤s.1∧s.1≤(s.2.1.length:Int))∧aO1 s.2.2.1 s.2.2.2.2.2.2.2.2.2.2.2.1=true∧s.2.2.2.2.2.1.all (oP s.2.2.1 s.2.2.2.2.1)=true ∧
 jP s.2.2.2.2.2.2.2.1 (lW s.2.2.1)=true∧jP s.2.2.2.2.2.2.2.2.2.2.1 (lW s.2.2.1)=true∧jP s.2.2.2.2.2.2.2.2.1 (iE s.2.2.1)=true∧jP s.2.2.2.2.2.2.2.2.2.1 (iE s.2.2.1)=true:=by
 unfold hN;simp only[Bool.and_eq_true,decide_eq_true_eq]
theorem aCC {v:List Int} {n:Int} (h:iZ v=false):false=fB v n:=by unfold fB;rw[h];rfl
theorem bI9 {v:List Int} {n:Int} (h:iZ v=true):((v.length:Int)==n)=fB v n:=by unfold fB;rw[h,Bool.true_and];rfl
theorem aHO {s:bC} {k:Nat} (hk:k<s.2.2.2.2.2.1.length) (h:¬ oP s.2.2.1 s.2.2.2.2.1 (s.2.2.2.2.2.1.getD k (aX aD))=true):false=hN s:=by
 refine (Bool.eq_false_iff.2 fun hh=>?_).symm
 have h4:=((eW s).1 hh).2.2.2.1
 rw[List.all_eq_true] at h4
 exact h (h4 _ (by rw[aZ hk];exact List.getElem_mem hk))
theorem aQ1 {s:bC} (h:∀ i,i<s.2.2.2.2.2.1.length→oP s.2.2.1 s.2.2.2.2.1 (s.2.2.2.2.2.1.getD i (aX aD))=true):s.2.2.2.2.2.1.all (oP s.2.2.1 s.2.2.2.2.1)=true:=by
 rw[List.all_eq_true]
 intro x hx
 obtain ⟨i,hi,rfl⟩:=List.getElem_of_mem hx
 have:=h i hi
 rwa [aZ hi] at this
theorem aHR {m:List eV} {redo:Bool} {x:fJ} {n:Nat} (hn:n=aBH m redo):oP m redo x=true↔x.2.length=n∧rI m x.2 n=true:=by
 unfold oP;rw[Bool.and_eq_true,decide_eq_true_eq,hn]
theorem aUW {s:bC} (h1:cS s.2.2.1=true) (h2:0≤s.1∧s.1≤(s.2.1.length:Int)) (h3:aO1 s.2.2.1 s.2.2.2.2.2.2.2.2.2.2.2.1=true) (h4:s.2.2.2.2.2.1.all (oP s.2.2.1 s.2.2.2.2.1)=true) :
  hN s=(jP s.2.2.2.2.2.2.2.1 (lW s.2.2.1)&&(jP s.2.2.2.2.2.2.2.2.2.2.1 (lW s.2.2.1)&&(jP s.2.2.2.2.2.2.2.2.1 (iE s.2.2.1)&&jP s.2.2.2.2.2.2.2.2.2.1 (iE s.2.2.1)))):=by
 unfold hN;rw[h1,h3,h4];simp[h2]
theorem oJ {s:bC} (h:cS s.2.2.1=false∨s.1<0∨(s.2.1.length:Int)<s.1∨aO1 s.2.2.1 s.2.2.2.2.2.2.2.2.2.2.2.1=false∨jP s.2.2.2.2.2.2.2.1 (lW s.2.2.1)=false∨jP s.2.2.2.2.2.2.2.2.2.2.1 (lW s.2.2.1)=false∨jP s.2.2.2.2.2.2.2.2.1 (iE s.2.2.1)=false):false=hN s:=by
 refine (Bool.eq_false_iff.2 fun hh=>?_).symm
 obtain ⟨h1,h2,h3,h4,h5,h6,h7,h8⟩:=(eW s).1 hh
 rcases h with h|h|h|h|h|h|h
 ·rw[h] at h1;cases h1
 ·omega
 ·omega
 ·rw[h] at h3;cases h3
 ·rw[h] at h5;cases h5
 ·rw[h] at h6;cases h6
 ·rw[h] at h7;cases h7
def dF:Con:=⟨166,aB,.bool,[.val ⟨false,aB,[]⟩],[⟨false,.bool,[0]⟩],false,none,
 ((fun _=>True):(List Int)→Prop),
 ((fun x=>iZ x):(List Int)→(Bool))⟩
def aI0:T :=
 .bPA (.bPD 3 tI) (.Z 0) <|
 .bPA (.cmp .geq .i64) (.bPB tI tI (.Z 1) (.ci .i64 1)) <|
 .ite (.Z 2) (
  .bPA (.bPD 3 tI) (.Z 0) <|
  .bPA (.cmp .leq .i64) (.bPB tI tI (.Z 3) (.ci .i64 6)) <|
  .ite (.Z 4) (
   .call 0 (.Z 0) <|
   .ret (.Z 5)) (
   .ret (.cb false))) (
  .ret (.cb false))
theorem bF9:bN Tryz.prog [iT] dF false 3000 ⟨[],[]⟩ = .ok aI0:=by kernel_rfl
theorem bF6 (x:List Int) (hx:okD aB x) (hp:(fun _=>True) x):aI0.wp [iT] [⟨aB,x⟩] [] (fun v=>v.as .bool=(fun x=>iZ x) x):=by
 delta aI0 iT;refine dD ?_;try with_reducible exact True.intro
 (repeat' first|intro _|(with_reducible apply And.intro))
 all_goals simp only[mP] at *
 all_goals first|(first|(refine (Bool.eq_false_iff.2 ?_).symm;rw[ne_eq,cT];intro hh;omega)|(refine (cT.2 ?_).symm;omega))|(rw[Bool.eq_iff_iff,cT];exact ⟨fun h=>⟨by omega,by omega,h⟩,fun h=>h.2.2⟩)
theorem pJ:Con.Holds Tryz.prog dF:=aS aV (aH aFH aT) bF9 bF6
def cA:Con:=⟨206,(.bP9 aB tI),.bool,[.val ⟨false,aB,[]⟩,.val ⟨false,tI,[]⟩],[⟨false,.bool,[0]⟩],false,none,
 ((fun _=>True):(cF × Int)→Prop),
 ((fun x=>fB x.1 x.2):(cF × Int)→(Bool))⟩
def aIH:T:=.call 0 (.p1 aB tI (.Z 0)) <|.ite (.Z 1) (
 .bPA (.bPD 3 tI) (.p1 aB tI (.Z 0)) <|
 .bPA (.cmp .eql .i64) (.bPB tI tI (.Z 2) (aQ (.bP9 aB tI) 1 (.Z 0))) <|
 .ret (.Z 3)) (
 .ret (.cb false))
theorem bEJ:bN Tryz.prog [dF] cA false 3000 ⟨[],[]⟩ = .ok aIH:=by kernel_rfl
theorem bF4 (x:cF × Int) (hx:okD (.bP9 aB tI) x) (hp:(fun _=>True) x):aIH.wp [dF] [⟨(.bP9 aB tI),x⟩] [] (fun v=>v.as .bool=(fun x=>fB x.1 x.2) x):=by
 delta aIH dF;refine dD ?_
 exact ⟨fun h _=>bI9 h,fun h=>aCC h⟩
theorem kB:Con.Holds Tryz.prog cA:=aS aV (aH pJ aT) bEJ bF4
def jL:Con:=⟨207,aE,tI,[.val ⟨true,aE,[]⟩],[⟨false,tI,[0]⟩],false,none,
 ((fun _=>True):(bO)→Prop),
 ((fun x=>lW x):(bO)→(Int))⟩
def aMO:T:=.call 0 (.Z 0) <|
 .bPA .not (.Z 1) <|
 .ite (.Z 2) (
  .ret (.ci .i64 0)) (
  .bPA (.bPE 219 bD) (.bPB aE tI (.Z 0) (.ci .i64 0)) <|
  .ret (aK bD 1 (.Z 3)))
theorem bJ3:bN Tryz.prog [bT] jL false 3000 ⟨[],[]⟩ = .ok aMO:=by kernel_rfl
theorem bJQ (x:bO) (hx:okD aE x) (hp:(fun _=>True) x):aMO.wp [bT] [⟨aE,x⟩] [] (fun v=>v.as tI=(fun x=>lW x) x):=by
 delta aMO bT;refine dD ?_
 refine ⟨fun h=>?_,fun h=>?_⟩
 all_goals simp only[mP] at h
 ·unfold lW;rw[h];rfl
 ·have:=(bY x).1 h
  refine ⟨by omega,fun _=>?_⟩
  unfold lW;rw[if_pos h];rfl
theorem aG3:Con.Holds Tryz.prog jL:=aS aV (aH iI aT) bJ3 bJQ
def gV:Con:=⟨209,aE,tI,[.val ⟨true,aE,[]⟩],[⟨false,tI,[0]⟩],false,none,
 ((fun _=>True):(bO)→Prop),
 ((fun x=>iE x):(bO)→(Int))⟩
def aHK:T:=.call 0 (.Z 0) <|
 .bPA .not (.Z 1) <|
 .ite (.Z 2) (
  .ret (.ci .i64 0)) (
  .bPA (.bPD 219 bD) (.Z 0) <|
  .bPA (.ar .sub .i64) (.bPB tI tI (.Z 3) (.ci .i64 1)) <|
  .bPA (.bPE 219 bD) (.bPB aE tI (.Z 0) (.Z 4)) <|
  .ret (aK bD 2 (.Z 5)))
theorem bGJ:bN Tryz.prog [bT] gV false 3000 ⟨[],[]⟩ = .ok aHK:=by kernel_rfl
theorem bGF (x:bO) (hx:okD aE x) (hp:(fun _=>True) x):aHK.wp [bT] [⟨aE,x⟩] [] (fun v=>v.as tI=(fun x=>iE x) x):=by
 delta aHK bT;refine dD ?_
 refine ⟨fun h=>?_,fun h=>?_⟩
 all_goals simp only[mP] at h
 ·unfold iE;rw[h];rfl
 ·have:=(bY x).1 h
  refine fun _=>⟨by omega,fun _=>⟨by omega,fun _=>?_⟩⟩
  unfold iE;rw[if_pos h,yQ];rfl
theorem aCU:Con.Holds Tryz.prog gV:=aS aV (aH iI aT) bGJ bGF
def qP:Con:=⟨256,(.bP9 aB tI),.bool,[.val ⟨false,aB,[]⟩,.val ⟨false,tI,[]⟩],[⟨false,.bool,[0]⟩],false,none,
 ((fun _=>True):(cF × Int)→Prop),
 ((fun x=>jP x.1 x.2):(cF × Int)→(Bool))⟩
def aCK:T :=
 .bPA (.bPD 3 tI) (.p1 aB tI (.Z 0)) <|
 .bPA (.cmp .eql .i64) (.bPB tI tI (.Z 1) (.ci .i64 0)) <|
 .ite (.Z 2) (
  .ret (.cb true)) (
  .call 0 (.Z 0) <|
  .ret (.Z 3))
theorem aVF:bN Tryz.prog [cA] qP false 3000 ⟨[],[]⟩ = .ok aCK:=by kernel_rfl
theorem aUD (x:cF × Int) (hx:okD (.bP9 aB tI) x) (hp:(fun _=>True) x):aCK.wp [cA] [⟨(.bP9 aB tI),x⟩] [] (fun v=>v.as .bool=(fun x=>jP x.1 x.2) x):=by
 delta aCK cA;refine dD ?_
 intro _
 refine dM ?_
 refine ⟨fun h=>?_,fun h=>?_⟩
 ·unfold jP;rw[decide_eq_true (by omega)];rfl
 ·unfold jP;rw[decide_eq_false (by omega)];rfl
theorem aU5:Con.Holds Tryz.prog qP:=aS aV (aH kB aT) aVF aUD
def qE:Con:=⟨247,(.bP9 aB tI),.bool,[.val ⟨false,aB,[]⟩,.val ⟨false,tI,[]⟩],[⟨false,.bool,[0]⟩],false,none,
 ((fun _=>True):(cF × Int)→Prop),
 ((fun x=>jP x.1 x.2):(cF × Int)→(Bool))⟩
def aAU:T :=
 .bPA (.bPD 3 tI) (.p1 aB tI (.Z 0)) <|
 .bPA (.cmp .eql .i64) (.bPB tI tI (.Z 1) (.ci .i64 0)) <|
 .ite (.Z 2) (
  .ret (.cb true)) (
  .call 0 (.p1 aB tI (.Z 0)) <|
  .ite (.Z 3) (
   .bPA (.bPD 3 tI) (.p1 aB tI (.Z 0)) <|
   .bPA (.cmp .eql .i64) (.bPB tI tI (.Z 4) (aQ (.bP9 aB tI) 1 (.Z 0))) <|
   .ret (.Z 5)) (
   .ret (.cb false)))
theorem aW1:bN Tryz.prog [bL] qE false 3000 ⟨[],[]⟩ = .ok aAU:=by kernel_rfl
theorem aTG (x:cF × Int) (hx:okD (.bP9 aB tI) x) (hp:(fun _=>True) x):aAU.wp [bL] [⟨(.bP9 aB tI),x⟩] [] (fun v=>v.as .bool=(fun x=>jP x.1 x.2) x):=by
 delta aAU bL;refine dD ?_
 intro _
 refine dM ?_
 refine ⟨fun h=>?_,fun h=>⟨fun h2 _=>?_,fun h2=>?_⟩⟩
 ·unfold jP;rw[decide_eq_true (by omega)];rfl
 ·unfold jP;rw[decide_eq_false (by omega),Bool.false_or];exact bI9 h2
 ·unfold jP;rw[decide_eq_false (by omega),Bool.false_or];exact aCC h2
theorem aUT:Con.Holds Tryz.prog qE:=aS aV (aH fT aT) aW1 aTG
def mH:Con:=⟨216,(.bP9 aE (.bP9 aJ tI)),.bool,[.val ⟨false,aE,[]⟩,.val ⟨false,aJ,[]⟩,.val ⟨false,tI,[]⟩],[⟨false,.bool,[0]⟩],false,none,
 ((fun x=>cS x.1=true∧x.2.2≤(x.2.1.length:Int)):(bO × (cZ × Int))→Prop),
 ((fun x=>rI x.1 x.2.1 x.2.2.toNat):(bO × (cZ × Int))→(Bool))⟩
def aEX:T:=.loop tI (.ci .i64 0) <|
 .bPA (.cmp .lss .i64) (.bPB tI tI (.Z 1) (aQ (.bP9 aE (.bP9 aJ tI)) 2 (.Z 0))) <|
 .ite (.Z 2) (
  .bPA (.bPD 219 bD) (.p1 aE (.bP9 aJ tI) (.Z 0)) <|
  .bPA (.ar .sub .i64) (.bPB tI tI (.Z 3) (.ci .i64 1)) <|
  .bPA (.bPE 219 bD) (.bPB aE tI (.p1 aE (.bP9 aJ tI) (.Z 0)) (.Z 4)) <|
  .bPA (.bPD 219 bD) (.p1 aE (.bP9 aJ tI) (.Z 0)) <|
  .bPA (.cmp .lss .i64) (.bPB tI tI (.Z 1) (.Z 6)) <|
  .ite (.Z 7) (
   .bPA (.bPE 219 bD) (.bPB aE tI (.p1 aE (.bP9 aJ tI) (.Z 0)) (.Z 1)) <|
   .bPA (.bPE 188 aB) (.bPB aJ tI (aK (.bP9 aE (.bP9 aJ tI)) 1 (.Z 0)) (.Z 1)) <|
   .call 0 (.bPB aB tI (.Z 9) (aK bD 1 (.Z 8))) <|
   .bPA .not (.Z 10) <|
   .ite (.Z 11) (
    .ret (.cb false)) (
    .bPA (.ar .add .i64) (.bPB tI tI (.Z 1) (.ci .i64 1)) <|
    .bPC 0 (.Z 12))) (
   .bPA (.bPE 188 aB) (.bPB aJ tI (aK (.bP9 aE (.bP9 aJ tI)) 1 (.Z 0)) (.Z 1)) <|
   .call 0 (.bPB aB tI (.Z 8) (aK bD 2 (.Z 5))) <|
   .bPA .not (.Z 9) <|
   .ite (.Z 10) (
    .ret (.cb false)) (
    .bPA (.ar .add .i64) (.bPB tI tI (.Z 1) (.ci .i64 1)) <|
    .bPC 0 (.Z 11)))) (
  .ret (.cb true))
theorem bAK:bN Tryz.prog [cA] mH false 3000 ⟨[(2993,1001,[.tm 7 0])],[]⟩ = .ok aEX:=by kernel_rfl
theorem aZV (x:bO × (cZ × Int)) (hx:okD (.bP9 aE (.bP9 aJ tI)) x) (hp:(fun x=>cS x.1=true∧x.2.2≤(x.2.1.length:Int)) x):aEX.wp [cA] [⟨(.bP9 aE (.bP9 aJ tI)),x⟩] [] (fun v=>v.as .bool=(fun x=>rI x.1 x.2.1 x.2.2.toNat) x):=by
 obtain ⟨m,r,n⟩:=x
 obtain ⟨hm,hn⟩:cS m=true∧n≤(r.length:Int):=hp
 have hr:r.length≤9223372036854775807:=hx.2.1.1
 have hm1:=(bY m).1 hm
 delta aEX cA;refine dD ?_
 refine ⟨fun s=>∃ k:Nat,k≤n.toNat∧s=(k:Int)∧∀ i,i<k→fB (r.getD i []) (gR m i)=true,fun s=>n.toNat - (s:Int).toNat,⟨0,by omega,rfl,by omega⟩,fun s _ hI=>?_⟩
 obtain ⟨k,hk,rfl,ha⟩:=hI
 refine dM ?_
 have bad:k<n.toNat→∀ z:Int,z=gR m k→fB (r.getD k []) z=false→false=rI m r n.toNat:=fun h z hz hv=>by
  refine (Bool.eq_false_iff.2 fun hh=>?_).symm
  have:=(nH _ _ _).1 hh k h
  rw[← hz,hv] at this;cases this
 have good:∀ z:Int,z=gR m k→fB (r.getD k []) z=true→∀ i,i<k+1→fB (r.getD i []) (gR m i)=true:=fun z hz hv i hi=>by
  rcases Nat.lt_or_eq_of_le (Nat.le_of_lt_succ hi) with h|rfl
  ·exact ha i h
  ·rw[← hz];exact hv
 constructor
 ·intro hlt
  have e1:(m.getD (m.length - 1) (aX bD)).2.2.1=(m.getD (m.length - 1) zOp).2.2.1:=rfl
  have e2:(m.getD k (aX bD)).2.1=(m.getD k zOp).2.1:=rfl
  have z1:k<m.length→(m.getD k zOp).2.1=gR m k:=fun h=>by unfold gR;rw[if_pos h]
  have z2:¬ k<m.length→(m.getD (m.length - 1) zOp).2.2.1=gR m k:=fun h=>by unfold gR;rw[if_neg h]
  (repeat' first|intro _|(with_reducible apply And.intro))
  all_goals first|omega|(exact bad (by omega) _ (z1 (by omega)) (by assumption))|(exact bad (by omega) _ (z2 (by omega)) (by assumption))|(exact ⟨k+1,by omega,rfl,good _ (z1 (by omega)) (by assumption)⟩)|(exact ⟨k+1,by omega,rfl,good _ (z2 (by omega)) (by assumption)⟩)
 ·intro hge
  exact ((nH _ _ _).2 fun i hi=>ha i (by omega)).symm
theorem aME:Con.Holds Tryz.prog mH:=aS aV (aH kB aT) bAK aZV
def eE:Con:=⟨168,aA,.bool,[.val ⟨true,aA,[]⟩],[⟨false,.bool,[0]⟩],false,none,
 ((fun _=>True):(bC)→Prop),
 ((fun x=>hN x):(bC)→(Bool))⟩
def aAK:T:=.call 0 (.Z 0) <|.call 1 (.Z 1) <|
 .bPA .not (.Z 2) <|
 .ite (.Z 3) (
  .ret (.cb false)) (
  .bPA (.cmp .lss .i64) (.bPB tI tI (.p1 tI dA (.Z 0)) (.ci .i64 0)) <|
  .ite (.Z 4) (
   .ret (.cb false)) (
   .bPA (.bPD 95 aP) (aK aA 1 (.Z 0)) <|
   .bPA (.cmp .gtr .i64) (.bPB tI tI (.p1 tI dA (.Z 0)) (.Z 5)) <|
   .ite (.Z 6) (
    .ret (.cb false)) (
    .call 2 (.bPB aE aJ (.Z 1) (aK aA 11 (.Z 0))) <|
    .bPA .not (.Z 7) <|
    .ite (.Z 8) (
     .ret (.cb false)) (
     .bPA (.bPD 219 bD) (aK aA 2 (.Z 0)) <|
     .bPA (.ar .add .i64) (.bPB tI tI (.Z 9) (.ci .i64 1)) <|
     .ite (aK aA 4 (.Z 0)) (
      .bPA (.bPD 186 aD) (aK aA 5 (.Z 0)) <|
      .loop tI (.ci .i64 0) <|
       .bPA (.cmp .lss .i64) (.bPB tI tI (.Z 12) (.Z 11)) <|
       .ite (.Z 13) (
        .bPA (.bPE 186 aD) (.bPB (.slice 186 aD) tI (aK aA 5 (.Z 0)) (.Z 12)) <|
        .bPA (.bPD 188 aB) (aQ aD 1 (.Z 14)) <|
        .bPA (.cmp .neq .i64) (.bPB tI tI (.Z 15) (.ci .i64 1)) <|
        .ite (.Z 16) (
         .ret (.cb false)) (
         .call 3 (bG (.bP9 aE (.bP9 aJ tI)) [(aK aA 2 (.Z 0)),(aQ aD 1 (.Z 14)),(.ci .i64 1)]) <|
         .bPA .not (.Z 17) <|
         .ite (.Z 18) (
          .ret (.cb false)) (
          .bPA (.ar .add .i64) (.bPB tI tI (.Z 12) (.ci .i64 1)) <|
          .bPC 0 (.Z 19)))) (
        .call 4 (.Z 1) <|
        .call 5 (.Z 1) <|
        .call 6 (.bPB aB tI (aK aA 7 (.Z 0)) (.Z 14)) <|
        .ite (.Z 16) (
         .call 6 (.bPB aB tI (aK aA 10 (.Z 0)) (.Z 14)) <|
         .ite (.Z 17) (
          .call 6 (.bPB aB tI (aK aA 8 (.Z 0)) (.Z 15)) <|
          .ite (.Z 18) (
           .call 6 (.bPB aB tI (aK aA 9 (.Z 0)) (.Z 15)) <|
           .ret (.Z 19)) (
           .ret (.cb false))) (
          .ret (.cb false))) (
         .ret (.cb false)))) (
      .bPA (.bPD 186 aD) (aK aA 5 (.Z 0)) <|
      .loop tI (.ci .i64 0) <|
       .bPA (.cmp .lss .i64) (.bPB tI tI (.Z 12) (.Z 11)) <|
       .ite (.Z 13) (
        .bPA (.bPE 186 aD) (.bPB (.slice 186 aD) tI (aK aA 5 (.Z 0)) (.Z 12)) <|
        .bPA (.bPD 188 aB) (aQ aD 1 (.Z 14)) <|
        .bPA (.cmp .neq .i64) (.bPB tI tI (.Z 15) (.Z 10)) <|
        .ite (.Z 16) (
         .ret (.cb false)) (
         .call 3 (bG (.bP9 aE (.bP9 aJ tI)) [(aK aA 2 (.Z 0)),(aQ aD 1 (.Z 14)),(.Z 10)]) <|
         .bPA .not (.Z 17) <|
         .ite (.Z 18) (
          .ret (.cb false)) (
          .bPA (.ar .add .i64) (.bPB tI tI (.Z 12) (.ci .i64 1)) <|
          .bPC 0 (.Z 19)))) (
        .call 4 (.Z 1) <|
        .call 5 (.Z 1) <|
        .call 6 (.bPB aB tI (aK aA 7 (.Z 0)) (.Z 14)) <|
        .ite (.Z 16) (
         .call 6 (.bPB aB tI (aK aA 10 (.Z 0)) (.Z 14)) <|
         .ite (.Z 17) (
          .call 6 (.bPB aB tI (aK aA 8 (.Z 0)) (.Z 15)) <|
          .ite (.Z 18) (
           .call 6 (.bPB aB tI (aK aA 9 (.Z 0)) (.Z 15)) <|
           .ret (.Z 19)) (
           .ret (.cb false))) (
          .ret (.cb false))) (
         .ret (.cb false))))))))
theorem aX6:bN Tryz.prog [eI,bT,oQ,mH,jL,gV,qP] eE false 3000 ⟨[(2979,48012,iL 41 9++[.dr 0,.tm 44 0]),(2979,32012,iL 41 9++[.dr 0,.tm 44 0])],[]⟩ = .ok aAK:=by kernel_rfl
theorem aW2 (x:bC) (hx:okD aA x) (hp:(fun _=>True) x):aAK.wp [eI,bT,oQ,mH,jL,gV,qP] [⟨aA,x⟩] [] (fun v=>v.as .bool=(fun x=>hN x) x):=by
  have hst:x.2.2.2.2.2.1.length≤9223372036854775807:=hx.2.2.2.2.2.1.1
  delta aAK eI bT oQ mH jL gV qP;refine dD ?_
  refine dM ?_
  intro _
  refine ⟨fun h=>oJ (.inl h),fun h1=>⟨fun h=>oJ (.inr (.inl h)),fun h2 _=>⟨fun h=>oJ (.inr (.inr (.inl h))),fun h3=>⟨fun h=>oJ (.inr (.inr (.inr (.inl h)))),fun h4 _=>?_⟩⟩⟩⟩
  have hm:=(bY _).1 h1
  refine ⟨by omega,fun _=>⟨fun hr _=>?_,fun hr _=>?_⟩⟩
  all_goals
    refine ⟨fun s=>∃ k:Nat,k≤x.2.2.2.2.2.1.length∧s=(k:Int)∧∀ i,i<k→oP x.2.2.1 x.2.2.2.2.1 (x.2.2.2.2.2.1.getD i (aX aD))=true,fun s=>x.2.2.2.2.2.1.length - (s:Int).toNat,⟨0,by omega,rfl,by omega⟩,fun s _ hI=>?_⟩
    obtain ⟨k,hk,rfl,ha⟩:=hI
    refine dM ?_
    obtain ⟨n,hn⟩:∃ n,n=aBH x.2.2.1 x.2.2.2.2.1:=⟨_,rfl⟩
    have hn1:=hn
    unfold aBH at hn1
    rw[hr] at hn1
    simp only[if_true,Bool.false_eq_true,if_false] at hn1
    have hkn:=(hn1.symm.trans hn).symm
    clear hn hn1
    constructor
  rotate_left 1
  rotate_left 2
  all_goals first
    | (intro hge
       have hst:=aQ1 (s:=x) (fun i hi=>ha i (by omega))
       rw[aUW h1 ⟨by omega,by omega⟩ h4 hst]
       (repeat' first|intro _|(with_reducible apply And.intro))
       all_goals simp_all
       done)
    | skip
  all_goals
    intro hlt
    have hk':k<x.2.2.2.2.2.1.length:=by omega
    (repeat' first|intro _|(with_reducible apply And.intro))
    all_goals first|omega|exact h1|(exact aHO hk' fun hh=>by have:=((aHR hkn.symm).1 hh).1;omega)|skip
    all_goals first|(refine aHO hk' fun hh=>?_;have h5:=((aHR hkn.symm).1 hh).2;exact Bool.noConfusion (h5.symm.trans (by assumption:_=false)))|(refine ⟨k+1,by omega,rfl,fun i hi=>?_⟩;rcases Nat.lt_or_eq_of_le (Nat.le_of_lt_succ hi) with h|rfl;exact ha i h;exact (aHR hkn.symm).2 ⟨by omega,by assumption⟩)
theorem vB:Con.Holds Tryz.prog eE:=aS aV (aH vM (aH iI (aH aSX (aH aME (aH aG3 (aH aCU (aH aU5 aT))))))) aX6 aW2
def eF:Con:=⟨160,aA,.bool,[.val ⟨true,aA,[]⟩],[⟨false,.bool,[0]⟩],false,none,
 ((fun _=>True):(bC)→Prop),
 ((fun x=>hN x):(bC)→(Bool))⟩
def aAT:T:=.call 0 (aK aA 2 (.Z 0)) <|
 .bPA .not (.Z 1) <|
 .ite (.Z 2) (
  .ret (.cb false)) (
  .bPA (.bPD 95 aP) (aK aA 1 (.Z 0)) <|
  .call 1 (bG (.bP9 tI aP) [(.p1 tI dA (.Z 0)),(.ci .i64 0),(.Z 3)]) <|
  .bPA .not (.Z 4) <|
  .ite (.Z 5) (
   .ret (.cb false)) (
   .bPA (.bPD 188 aB) (aK aA 11 (.Z 0)) <|
   .bPA (.bPD 219 bD) (aK aA 2 (.Z 0)) <|
   .bPA (.cmp .neq .i64) (.bPB tI tI (.Z 6) (.Z 7)) <|
   .ite (.Z 8) (
    .ret (.cb false)) (
    .bPA (.bPE 219 bD) (.bPB aE tI (aK aA 2 (.Z 0)) (.ci .i64 0)) <|
    .bPA (.bPD 219 bD) (aK aA 2 (.Z 0)) <|
    .bPA (.ar .sub .i64) (.bPB tI tI (.Z 10) (.ci .i64 1)) <|
    .bPA (.bPE 219 bD) (.bPB aE tI (aK aA 2 (.Z 0)) (.Z 11)) <|
    .loop tI (.ci .i64 0) <|
     .bPA (.bPD 219 bD) (aK aA 2 (.Z 0)) <|
     .bPA (.cmp .lss .i64) (.bPB tI tI (.Z 13) (.Z 14)) <|
     .ite (.Z 15) (
      .bPA (.bPE 188 aB) (.bPB aJ tI (aK aA 11 (.Z 0)) (.Z 13)) <|
      .bPA (.bPD 3 tI) (.Z 16) <|
      .bPA (.bPE 219 bD) (.bPB aE tI (aK aA 2 (.Z 0)) (.Z 13)) <|
      .bPA (.bPD 3 tI) (aQ bD 3 (.Z 18)) <|
      .bPA (.cmp .neq .i64) (.bPB tI tI (.Z 17) (.Z 19)) <|
      .ite (.Z 20) (
       .ret (.cb false)) (
       .bPA (.ar .add .i64) (.bPB tI tI (.Z 13) (.ci .i64 1)) <|
       .bPC 0 (.Z 21))) (
      .loop tI (.ci .i64 0) <|
       .bPA (.bPD 186 aD) (aK aA 5 (.Z 0)) <|
       .bPA (.cmp .lss .i64) (.bPB tI tI (.Z 16) (.Z 17)) <|
       .ite (.Z 18) (
        .bPA (.bPE 186 aD) (.bPB (.slice 186 aD) tI (aK aA 5 (.Z 0)) (.Z 16)) <|
        .bPA (.bPD 188 aB) (aQ aD 1 (.Z 19)) <|
        .bPA (.cmp .eql .i64) (.bPB tI tI (.Z 20) (.ci .i64 0)) <|
        .ite (.Z 21) (
         .ret (.cb false)) (
         .bPA (.bPE 188 aB) (.bPB aJ tI (aQ aD 1 (.Z 19)) (.ci .i64 0)) <|
         .call 2 (.Z 22) <|
         .bPA .not (.Z 23) <|
         .ite (.Z 24) (
          .ret (.cb false)) (
          .bPA (.bPE 188 aB) (.bPB aJ tI (aQ aD 1 (.Z 19)) (.ci .i64 0)) <|
          .bPA (.bPD 3 tI) (.Z 25) <|
          .bPA (.cmp .neq .i64) (.bPB tI tI (.Z 26) (aK bD 1 (.Z 9))) <|
          .ite (.Z 27) (
           .ret (.cb false)) (
           .bPA .not (aK aA 4 (.Z 0)) <|
           .ite (.Z 28) (
            .bPA (.bPD 188 aB) (aQ aD 1 (.Z 19)) <|
            .bPA (.bPD 219 bD) (aK aA 2 (.Z 0)) <|
            .bPA (.ar .add .i64) (.bPB tI tI (.Z 30) (.ci .i64 1)) <|
            .bPA (.cmp .neq .i64) (.bPB tI tI (.Z 29) (.Z 31)) <|
            .ite (.Z 32) (
             .ret (.cb false)) (
             .ite (aK aA 4 (.Z 0)) (
              .bPA (.bPD 188 aB) (aQ aD 1 (.Z 19)) <|
              .bPA (.cmp .neq .i64) (.bPB tI tI (.Z 33) (.ci .i64 1)) <|
              .ite (.Z 34) (
               .ret (.cb false)) (
               .loop tI (.ci .i64 1) <|
                .bPA (.bPD 188 aB) (aQ aD 1 (.Z 19)) <|
                .bPA (.cmp .lss .i64) (.bPB tI tI (.Z 35) (.Z 36)) <|
                .ite (.Z 37) (
                 .bPA (.bPE 188 aB) (.bPB aJ tI (aQ aD 1 (.Z 19)) (.Z 35)) <|
                 .call 2 (.Z 38) <|
                 .bPA .not (.Z 39) <|
                 .ite (.Z 40) (
                  .ret (.cb false)) (
                  .bPA (.ar .sub .i64) (.bPB tI tI (.Z 35) (.ci .i64 1)) <|
                  .bPA (.bPE 188 aB) (.bPB aJ tI (aQ aD 1 (.Z 19)) (.Z 35)) <|
                  .bPA (.bPD 3 tI) (.Z 42) <|
                  .bPA (.bPE 219 bD) (.bPB aE tI (aK aA 2 (.Z 0)) (.Z 41)) <|
                  .bPA (.cmp .neq .i64) (.bPB tI tI (.Z 43) (aK bD 2 (.Z 44))) <|
                  .ite (.Z 45) (
                   .ret (.cb false)) (
                   .bPA (.ar .add .i64) (.bPB tI tI (.Z 35) (.ci .i64 1)) <|
                   .bPC 0 (.Z 46)))) (
                 .bPA (.ar .add .i64) (.bPB tI tI (.Z 16) (.ci .i64 1)) <|
                 .bPC 1 (.Z 38)))) (
              .loop tI (.ci .i64 1) <|
               .bPA (.bPD 188 aB) (aQ aD 1 (.Z 19)) <|
               .bPA (.cmp .lss .i64) (.bPB tI tI (.Z 33) (.Z 34)) <|
               .ite (.Z 35) (
                .bPA (.bPE 188 aB) (.bPB aJ tI (aQ aD 1 (.Z 19)) (.Z 33)) <|
                .call 2 (.Z 36) <|
                .bPA .not (.Z 37) <|
                .ite (.Z 38) (
                 .ret (.cb false)) (
                 .bPA (.ar .sub .i64) (.bPB tI tI (.Z 33) (.ci .i64 1)) <|
                 .bPA (.bPE 188 aB) (.bPB aJ tI (aQ aD 1 (.Z 19)) (.Z 33)) <|
                 .bPA (.bPD 3 tI) (.Z 40) <|
                 .bPA (.bPE 219 bD) (.bPB aE tI (aK aA 2 (.Z 0)) (.Z 39)) <|
                 .bPA (.cmp .neq .i64) (.bPB tI tI (.Z 41) (aK bD 2 (.Z 42))) <|
                 .ite (.Z 43) (
                  .ret (.cb false)) (
                  .bPA (.ar .add .i64) (.bPB tI tI (.Z 33) (.ci .i64 1)) <|
                  .bPC 0 (.Z 44)))) (
                .bPA (.ar .add .i64) (.bPB tI tI (.Z 16) (.ci .i64 1)) <|
                .bPC 1 (.Z 36))))) (
            .ite (aK aA 4 (.Z 0)) (
             .bPA (.bPD 188 aB) (aQ aD 1 (.Z 19)) <|
             .bPA (.cmp .neq .i64) (.bPB tI tI (.Z 29) (.ci .i64 1)) <|
             .ite (.Z 30) (
              .ret (.cb false)) (
              .loop tI (.ci .i64 1) <|
               .bPA (.bPD 188 aB) (aQ aD 1 (.Z 19)) <|
               .bPA (.cmp .lss .i64) (.bPB tI tI (.Z 31) (.Z 32)) <|
               .ite (.Z 33) (
                .bPA (.bPE 188 aB) (.bPB aJ tI (aQ aD 1 (.Z 19)) (.Z 31)) <|
                .call 2 (.Z 34) <|
                .bPA .not (.Z 35) <|
                .ite (.Z 36) (
                 .ret (.cb false)) (
                 .bPA (.ar .sub .i64) (.bPB tI tI (.Z 31) (.ci .i64 1)) <|
                 .bPA (.bPE 188 aB) (.bPB aJ tI (aQ aD 1 (.Z 19)) (.Z 31)) <|
                 .bPA (.bPD 3 tI) (.Z 38) <|
                 .bPA (.bPE 219 bD) (.bPB aE tI (aK aA 2 (.Z 0)) (.Z 37)) <|
                 .bPA (.cmp .neq .i64) (.bPB tI tI (.Z 39) (aK bD 2 (.Z 40))) <|
                 .ite (.Z 41) (
                  .ret (.cb false)) (
                  .bPA (.ar .add .i64) (.bPB tI tI (.Z 31) (.ci .i64 1)) <|
                  .bPC 0 (.Z 42)))) (
                .bPA (.ar .add .i64) (.bPB tI tI (.Z 16) (.ci .i64 1)) <|
                .bPC 1 (.Z 34)))) (
             .loop tI (.ci .i64 1) <|
              .bPA (.bPD 188 aB) (aQ aD 1 (.Z 19)) <|
              .bPA (.cmp .lss .i64) (.bPB tI tI (.Z 29) (.Z 30)) <|
              .ite (.Z 31) (
               .bPA (.bPE 188 aB) (.bPB aJ tI (aQ aD 1 (.Z 19)) (.Z 29)) <|
               .call 2 (.Z 32) <|
               .bPA .not (.Z 33) <|
               .ite (.Z 34) (
                .ret (.cb false)) (
                .bPA (.ar .sub .i64) (.bPB tI tI (.Z 29) (.ci .i64 1)) <|
                .bPA (.bPE 188 aB) (.bPB aJ tI (aQ aD 1 (.Z 19)) (.Z 29)) <|
                .bPA (.bPD 3 tI) (.Z 36) <|
                .bPA (.bPE 219 bD) (.bPB aE tI (aK aA 2 (.Z 0)) (.Z 35)) <|
                .bPA (.cmp .neq .i64) (.bPB tI tI (.Z 37) (aK bD 2 (.Z 38))) <|
                .ite (.Z 39) (
                 .ret (.cb false)) (
                 .bPA (.ar .add .i64) (.bPB tI tI (.Z 29) (.ci .i64 1)) <|
                 .bPC 0 (.Z 40)))) (
               .bPA (.ar .add .i64) (.bPB tI tI (.Z 16) (.ci .i64 1)) <|
               .bPC 1 (.Z 32)))))))) (
        .call 3 (.bPB aB tI (aK aA 7 (.Z 0)) (aK bD 1 (.Z 9))) <|
        .ite (.Z 19) (
         .call 3 (.bPB aB tI (aK aA 8 (.Z 0)) (aK bD 2 (.Z 12))) <|
         .ite (.Z 20) (
          .call 3 (.bPB aB tI (aK aA 9 (.Z 0)) (aK bD 2 (.Z 12))) <|
          .ite (.Z 21) (
           .call 3 (.bPB aB tI (aK aA 10 (.Z 0)) (aK bD 1 (.Z 9))) <|
           .ret (.Z 22)) (
           .ret (.cb false))) (
          .ret (.cb false))) (
         .ret (.cb false)))))))
theorem aVQ:bN Tryz.prog [cD,bK,bL,qE] eF false 3000 ⟨[(2984,8013,iL 46 9++[.dr 0,.tm 5 0]),(2974,16016,iL 51 47++[.dr 5,.tm 6 0]),(2956,5392035,[.tm 8 0]),(2956,2320033,[.tm 8 0]),(2956,2576031,[.tm 8 0]),(2956,1040029,[.tm 8 0])],[]⟩ = .ok aAT:=by kernel_rfl
theorem aVA (x:bC) (hx:okD aA x) (hp:(fun _=>True) x):aAT.wp [cD,bK,bL,qE] [⟨aA,x⟩] [] (fun v=>v.as .bool=(fun x=>hN x) x):=by
  obtain ⟨pc,plan,ops,last,redo,stash,full,X,Y,G,D,sum⟩:=x
  have hst:stash.length≤9223372036854775807:=hx.2.2.2.2.2.1.1
  have hsr:∀ k,k<stash.length→(stash.getD k (aX aD)).2.length≤9223372036854775807:=fun k hk=>by rw[aZ hk];exact (hx.2.2.2.2.2.1.2 _ (List.getElem_mem hk)).2.1
  have hol:ops.length≤9223372036854775807:=hx.2.2.1.1
  delta aAT cD bK bL qE;refine dD ?_
  refine dM ?_
  refine ⟨fun h=>oJ (.inl h),fun h1 _=>⟨fun h=>?_,fun h2 _ _=>⟨fun h=>?_,fun h3=>?_⟩⟩⟩
  · rcases h with h|h
    · exact oJ (.inr (.inl (by omega)))
    · exact oJ (.inr (.inr (.inl (by omega))))
  · exact oJ (.inr (.inr (.inr (.inl (Bool.eq_false_iff.2 fun hh=>by rw[aBG] at hh;dsimp only at hh;omega)))))
  have hm:=(bY _).1 h1
  refine ⟨by omega,fun _ _=>⟨by omega,fun _=>⟨by omega,fun _=>?_⟩⟩⟩
  have ein:(ops.getD 0 (aX bD)).2.1=lW ops:=by unfold lW;rw[if_pos h1];rfl
  have eout:(ops.getD (ops.length - 1) (aX bD)).2.2.1=iE ops:=by unfold iE;rw[if_pos h1];rfl
  simp only[ein,eout]
  refine ⟨fun s=>∃ k:Nat,k≤ops.length∧s=(k:Int)∧∀ i,i<k→aM1 ops sum.1 i=true,fun s=>ops.length - (s:Int).toNat,⟨0,by omega,rfl,by omega⟩,fun s _ hI=>?_⟩
  obtain ⟨k,hk,rfl,hf⟩:=hI
  refine dM ?_
  intro _
  constructor
  · intro hlt
    have hk':k<ops.length:=by omega
    have hk2:k<sum.1.length:=by omega
    have e:=aQG ops sum.1 hk' hk2
    rw[← aZ hk' (d:=aX bD),← aZ hk2 (d:=aX aB)] at e
    (repeat' first|intro _|(with_reducible apply And.intro))
    all_goals first|omega|(exact oJ (.inr (.inr (.inr (.inl (aVO hk' fun h2=>by have:=e.1 h2;omega))))))|(refine ⟨k+1,by omega,rfl,fun i hi=>?_⟩;rcases Nat.lt_or_eq_of_le (Nat.le_of_lt_succ hi) with h|rfl;exact hf i h;exact e.2 (by omega))
  intro hge
  have hfit:aO1 ops sum.1=true:=(aBG _ _).2 ⟨by omega,fun i hi=>hf i (by omega)⟩
  obtain ⟨F,hF⟩:∃ F:fJ→Bool,F=oP ops redo:=⟨_,rfl⟩
  obtain ⟨n,hn⟩:∃ n,n=aBH ops redo:=⟨_,rfl⟩
  have hz0:gR ops 0=lW ops:=by unfold gR lW;rw[if_pos (by omega),if_pos h1]
  have sb:∀ S:fJ,F S=true↔S.2.length=n∧∀ i,i<n→fB (S.2.getD i (aX aB)) (gR ops i)=true:=fun S=>by rw[hF,hn];exact aKB _ _ _
  have bad:∀ j,j<stash.length→¬ F (stash.getD j (aX aD))=true→false=hN (pc,plan,ops,last,redo,stash,full,X,Y,G,D,sum):=fun j hj h=>aHO hj (by show ¬ oP ops redo _=true;rw[← hF];exact h)
  have fin:(∀ i,i<stash.length→F (stash.getD i (aX aD))=true)→hN (pc,plan,ops,last,redo,stash,full,X,Y,G,D,sum)=(jP X (lW ops)&&(jP D (lW ops)&&(jP Y (iE ops)&&jP G (iE ops)))) :=
    fun h=>aUW h1 ⟨by dsimp only;omega,by dsimp only;omega⟩ hfit (aQ1 fun i hi=>by show oP ops redo _=true;rw[← hF];exact h i hi)
  have hn1:(redo=true→n=1)∧(redo=false→n=ops.length+1):=by rw[hn];unfold aBH;exact ⟨fun h=>by rw[h];rfl,fun h=>by rw[h];rfl⟩
  clear hF hn
  cases redo
  all_goals
    simp only[Bool.not_true,Bool.not_false,reduceCtorEq,true_implies,false_implies,and_true,true_and,forall_const] at hn1 ⊢
    refine ⟨fun s=>∃ k:Nat,k≤stash.length∧s=(k:Int)∧∀ i,i<k→F (stash.getD i (aX aD))=true,fun s=>stash.length - (s:Int).toNat,⟨0,by omega,rfl,by omega⟩,fun s _ hI=>?_⟩
    obtain ⟨j,hj,rfl,ha⟩:=hI
    refine dM ?_
    intro _
    constructor
    rotate_left
    · intro hge
      rw[fin fun i hi=>ha i (by omega)]
      (repeat' first|intro _|(with_reducible apply And.intro))
      all_goals simp_all
    intro hlt
    have hj':j<stash.length:=by omega
    have hrl:=hsr j hj'
    have bj:=bad j hj'
    have sj:=sb (stash.getD j (aX aD))
    have nx:F (stash.getD j (aX aD))=true→∀ i,i<j+1→F (stash.getD i (aX aD))=true:=fun h i hi=>by
      rcases Nat.lt_or_eq_of_le (Nat.le_of_lt_succ hi) with h'|rfl
      · exact ha i h'
      · exact h
    clear ha fin bad sb hsr
    generalize stash.getD j (aX aD)=S at *
    (repeat' first|intro _|(with_reducible apply And.intro))
    all_goals first|omega|(refine bj fun hh=>?_;have:=(sj.1 hh).1;omega)|(refine bj fun hh=>?_;have h5:=(sj.1 hh).2 0 (by omega);rw[cI] at h5;first|omega|(simp_all;done))|skip
    refine ⟨fun s=>∃ k:Nat,1≤k∧k≤S.2.length∧s=(k:Int)∧∀ i,1≤i→i<k→fB (S.2.getD i (aX aB)) (gR ops i)=true,fun s=>S.2.length - (s:Int).toNat,⟨1,by omega,by omega,rfl,by omega⟩,fun s _ hI=>?_⟩
    obtain ⟨k,hk1,hk,rfl,ha⟩:=hI
    refine dM ?_
    have hsz:k≤ops.length→gR ops k=(ops.getD (k - 1) (aX bD)).2.2.1:=fun h=>by
      have:=aXF h1 (k:=k - 1) (by omega)
      rwa [Nat.sub_add_cancel hk1] at this
    (repeat' first|intro _|(with_reducible apply And.intro))
    all_goals first|omega|skip
    all_goals first
      | (refine bj fun hh=>?_;have h5:=(sj.1 hh).2 k (by omega);rw[cI,hsz (by omega)] at h5;first|omega|(simp_all;done))
      | (refine ⟨k+1,by omega,by omega,rfl,fun i hi1 hi=>?_⟩
         rcases Nat.lt_or_eq_of_le (Nat.le_of_lt_succ hi) with h'|rfl
         · exact ha i hi1 h'
         · rw[cI,hsz (by omega)];exact ⟨by assumption,by omega⟩)
      | (refine ⟨j+1,by omega,rfl,nx (sj.2 ⟨by omega,fun i hi=>?_⟩)⟩
         by_cases hi1:1≤i
         · exact ha i hi1 (by omega)
         · obtain rfl:i=0:=by omega
           rw[cI,hz0];exact ⟨by assumption,by omega⟩)
theorem vL:Con.Holds Tryz.prog eF:=aS aV (aH kP (aH fM (aH fT (aH aUT aT)))) aVQ aVA
end
end Go.Proofs.YtmfpkkbhnmkfdaaGreat
