/- CoreB: lemmas. No conditions. -/
import Derived.Test.YtlhaoiaieiladaaGreatDraw2
namespace Go.Proofs.YtlhaoiaieiladaaGreat
open Go.ChangeShapes Go.WideShapes Go.ChangeAt Go.RowKit Go.Deep
set_option linter.unusedVariables false
set_option linter.unusedSimpArgs false
noncomputable section
set_option maxRecDepth 100000
def pB (P:Prop):Bool:=@decide P (Classical.propDecidable P)
theorem uP {P:Prop}:pB P=true↔P:=by unfold pB;rw[@decide_eq_true_eq]
theorem cCN {P:Prop}:pB P=false↔¬ P:=⟨fun h hp=>(by rw[uP.2 hp] at h;cases h),fun h=>Bool.eq_false_iff.2 fun h2=>h (uP.1 h2)⟩
theorem pF {P:Prop} (h:¬ P):false=pB P:=(cCN.2 h).symm
theorem pT {P:Prop} (h:P):true=pB P:=(uP.2 h).symm
theorem cA7 {k n:Nat}:((k:Int)==(n:Int) - 1)=decide (k+1=n):=by rw[Bool.eq_iff_iff,beq_iff_eq,decide_eq_true_eq];omega
theorem bSQ {x y:Bool}:aJL .bool x y=true↔x=y:=by cases x <;> cases y <;> simp[aJL]
theorem bUN {x y:Bool}:aJL .bool x y=false↔¬ x=y:=by cases x <;> cases y <;> simp[aJL]
def aJI (x:fF):Bool:=sV x.2&&decide (0<=x.1/\x.1<5)
theorem oT (x:fF):aJI x=true↔sV x.2=true/\0<=x.1/\x.1<5:=by unfold aJI;rw[Bool.and_eq_true,decide_eq_true_eq]
def lX (q:dK):Bool:=pB ((1<=q.1/\q.1<=5/\(q.2.length:Int)<=q.1)/\∀ i,i<q.2.length->aJI (q.2.getD i (aK bF))=true)
theorem aET {P:Nat->Prop} {k:Nat} (h:∀ i,i<k->P i) (h2:P k):∀ i,i<k+1->P i:=fun i hi=>by
 rcases Nat.lt_or_eq_of_le (Nat.le_of_lt_succ hi) with h'|rfl
 ·exact h i h'
 ·exact h2
def aM9 (p:bI) (i:Nat):Prop:=jA (p.2.1.getD i (aK aC))=true/\(p.2.1.getD i (aK aC)).2.2.2.1=decide (i+1=p.2.1.length) /\
 ∀ k,k<(p.2.1.getD i (aK aC)).2.1.length->0<=((p.2.1.getD i (aK aC)).2.1.getD k (aK aQ)).2/\((p.2.1.getD i (aK aC)).2.1.getD k (aK aQ)).2<(p.1.length:Int)
def cBR (p:bI):Prop:=(1<=p.2.1.length/\p.2.1.length<=4/\p.2.2.1.length+1=p.2.1.length/\p.2.2.2.length+1=p.2.1.length/\1<=p.1.length/\p.1.length<=5) /\
 (∀ i,i<p.1.length->sV (p.1.getD i (aK aF)).1=true/\sV (p.1.getD i (aK aF)).2=true) /\
 (∀ i,i<p.2.2.1.length->lX (p.2.2.1.getD i (aK aI))=true/\lX (p.2.2.2.getD i (aK aI))=true)/\∀ i,i<p.2.1.length->aM9 p i
def vJ (p:bI):Bool:=pB (cBR p)
def aIQ:Con:=⟨187,bF,.bool,[.val ⟨true,bF,[]⟩],[⟨false,.bool,[0]⟩],false,none,
 ((fun _=>True):(fF)->Prop),
 ((fun x=>aJI x):(fF)->(Bool))⟩
def aZZ:T:=lC (kD 0) <| gV 1 <| sB .geq (bO aA 0) 0 <| gV 2 <| iS bM (bO aA 0) 5 <| cM 3
theorem aXT:Con.Holds Tryz.prog aIQ:=tk ⟨[],[]⟩ aZZ (aD aAS aL) fun (x:fF) hx hp=>by
 dsimp only [aIQ] at hx hp ⊢
 delta aZZ wI;refine gH ?_
 (refine iC ?_;try with_reducible exact True.intro)
 (repeat' first|intro _|(with_reducible apply And.intro))
 all_goals first|(first|(refine (Bool.eq_false_iff.2 ?_).symm;rw[ne_eq,oT];intro hh;omega)|(refine (oT.2 ?_).symm;omega))|(rw[Bool.eq_iff_iff,oT,decide_eq_true_eq];exact ⟨fun h=>⟨by assumption,by omega,h⟩,fun h=>h.2.2⟩)|(refine (Bool.eq_false_iff.2 fun h=>?_).symm;rw[oT] at h;simp_all)
def aBH:Con:=⟨183,aI,.bool,[.val ⟨true,aI,[]⟩],[⟨false,.bool,[0]⟩],false,none,
 ((fun _=>True):(dK)->Prop),
 ((fun x=>lX x):(dK)->(Bool))⟩
def aTW:T:=iS bM (bO eJ 0) 1 <| eQ 1 <| dY (bO eJ 0) 5 <| eQ 2 <| bT 161 bF xE <| bX (vW .gtr) qN (bO eJ 0) <| eQ 4 <| iN 161 bF xE tI aM <| tE 6 5 7 (bN 161 bF eJ xE 6 <| jE 0 gP 9 10 <| kF fB 1 0 iX) bK
theorem aK4:Con.Holds Tryz.prog aBH:=tk ⟨[(2988,8006,oS 21 5++[.dr 1,.dr 0,.tm 24 0])],[]⟩ aTW (aD aXT aL) fun (x:dK) hx hp=>by
 dsimp only [aBH] at hx hp ⊢
 have hm:List.length x.2<=9223372036854775807:=hx.2.1
 delta aTW aIQ;refine gH ?_
 (refine iC ?_;try with_reducible exact True.intro)
 (repeat' first|intro _|(with_reducible apply And.intro))
 all_goals first|omega|(exact pF fun h=>by have:=h.1;omega)|skip
 refine ⟨fun s=>∃ k:Nat,k<=x.2.length/\s=(k:Int)/\∀ i,i<k->aJI (x.2.getD i (aK bF))=true,fun s=>x.2.length - (s:Int).toNat,⟨0,by omega,rfl,by omega⟩,fun s _ hI=>?_⟩
 obtain ⟨k,hk,rfl,ha⟩:=hI
 refine iC ?_
 constructor
 ·intro hlt
  (repeat' first|intro _|(with_reducible apply And.intro))
  all_goals first|omega|(exact pF fun h=>by have:=h.2 k (by omega);simp_all)|(exact ⟨k+1,by omega,rfl,aET ha (by assumption)⟩)
 ·intro hge
  exact pT ⟨⟨by omega,by omega,by omega⟩,fun i hi=>ha i (by omega)⟩
def aBC:Con:=⟨205,aI,.bool,[.val ⟨true,aI,[]⟩],[⟨false,.bool,[0]⟩],false,none,
 ((fun _=>True):(dK)->Prop),
 ((fun x=>lX x):(dK)->(Bool))⟩
def aUW:T:=dX tI aM 161 bF xE <| eM bM aX 2 <| cG 3 (bN 161 bF eJ xE 1 <| jE 0 (kD 4) 5 6 <| bN 161 bF eJ xE 1 <| kS 1 aQ (iO (bO aA 7) aM 4) 8 9 cL <| kF aX 1 0 gN) <| lY 1 aEO (iO (bO eJ 0) gF 5) <| gV 4 <| bT 161 bF xE <| bX (vW .leq) iR (bO eJ 0) <| cM 6
theorem aK1:Con.Holds Tryz.prog aBC:=tk ⟨[(2993,1001,[.dr 0,.tm 3 0])],[]⟩ aUW (aD mZ (aD mC aL)) fun (x:dK) hx hp=>by
 dsimp only [aBC] at hx hp ⊢
 have hm:List.length x.2<=9223372036854775807:=hx.2.1
 delta aUW lH kY;refine gH ?_
 refine ⟨fun s=>∃ k:Nat,k<=x.2.length/\s=(k:Int)/\∀ i,i<k->aJI (x.2.getD i (aK bF))=true,fun s=>x.2.length - (s:Int).toNat,⟨0,by omega,rfl,by omega⟩,fun s _ hI=>?_⟩
 obtain ⟨k,hk,rfl,ha⟩:=hI
 refine iC ?_
 intro _
 have hi:=oT (x.2.getD k (aK bF))
 constructor
 ·intro hlt
  (repeat' first|intro _|(with_reducible apply And.intro))
  all_goals first|omega|(exact pF fun h=>by have h5:=hi.1 (h.2 k (by omega));first|omega|simp_all)|(exact ⟨k+1,by omega,rfl,aET ha (hi.2 ⟨by assumption,by omega,by omega⟩)⟩)
 ·intro hge
  (repeat' first|intro _|(with_reducible apply And.intro))
  all_goals first|(exact pF fun h=>by have:=h.1;omega)|(unfold lX;rw[Bool.eq_iff_iff,uP,decide_eq_true_eq];exact ⟨fun h=>⟨⟨by omega,by omega,h⟩,fun i hi=>ha i (by omega)⟩,fun h=>h.1.2.2⟩)
def aPN:Con:=⟨181,aR,.bool,[.val ⟨true,aR,[]⟩],[⟨false,.bool,[0]⟩],false,none,
 ((fun _=>True):(bI)->Prop),
 ((fun x=>vJ x):(bI)->(Bool))⟩
def aYC:T:=bT 145 aC oK <| iS bM aX 1 <| eQ 2 <| dY aX 4 <| eQ 3 <| bT 150 aI (aGD 0) <| iA aX 1 <| tM eW 4 5 6 <| bT 150 aI (dH aR 0) <| iA aX 1 <| tM eW 7 8 9 <| kI 77 aF (dT aE iU) bM 10 1 <| eQ 11 <| bT 77 aF (dT aE iU) <| dY kO 5 <| eQ 13 <| iN 77 aF (dT aE iU) tI aM <| uC 15 14 <| cG 16 (bN 77 aF aE (dT aE iU) 15 <| jE 0 (qT aA aA 17) 18 19 <| jE 0 (xA 17) 20 21 <| kF iL 1 0 tP) <| iN 150 aI (aGD 0) tI aM <| uC 18 17 <| cG 19 (bN 150 aI aU (aGD 0) 18 <| jE 1 sG 21 22 <| bN 150 aI aU (dH aR 0) 18 <| jE 1 aBX 24 25 <| kF uA 1 0 sM) <| iN 145 aC oK tI aM <| tE 21 20 22 (bN 145 aC bU oK 21 <| jE 2 aBX 24 25 <| iA aX 1 <| kC vU 21 26 <| dM (.eqv true .bool) .bool .bool (bS 3 23) 27 <| eQ 28 <| iN 158 aQ (bS 1 23) tI aM <| uC 30 29 <| cG 31 (bN 158 aQ bD (bS 1 23) 30 <| iS bM (gJ 32) 0 <| eQ 33 <| bT 77 aF (dT aE iU) <| eM aLE (gJ 32) 34 <| eQ 35 <| rR (.Z 30) 1 0 36) <| rR (.Z 21) 1 1 32) bK
theorem bN1:Con.Holds Tryz.prog aPN:=tk ⟨[(2981,64015,oS 46 11++[.dr 0,.tm 49 0]),(2971,128018,[.dr 65,.dr 64]++oS 50 47++[.tm 67 0]),(2961,256021,[.dr 87]++oS 68 66++[.tm 90 0]),(2943,2304030,[.tm 110 0])],[]⟩ aYC (aD aAS (aD aK4 (aD aF1 aL))) fun (x:bI) hx hp=>by
 dsimp only [aPN] at hx hp ⊢
 obtain ⟨batch,stages,acts,backs⟩:=x
 have hm1:batch.length<=9223372036854775807:=hx.1.1
 have hm2:stages.length<=9223372036854775807:=hx.2.1.1
 have hm3:acts.length<=9223372036854775807:=hx.2.2.1.1
 have hm4:∀ k,k<stages.length->(stages.getD k (aK aC)).2.1.length<=9223372036854775807:=fun k hk=>by rw[aO hk];exact (hx.2.1.2 _ (List.getElem_mem hk)).2.1.1
 delta aYC wI aBH yS;refine gH ?_
 (refine iC ?_;try with_reducible exact True.intro)
 (repeat' first|intro _|(with_reducible apply And.intro))
 all_goals first|omega|(exact pF fun h=>by have:=h.1;dsimp only at this;omega)|skip
 refine ⟨fun s=>∃ k:Nat,k<=batch.length/\s=(k:Int)/\∀ i,i<k->sV (batch.getD i (aK aF)).1=true/\sV (batch.getD i (aK aF)).2=true,fun s=>batch.length - (s:Int).toNat,⟨0,by omega,rfl,by omega⟩,fun s _ hI=>?_⟩
 obtain ⟨k,hk,rfl,ha⟩:=hI
 refine iC ?_
 constructor
 ·intro hlt
  (repeat' first|intro _|(with_reducible apply And.intro))
  all_goals first|omega|(exact pF fun h=>by have:=h.2.1 k (by dsimp only;omega);dsimp only at this;simp_all)|(exact ⟨k+1,by omega,rfl,aET ha ⟨by assumption,by assumption⟩⟩)
 intro hge _
 have hb:∀ i,i<batch.length->sV (batch.getD i (aK aF)).1=true/\sV (batch.getD i (aK aF)).2=true:=fun i hi=>ha i (by omega)
 clear ha
 refine ⟨fun s=>∃ k:Nat,k<=acts.length/\s=(k:Int)/\∀ i,i<k->lX (acts.getD i (aK aI))=true/\lX (backs.getD i (aK aI))=true,fun s=>acts.length - (s:Int).toNat,⟨0,by omega,rfl,by omega⟩,fun s _ hI=>?_⟩
 obtain ⟨k2,hk2,rfl,ha⟩:=hI
 refine iC ?_
 constructor
 ·intro hlt
  (repeat' first|intro _|(with_reducible apply And.intro))
  all_goals first|omega|(exact pF fun h=>by have:=h.2.2.1 k2 (by dsimp only;omega);dsimp only at this;simp_all)|(exact ⟨k2+1,by omega,rfl,aET ha ⟨by assumption,by assumption⟩⟩)
 intro hge2 _
 have hq:∀ i,i<acts.length->lX (acts.getD i (aK aI))=true/\lX (backs.getD i (aK aI))=true:=fun i hi=>ha i (by omega)
 clear ha
 refine ⟨fun s=>∃ k:Nat,k<=stages.length/\s=(k:Int)/\∀ i,i<k->aM9 (batch,stages,acts,backs) i,fun s=>stages.length - (s:Int).toNat,⟨0,by omega,rfl,by omega⟩,fun s _ hI=>?_⟩
 obtain ⟨k3,hk3,rfl,ha⟩:=hI
 simp only[wC,cA7,bSQ,bUN]
 have hm5:=hm4 k3
 constructor
 ·intro hlt
  have bad:¬ aM9 (batch,stages,acts,backs) k3->false=vJ (batch,stages,acts,backs):=fun h=>pF fun hh=>h (hh.2.2.2 k3 (by dsimp only;omega))
  (repeat' first|intro _|(with_reducible apply And.intro))
  all_goals first|omega|(exact bad fun h=>absurd h.2.1 (by assumption))|(exact bad fun h=>Bool.noConfusion (h.1.symm.trans (by assumption:_=false)))|skip
  refine ⟨fun s=>∃ k:Nat,k<=(stages.getD k3 (aK aC)).2.1.length/\s=(k:Int)/\∀ i,i<k->0<=((stages.getD k3 (aK aC)).2.1.getD i (aK aQ)).2/\((stages.getD k3 (aK aC)).2.1.getD i (aK aQ)).2<(batch.length:Int),fun s=>(stages.getD k3 (aK aC)).2.1.length - (s:Int).toNat,⟨0,by omega,rfl,by omega⟩,fun s _ hI=>?_⟩
  obtain ⟨k4,hk4,rfl,hc⟩:=hI
  (refine iC ?_;try with_reducible exact True.intro)
  (repeat' first|intro _|(with_reducible apply And.intro))
  all_goals first|omega|(exact bad fun h=>by have h5:=h.2.2 k4 (by dsimp only;omega);dsimp only at h5;omega)|(exact ⟨k4+1,by omega,rfl,aET hc ⟨by omega,by omega⟩⟩)|(exact ⟨k3+1,by omega,rfl,aET ha ⟨by assumption,by assumption,fun i hi=>hc i (by dsimp only at hi;omega)⟩⟩)
 ·intro hge3
  exact pT ⟨⟨by dsimp only;omega,by dsimp only;omega,by dsimp only;omega,by dsimp only;omega,by dsimp only;omega,by dsimp only;omega⟩,hb,hq,fun i hi=>ha i (by dsimp only at hi;omega)⟩
def aQ0:Con:=⟨203,aR,.bool,[.val ⟨true,aR,[]⟩],[⟨false,.bool,[0]⟩],false,none,
 ((fun _=>True):(bI)->Prop),
 ((fun x=>vJ x):(bI)->(Bool))⟩
def aYN:T:=bT 145 aC oK <| kS 0 aQ (iO aX gF 4) 2 3 cL <| bT 150 aI (aGD 0) <| iA aX 1 <| tM eW 4 5 6 <| bT 150 aI (dH aR 0) <| iA aX 1 <| tM eW 7 8 9 <| bT 77 aF (dT aE iU) <| kS 0 aQ (iO gN gF 5) 11 12 cL <| .loop tI aM <| uC 13 1 <| cG 14 (bN 145 aC bU oK 13 <| jE 1 iL 16 17 <| iA aX 1 <| kC vU 13 18 <| dM (.eqv true .bool) .bool .bool (bS 3 15) 19 <| eQ 20 <| dX tI aM 158 aQ (bS 1 15) <| uC 21 22 <| cG 23 (bN 158 aQ bD (bS 1 15) 21 <| kI 77 aF (dT aE iU) fJ 25 1 <| kS 0 aQ (eE (gJ 24) aM 26) 27 28 cL <| rR (.Z 21) 1 0 29) <| dY jC 0 <| cG 24 (gT fJ 13 1 <| bN 150 aI aU (aGD 0) 25 <| jE 2 sM 27 28 <| gT fJ 13 1 <| bN 150 aI aU (dH aR 0) 29 <| jE 2 (.Z 30) 31 32 <| rR jC 1 1 33) <| rR jC 1 1 25) <| dX tI aM 77 aF (dT aE iU) <| tE 15 16 17 (bN 77 aF aE (dT aE iU) 15 <| jE 3 (qT aA aA 18) 19 20 <| bN 77 aF aE (dT aE iU) 15 <| jE 3 (xA 21) 22 23 <| rR iL 1 0 24) bK
theorem bME:Con.Holds Tryz.prog aQ0:=tk ⟨[(2986,16013,oS 36 8++[.dr 0,.tm 4 0]),(2967,144021,[.tm 6 0]),(2976,32015,oS 39 37++[.dr 4,.dr 3,.tm 7 0])],[]⟩ aYN (aD mC (aD aF7 (aD aK1 (aD mZ aL)))) fun (x:bI) hx hp=>by
 dsimp only [aQ0] at hx hp ⊢
 obtain ⟨batch,stages,acts,backs⟩:=x
 have hm1:batch.length<=9223372036854775807:=hx.1.1
 have hm2:stages.length<=9223372036854775807:=hx.2.1.1
 have hm3:acts.length<=9223372036854775807:=hx.2.2.1.1
 have hm4:∀ k,k<stages.length->(stages.getD k (aK aC)).2.1.length<=9223372036854775807:=fun k hk=>by rw[aO hk];exact (hx.2.1.2 _ (List.getElem_mem hk)).2.1.1
 delta aYN kY yX aBC lH;refine gH ?_
 (refine iC ?_;try with_reducible exact True.intro)
 (repeat' first|intro _|(with_reducible apply And.intro))
 all_goals first|omega|(exact pF fun h=>by have:=h.1;dsimp only at this;omega)|skip
 refine ⟨fun s=>∃ k:Nat,k<=stages.length/\s=(k:Int)/\∀ i,i<k->aM9 (batch,stages,acts,backs) i/\(0<i->lX (acts.getD (i - 1) (aK aI))=true/\lX (backs.getD (i - 1) (aK aI))=true),fun s=>stages.length - (s:Int).toNat,⟨0,by omega,rfl,by omega⟩,fun s _ hI=>?_⟩
 obtain ⟨k3,hk3,rfl,ha⟩:=hI
 simp only[wC,cA7,bSQ,bUN]
 have hm5:=hm4 k3
 constructor
 ·intro hlt
  have bad:¬ aM9 (batch,stages,acts,backs) k3->false=vJ (batch,stages,acts,backs):=fun h=>pF fun hh=>h (hh.2.2.2 k3 (by dsimp only;omega))
  have bad2:0<k3->¬ (lX (acts.getD (k3 - 1) (aK aI))=true/\lX (backs.getD (k3 - 1) (aK aI))=true)->false=vJ (batch,stages,acts,backs):=fun h0 h=>pF fun hh=>h (hh.2.2.1 (k3 - 1) (by have:=hh.1;dsimp only at this ⊢;omega))
  (repeat' first|intro _|(with_reducible apply And.intro))
  all_goals first|omega|(exact bad fun h=>absurd h.2.1 (by assumption))|(exact bad fun h=>Bool.noConfusion (h.1.symm.trans (by assumption:_=false)))|skip
  refine ⟨fun s=>∃ k:Nat,k<=(stages.getD k3 (aK aC)).2.1.length/\s=(k:Int)/\∀ i,i<k->0<=((stages.getD k3 (aK aC)).2.1.getD i (aK aQ)).2/\((stages.getD k3 (aK aC)).2.1.getD i (aK aQ)).2<(batch.length:Int),fun s=>(stages.getD k3 (aK aC)).2.1.length - (s:Int).toNat,⟨0,by omega,rfl,by omega⟩,fun s _ hI=>?_⟩
  obtain ⟨k4,hk4,rfl,hc⟩:=hI
  (refine iC ?_;try with_reducible exact True.intro)
  (repeat' first|intro _|(with_reducible apply And.intro))
  all_goals first|omega|(exact bad fun h=>by have h5:=h.2.2 k4 (by dsimp only;omega);dsimp only at h5;omega)|(exact ⟨k4+1,by omega,rfl,aET hc ⟨by omega,by omega⟩⟩)|(exact bad2 (by omega) fun h=>by simp_all;done)|(exact ⟨k3+1,by omega,rfl,aET ha ⟨⟨by assumption,by assumption,fun i hi=>hc i (by dsimp only at hi;omega)⟩,fun _=>⟨by first|assumption|omega,by first|assumption|omega⟩⟩⟩)
 intro hge3
 have hs:∀ i,i<stages.length->aM9 (batch,stages,acts,backs) i:=fun i hi=>(ha i (by omega)).1
 have hq:∀ i,i<acts.length->lX (acts.getD i (aK aI))=true/\lX (backs.getD i (aK aI))=true:=fun i hi=>(ha (i+1) (by omega)).2 (by omega)
 clear ha
 refine ⟨fun s=>∃ k:Nat,k<=batch.length/\s=(k:Int)/\∀ i,i<k->sV (batch.getD i (aK aF)).1=true/\sV (batch.getD i (aK aF)).2=true,fun s=>batch.length - (s:Int).toNat,⟨0,by omega,rfl,by omega⟩,fun s _ hI=>?_⟩
 obtain ⟨k,hk,rfl,ha⟩:=hI
 refine iC ?_
 intro _
 constructor
 ·intro hlt
  (repeat' first|intro _|(with_reducible apply And.intro))
  all_goals first|omega|(exact pF fun h=>by have:=h.2.1 k (by dsimp only;omega);dsimp only at this;simp_all)|(exact ⟨k+1,by omega,rfl,aET ha ⟨by assumption,by assumption⟩⟩)
 intro hge
 exact pT ⟨⟨by dsimp only;omega,by dsimp only;omega,by dsimp only;omega,by dsimp only;omega,by dsimp only;omega,by dsimp only;omega⟩,fun i hi=>ha i (by dsimp only at hi;omega),hq,hs⟩
end
set_option maxRecDepth 100000
theorem rG:{t:Ty}->{d:t.D}->bC t d<=1000000000->bR2 t d:=by
 intro t
 induction t with
 | int k=>intros;trivial
 | bool=>intros;trivial
 | str=>intros;trivial
 | cD0 a b iha ihb =>
  intro d h
  have h':bC a d.1+bC b d.2<=1000000000:=h
  exact ⟨iha (by omega),ihb (by omega)⟩
 | slice e t ih =>
  intro l h
  exact ⟨Nat.le_trans (wE (e:=e) l) h,fun x hx=>ih (Nat.le_trans (aS6 (e:=e) hx) h)⟩
noncomputable def aBE:Con:=⟨82,aB,aB,[.val ⟨false,aB,[]⟩],[⟨false,aB,[2]⟩],false,none,
 ((fun x=>bC aB x<=1000000000):(aS)->Prop),
 ((fun x=>x):(aS)->(aS))⟩
def aU9:T:=iN 98 bQ cX (kL aB) (rN aB 98 bQ) <| nR aB 2 1 3 (cR 98 bQ aB cX aB 2 <| nV 0 (dH bQ 4) 98 bQ (mkA bQ [lK bF 4,rM 4,tK 4,iR]) <| dM (.cD7 98 bQ 48) aB aB (dN aB 2) 6 <| fE aB 2 1 0 aB 8 7) (dN aB 2)
theorem aJQ:Con.Holds Tryz.prog aBE:=tk ⟨[(2991,1002,[.dr 6,.dr 0,.tm 9 0,.on 3,.sl 1])],[(2981,3005,[22],[])]⟩ aU9 (aD pN aL) fun (x:aS) hx hp=>by
 dsimp only [aBE] at hx hp ⊢
 have hB:=rG (t:=aB) hp
 delta aU9 mS;refine gH ?_;try with_reducible exact True.intro
 (repeat' first|intro _|(with_reducible apply And.intro))
 all_goals first|omega|(unfold maxLen;omega)|skip
 refine fN (fun k=>((k:Int),List.take k x)) (List.length x) rfl fun I μ k hk _ go=>?_
 dsimp only
 refine iC ?_
 by_cases hkn:k<List.length x
 ·have hm:=hB.2 _ (List.getElem_mem hkn)
  have hn:=hB.1
  rw[aO hkn]
  (repeat' first|intro _|(refine go _ ?_ ?_ ?_)|(refine go _ ?_ ?_)|(with_reducible apply And.intro))
  all_goals first|omega|exact hm.2.2.2.1|(simp only[List.length_take];unfold maxLen;omega)|(simp only[List.length_take];omega)|(rw[mE hkn];rfl)
 ·(repeat' first|intro _|(refine go _ ?_ ?_ ?_)|(refine go _ ?_ ?_)|(with_reducible apply And.intro))
  all_goals first|omega|(have e:k=List.length x:=(by omega);subst e;exact List.take_length)
noncomputable def aAH:Con:=⟨56,aB,aB,[.val ⟨false,aB,[]⟩],[⟨false,aB,[2]⟩],false,none,
 ((fun x=>bC aB x<=1000000000):(aS)->Prop),
 ((fun x=>x):(aS)->(aS))⟩
def aZF:T:=dX (kL aB) (rN aB 98 bQ) 98 bQ cX <| nR aB 1 2 3 (cR 98 bQ aB cX aB 1 <| cR 98 bQ aB cX aB 1 <| iT (sS 3 8) aA aA aT (dH bQ 5) <| aLU (kA 98 bQ) bQ [lK bF 4,rM 4,tK 4,fB] <| dM (.cD7 98 bQ 48) aB aB (dN aB 1) 7 <| fE aB 1 1 0 aB 9 8) (dN aB 1)
theorem aI2:Con.Holds Tryz.prog aAH:=tk ⟨[(2991,1001,[.dr 6,.tm 4 0,.on 3,.sl 1])],[(2979,3007,[],[4])]⟩ aZF aL fun (x:aS) hx hp=>by
 dsimp only [aAH] at hx hp ⊢
 have hB:=rG (t:=aB) hp
 delta aZF;refine gH ?_;try with_reducible exact True.intro
 (repeat' first|intro _|(with_reducible apply And.intro))
 all_goals first|omega|(unfold maxLen;omega)|skip
 refine fN (fun k=>((k:Int),List.take k x)) (List.length x) rfl fun I μ k hk _ go=>?_
 dsimp only
 refine iC ?_
 by_cases hkn:k<List.length x
 ·have hm:=hB.2 _ (List.getElem_mem hkn)
  have hn:=hB.1
  rw[aO hkn]
  (repeat' first|intro _|(refine go _ ?_ ?_ ?_)|(refine go _ ?_ ?_)|(with_reducible apply And.intro))
  all_goals first|omega|(have hn2:=hm.2.2.2.1;omega)|(have hn2:=hm.2.2.2.1;unfold maxLen;omega)|(simp only[List.length_take];unfold maxLen;omega)|(simp only[List.length_take];omega)|(rw[mE hkn];rfl)
 ·(repeat' first|intro _|(refine go _ ?_ ?_ ?_)|(refine go _ ?_ ?_)|(with_reducible apply And.intro))
  all_goals first|omega|(have e:k=List.length x:=(by omega);subst e;exact List.take_length)
noncomputable section
set_option maxRecDepth 100000
theorem aW9 {e:TypeId} {l:dG} (h:bR2 (.slice e eF) l):List.length l<=1000000000/\∀ y∈l,List.length y<=1000000000:=⟨h.1,fun y hy=>(h.2 y hy).1⟩
theorem bJT {g:dV} (h:bR2 aG g):yM g:=aW9 h.1
def aQ3:fF:=aK bF
def yY (q:dK) (x:fF):dK × Bool:=if lX q=true/\aJI x=true/\(q.2.length:Int)<q.1 then ((q.1,q.2++[x]),true) else (q,false)
def xR (q:dK):dK × (fF × Bool):=if lX q=true/\0<q.2.length then ((q.1,q.2.drop 1),q.2.getD 0 aQ3,true) else (q,aQ3,false)
theorem oV {q:dK} {x:fF} (h:lX q=false\/aJI x=false\/¬ (q.2.length:Int)<q.1):(q,false)=yY q x:=by
 unfold yY;rw[if_neg]
 rintro ⟨h1,h2,h3⟩
 rcases h with h|h|h
 ·rw[h] at h1;cases h1
 ·rw[h] at h2;cases h2
 ·exact h h3
theorem uV {q:dK} {x:fF} (h1:lX q=true) (h2:aJI x=true) (h3:(q.2.length:Int)<q.1):((q.1,q.2++[x]),true)=yY q x:=by unfold yY;rw[if_pos ⟨h1,h2,h3⟩]
theorem aKV {q:dK} (h:lX q=false\/q.2.length=0):(q,(0,[]),false)=xR q:=by
 unfold xR;rw[if_neg]
 ·rfl
 rintro ⟨h1,h2⟩
 rcases h with h|h
 ·rw[h] at h1;cases h1
 ·omega
theorem xZ {q:dK} (h1:lX q=true) (h2:0<q.2.length):((q.1,q.2.drop 1),q.2.getD 0 aQ3,true)=xR q:=by unfold xR;rw[if_pos ⟨h1,h2⟩]
theorem aKI {x:fF} (h:sV x.2=false\/x.1<0\/4<x.1):aJI x=false:=by
 refine Bool.eq_false_iff.2 fun hh=>?_
 rw[oT] at hh
 rcases h with h|h
 ·rw[h] at hh;cases hh.1
 ·omega
theorem bFV {x:fF} (h:sV x.2=true) (h2:0<=x.1) (h3:x.1<5):aJI x=true:=(oT _).2 ⟨h,h2,h3⟩
theorem aJO {x:fF} (h:aJI x=true):x.2.length<=6:=((eC _).1 ((oT _).1 h).1).2.1
theorem aMW {q:dK} (h:lX q=true):(q.2.length:Int)<=q.1/\q.2.length<=5:=by have:=(uP.1 h).1;omega
theorem aFL {q:dK} (h:lX q=true) (h2:0<q.2.length):(q.2.getD 0 (aK bF)).2.length<=6:=aJO ((uP.1 h).2 0 h2)
def yU (l:List qZ) (m:Int):Nat->Int
 | 0=>-1
 | k+1=>if yU l m k = -1/\(l.getD k (aK aY)).1=m then (k:Int) else yU l m k
def jH (l:List qZ) (m:Int):Int:=yU l m l.length
theorem aLM (l:List qZ) (m:Int):(k:Nat)->-1<=yU l m k/\yU l m k<k
 | 0=>by unfold yU;omega
 | k+1=>by
  have:=aLM l m k
  unfold yU;split <;> omega
theorem bAS {l : List qZ} {m : Int} : {k n : Nat} -> k <= n -> yU l m k ≠ -1 -> yU l m n = yU l m k
  | k, 0, h, _ => by have : k = 0 := by omega
                     subst this; rfl
  | k, n + 1, h, hk => by
    rcases Nat.lt_or_eq_of_le h with h | rfl
    · have e := bAS (Nat.le_of_lt_succ h) hk
      rw [yU, if_neg (fun hh => hk (e ▸ hh.1)), e]
    · rfl
theorem aTN {l:List qZ} {m:Int} {k:Nat} (hk:k<l.length) (h:yU l m k = -1) (hm:(l.getD k (aK aY)).1=m):(k:Int)=jH l m:=by
 have e:yU l m (k+1)=k:=by rw[yU,if_pos ⟨h,hm⟩]
 unfold jH
 rw[bAS (k:=k+1) hk (by omega),e]
theorem aSS {l:List qZ} {m:Int} {k:Nat} (h:yU l m k = -1) (hm:¬ (l.getD k (aK aY)).1=m):yU l m (k+1) = -1:=by rw[yU,if_neg (fun hh=>hm hh.2),h]
def xK:Con:=⟨69,aE,aE,[.val ⟨false,aE,[]⟩],[⟨false,aE,[2]⟩],false,none,
 ((fun x=>bC aE x<=1000000000):(bW)->Prop),
 ((fun x=>x):(bW)->(bW))⟩
def aNP:T:=iN 77 aF cX (kL aE) (rN aE 77 aF) <| nR aE 2 1 3 (cR 77 aF aE cX aE 2 <| gG 0 aA aA 4 <| lC (xA 4) <| dM (kA 77 aF) aA aA iR 6 <| dM (.cD7 77 aF 48) aE aE (dN aE 2) 7 <| fE aE 2 1 0 aE 9 8) (dN aE 2)
theorem aGE:Con.Holds Tryz.prog xK:=tk ⟨[(2991,1002,[.dr 6,.dr 0,.tm 9 0,.on 3,.sl 1])],[(2981,3005,[19,16],[])]⟩ aNP (aD pN aL) fun (x:bW) hx hp=>by
 dsimp only [xK] at hx hp ⊢
 have hB:=rG (t:=aE) hp
 delta aNP mS;refine gH ?_;try with_reducible exact True.intro
 (repeat' first|intro _|(with_reducible apply And.intro))
 all_goals first|omega|(unfold maxLen;omega)|skip
 refine fN (fun k=>((k:Int),List.take k x)) (List.length x) rfl fun I μ k hk _ go=>?_
 dsimp only
 refine iC ?_
 by_cases hkn:k<List.length x
 ·have hm:=hB.2 _ (List.getElem_mem hkn)
  have hn:=hB.1
  rw[aO hkn]
  (repeat' first|intro _|(refine go _ ?_ ?_ ?_)|(refine go _ ?_ ?_)|(with_reducible apply And.intro))
  all_goals first|omega|exact hm.1.1|exact hm.2.1|(simp only[List.length_take];unfold maxLen;omega)|(simp only[List.length_take];omega)|(rw[mE hkn];rfl)
 ·(repeat' first|intro _|(refine go _ ?_ ?_ ?_)|(refine go _ ?_ ?_)|(with_reducible apply And.intro))
  all_goals first|omega|(have e:k=List.length x:=(by omega);subst e;exact List.take_length)
def xG:Con:=⟨180,aI,aI,[.val ⟨true,aI,[]⟩],[⟨true,aI,[0,2]⟩],false,none,
 ((fun x=>bC aI x<=1000000000):(dK)->Prop),
 ((fun x=>x):(dK)->(dK))⟩
def aNR:T:=iN 161 bF xE aI (rN eJ 161 bF) <| nR eJ 2 1 3 (cR 161 bF eJ xE eJ 2 <| lC (kD 4) <| dM (kA 161 bF) tI aA (bO aA 4) 5 <| tN 161 bF eJ eJ (tC 2) 6 <| fE eJ 2 1 0 eJ 8 7) (rB eJ (bO eJ 0) (tC 2))
theorem aGQ:Con.Holds Tryz.prog xG:=tk ⟨[(2991,1002,oS 9 6++[.dr 1,.dr 0,.tm 12 0,.sl 6])],[(2981,3005,[22],[])]⟩ aNR (aD pN aL) fun (x:dK) hx hp=>by
 dsimp only [xG] at hx hp ⊢
 obtain ⟨c,l⟩:=x
 have hB:=(rG (t:=aI) hp).2
 have hn:List.length l<=1000000000:=hB.1
 delta aNR mS;refine gH ?_;try with_reducible exact True.intro
 (repeat' first|intro _|(with_reducible apply And.intro))
 all_goals first|omega|(unfold maxLen;omega)|skip
 refine fN (fun k=>((k:Int),List.take k l)) (List.length l) rfl fun I μ k hk _ go=>?_
 dsimp only
 refine iC ?_
 by_cases hkn:k<List.length l
 ·have hm:=hB.2 _ (List.getElem_mem hkn)
  have hn:=hB.1
  rw[aO hkn]
  (repeat' first|intro _|(refine go _ ?_ ?_ ?_)|(refine go _ ?_ ?_)|(with_reducible apply And.intro))
  all_goals first|omega|exact hm.2.1|(simp only[List.length_take];unfold maxLen;omega)|(simp only[List.length_take];omega)|(rw[mE hkn];rfl)
 ·(repeat' first|intro _|(refine go _ ?_ ?_ ?_)|(refine go _ ?_ ?_)|(with_reducible apply And.intro))
  all_goals first|omega|(have e:k=List.length l:=(by omega);subst e;exact congrArg (Prod.mk c) List.take_length)
def aBM:Con:=⟨165,aI,aI,[.val ⟨true,aI,[]⟩],[⟨true,aI,[0,2]⟩],false,none,
 ((fun x=>bC aI x<=1000000000):(dK)->Prop),
 ((fun x=>x):(dK)->(dK))⟩
def aUN:T:=dX aI (rN eJ 161 bF) 161 bF xE <| nR eJ 1 2 3 (cR 161 bF eJ xE eJ 1 <| cR 161 bF eJ xE eJ 1 <| iT (sS 3 8) aA aA aT (kD 5) <| dM (kA 161 bF) tI aA (bO aA 4) 6 <| tN 161 bF eJ eJ (tC 1) 7 <| fE eJ 1 1 0 eJ 9 8) (rB eJ (bO eJ 0) (tC 1))
theorem aLV:Con.Holds Tryz.prog aBM:=tk ⟨[(2991,1001,[.dr 5,.dr 0,.tm 4 0,.on 3,.sl 4])],[(2983,3004,[27],[])]⟩ aUN aL fun (x:dK) hx hp=>by
 dsimp only [aBM] at hx hp ⊢
 obtain ⟨c,l⟩:=x
 have hB:=(rG (t:=aI) hp).2
 have hn:List.length l<=1000000000:=hB.1
 delta aUN;refine gH ?_;try with_reducible exact True.intro
 (repeat' first|intro _|(with_reducible apply And.intro))
 all_goals first|omega|(unfold maxLen;omega)|skip
 refine fN (fun k=>((k:Int),List.take k l)) (List.length l) rfl fun I μ k hk _ go=>?_
 dsimp only
 refine iC ?_
 by_cases hkn:k<List.length l
 ·have hm:=hB.2 _ (List.getElem_mem hkn)
  have hn:=hB.1
  have hn2:=hm.2.1
  rw[aO hkn]
  (repeat' first|intro _|(refine go _ ?_ ?_ ?_)|(refine go _ ?_ ?_)|(with_reducible apply And.intro))
  all_goals first|omega|(unfold maxLen;omega)|(simp only[List.length_take];unfold maxLen;omega)|(simp only[List.length_take];omega)|(rw[mE hkn];rfl)
 ·(repeat' first|intro _|(refine go _ ?_ ?_ ?_)|(refine go _ ?_ ?_)|(with_reducible apply And.intro))
  all_goals first|omega|(have e:k=List.length l:=(by omega);subst e;exact congrArg (Prod.mk c) List.take_length)
def aYL:Con:=⟨128,(.cD0 aI bF),(.cD0 aI .bool),[.val ⟨true,aI,[]⟩,.val ⟨true,bF,[]⟩],[⟨true,aI,[0,2]⟩,⟨false,.bool,[0]⟩],false,none,
 ((fun x=>bC aI x.1<=1000000000):(dK × fF)->Prop),
 ((fun x=>yY x.1 x.2):(dK × fF)->(dK × Bool))⟩
def bHO:T:=gG 0 aI bF 0 <| nD 1 (dT aI bF) 2 3 aI aX <| nD 2 (gK aI bF 1) 4 5 aI aX <| bT 161 bF (kG aI 1 aI bF) <| bX vU fB (iM tI eJ aI bF 0) <| cE 7 (vH aI aX) <| .call 3 (gK aI bF 2) <| dM (kA 161 bF) tI aA (mW aI bF 0) 8 <| tN 161 bF eJ eJ (tC 1) 9 <| .ret (aLG aI (rB eJ (bO eJ 1) gN) bK)
theorem bU7:Con.Holds Tryz.prog aYL:=tk ⟨[],[(2989,8008,[32],[])]⟩ bHO (aD aGQ (aD aK4 (aD aXT (aD pN aL)))) fun (x:dK × fF) hx hp=>by
 dsimp only [aYL] at hx hp ⊢
 obtain ⟨q,y⟩:=x
 have hB:=rG (t:=aI) hp
 delta bHO xG aBH aIQ mS;refine gH ?_
 refine ⟨hp,fun _=>?_⟩
 (repeat' first|intro _|(with_reducible apply And.intro))
 all_goals simp only[wC] at *
 all_goals try have hqq:=aMW (by assumption)
 all_goals try have hq8:=aFL (by assumption) (by omega)
 all_goals try have hq6:=aJO (by assumption)
 all_goals try have hq7:=(eC _).1 (by assumption)
 all_goals first|omega|(unfold maxLen;omega)|exact oV (.inl (by assumption))|exact oV (.inr (.inl (by assumption)))|exact oV (.inr (.inr (by omega)))|exact aKV (.inl (by assumption))|exact aKV (.inr (by omega))|exact uV (by assumption) (by assumption) (by omega)|exact xZ (by assumption) (by omega)|(rw[List.take_length];exact xZ (by assumption) (by omega))|exact oV (.inr (.inl (aKI (.inl (by assumption)))))|exact oV (.inr (.inl (aKI (.inr (by omega)))))|exact uV (by assumption) (bFV (by assumption) (by omega) (by omega)) (by omega)|skip
def xP:Con:=⟨186,(.cD0 (.slice 200 aY) tI),tI,[.val ⟨false,(.slice 200 aY),[]⟩,.val ⟨false,tI,[]⟩],[⟨false,tI,[0]⟩],false,none,
 ((fun _=>True):((List qZ) × Int)->Prop),
 ((fun x=>jH x.1 x.2):((List qZ) × Int)->(Int))⟩
def aNE:T:=iN 200 aY (pC bJ) tI aM <| tE 2 1 3 (bN 200 aY bJ (pC bJ) 2 <| bX vU (bO aJ 4) (iD bJ 1 0) <| cE 5 iZ <| kF iZ 1 0 fB) (dR (-1))
theorem aGI:Con.Holds Tryz.prog xP:=tk ⟨[(2993,1002,[.dr 0,.tm 9 0])],[]⟩ aNE aL fun (x:(List qZ) × Int) hx hp=>by
 dsimp only [xP] at hx hp ⊢
 obtain ⟨l,m⟩:=x
 have hm:l.length<=9223372036854775807:=hx.1.1
 delta aNE;refine gH ?_;try with_reducible exact True.intro
 (repeat' first|intro _|(with_reducible apply And.intro))
 all_goals first|omega|(unfold maxLen;omega)|skip
 refine xL (fun k=>(k:Int)) (fun k=>yU l m k = -1) (List.length l) rfl rfl fun I μ k hk hg _ go=>?_
 try dsimp only
 (refine iC ?_;try with_reducible exact True.intro)
 (repeat' first|intro _|(refine go _ ?_ ?_ ?_)|(refine go _ ?_ ?_)|(with_reducible apply And.intro))
 all_goals first|omega|exact aTN (by omega) hg (by assumption)|exact aSS hg (by assumption)|rfl|(have e:k=List.length l:=(by omega);subst e;exact hg.symm)
def xY:Con:=⟨207,(.cD0 (.slice 200 aY) tI),tI,[.val ⟨false,(.slice 200 aY),[]⟩,.val ⟨false,tI,[]⟩],[⟨false,tI,[0]⟩],false,none,
 ((fun _=>True):((List qZ) × Int)->Prop),
 ((fun x=>jH x.1 x.2):((List qZ) × Int)->(Int))⟩
def aNL:T:=dX tI aM 200 aY (pC bJ) <| kR bM aX 2 3 (bN 200 aY bJ (pC bJ) 1 <| bX vU (bO aJ 4) (iD bJ 1 0) <| cE 5 aX <| kF aX 1 0 fB) (dR (-1))
theorem aGL:Con.Holds Tryz.prog xY:=tk ⟨[(2993,1001,[.tm 5 0])],[]⟩ aNL aL fun (x:(List qZ) × Int) hx hp=>by
 dsimp only [xY] at hx hp ⊢
 obtain ⟨l,m⟩:=x
 have hm:l.length<=9223372036854775807:=hx.1.1
 delta aNL;refine gH ?_;try with_reducible exact True.intro
 (repeat' first|intro _|(with_reducible apply And.intro))
 all_goals first|omega|(unfold maxLen;omega)|skip
 refine xL (fun k=>(k:Int)) (fun k=>yU l m k = -1) (List.length l) rfl rfl fun I μ k hk hg _ go=>?_
 try dsimp only
 (refine iC ?_;try with_reducible exact True.intro)
 (repeat' first|intro _|(refine go _ ?_ ?_ ?_)|(refine go _ ?_ ?_)|(with_reducible apply And.intro))
 all_goals first|omega|exact aTN (by omega) hg (by assumption)|exact aSS hg (by assumption)|rfl|(have e:k=List.length l:=(by omega);subst e;exact hg.symm)
def aWV:Con:=⟨170,(.cD0 aI bF),(.cD0 aI .bool),[.val ⟨true,aI,[]⟩,.val ⟨true,bF,[]⟩],[⟨true,aI,[0,2]⟩,⟨false,.bool,[0]⟩],false,none,
 ((fun x=>bC aI x.1<=1000000000):(dK × fF)->Prop),
 ((fun x=>yY x.1 x.2):(dK × fF)->(dK × Bool))⟩
def bK8:T:=gG 0 aI bF 0 <| nD 1 (dT aI bF) 2 3 aI aX <| bT 161 bF (kG aI 1 aI bF) <| bX aLE gD (iM tI eJ aI bF 0) <| cE 5 (vH aI aX) <| nD 2 (gK aI bF 2) 6 7 aI aX <| kS 3 aQ (iO (mW aI bF 0) aM 4) 8 9 (vH aI aX) <| iT (sS 3 8) aA aA aT (gK aI bF 2) <| dM (kA 161 bF) tI aA (mW aI bF 0) 10 <| tN 161 bF eJ eJ (tC 1) 11 <| .ret (aLG aI (rB eJ (bO eJ 1) kO) bK)
theorem bWF:Con.Holds Tryz.prog aWV:=tk ⟨[],[(2989,16010,[40],[])]⟩ bK8 (aD aLV (aD aK1 (aD mZ (aD mC aL)))) fun (x:dK × fF) hx hp=>by
 dsimp only [aWV] at hx hp ⊢
 obtain ⟨q,y⟩:=x
 have hB:=rG (t:=aI) hp
 delta bK8 aBM aBC lH kY;refine gH ?_
 refine ⟨hp,fun _=>?_⟩
 (repeat' first|intro _|(with_reducible apply And.intro))
 all_goals simp only[wC] at *
 all_goals try have hqq:=aMW (by assumption)
 all_goals try have hq8:=aFL (by assumption) (by omega)
 all_goals try have hq6:=aJO (by assumption)
 all_goals try have hq7:=(eC _).1 (by assumption)
 all_goals first|omega|(unfold maxLen;omega)|exact oV (.inl (by assumption))|exact oV (.inr (.inl (by assumption)))|exact oV (.inr (.inr (by omega)))|exact aKV (.inl (by assumption))|exact aKV (.inr (by omega))|exact uV (by assumption) (by assumption) (by omega)|exact xZ (by assumption) (by omega)|(rw[List.take_length];exact xZ (by assumption) (by omega))|exact oV (.inr (.inl (aKI (.inl (by assumption)))))|exact oV (.inr (.inl (aKI (.inr (by omega)))))|exact uV (by assumption) (bFV (by assumption) (by omega) (by omega)) (by omega)|skip
def bH5:Con:=⟨126,aI,(.cD0 aI (.cD0 bF .bool)),[.val ⟨true,aI,[]⟩],[⟨true,aI,[0,0]⟩,⟨true,bF,[0,0]⟩,⟨false,.bool,[0]⟩],false,none,
 ((fun x=>bC aI x<=1000000000):(dK)->Prop),
 ((fun x=>xR x):(dK)->(dK × (fF × Bool)))⟩
def bPX:T:=dE 0 0 <| dC 1 cX 2 3 (cO (aJV aI bF) aX (gM aA aT) cL) <| bT 161 bF xE <| oR gD 0 <| cE 5 (cO (aJV aI bF) aX (gM aA aT) cL) <| dP 161 bF eJ (tC 1) aM <| dP 161 bF eJ (tC 1) aM <| bT 161 bF (tC 1) <| aGP 161 bF eJ (tC 1) gF 8 <| fA (aJV aI bF) (rB eJ (bO eJ 1) mT) lN bK
theorem bZG:Con.Holds Tryz.prog bH5:=tk ⟨[],[(2987,4008,[],[6])]⟩ bPX (aD aGQ (aD aK4 aL)) fun (x:dK) hx hp=>by
 dsimp only [bH5] at hx hp ⊢
 have hB:=rG (t:=aI) hp
 delta bPX xG aBH;refine gH ?_
 refine ⟨hp,fun _=>?_⟩
 (repeat' first|intro _|(with_reducible apply And.intro))
 all_goals simp only[wC] at *
 all_goals try have hqq:=aMW (by assumption)
 all_goals try have hq8:=aFL (by assumption) (by omega)
 all_goals try have hq6:=aJO (by assumption)
 all_goals try have hq7:=(eC _).1 (by assumption)
 all_goals first|omega|(unfold maxLen;omega)|exact oV (.inl (by assumption))|exact oV (.inr (.inl (by assumption)))|exact oV (.inr (.inr (by omega)))|exact aKV (.inl (by assumption))|exact aKV (.inr (by omega))|exact uV (by assumption) (by assumption) (by omega)|exact xZ (by assumption) (by omega)|(rw[List.take_length];exact xZ (by assumption) (by omega))|exact oV (.inr (.inl (aKI (.inl (by assumption)))))|exact oV (.inr (.inl (aKI (.inr (by omega)))))|exact uV (by assumption) (bFV (by assumption) (by omega) (by omega)) (by omega)|skip
def bF5:Con:=⟨168,aI,(.cD0 aI (.cD0 bF .bool)),[.val ⟨true,aI,[]⟩],[⟨true,aI,[0,0]⟩,⟨true,bF,[0,0]⟩,⟨false,.bool,[0]⟩],false,none,
 ((fun x=>bC aI x<=1000000000):(dK)->Prop),
 ((fun x=>xR x):(dK)->(dK × (fF × Bool)))⟩
def bQI:T:=dE 0 0 <| dC 1 cX 2 3 (cO (aJV aI bF) aX (gM aA aT) cL) <| bT 161 bF xE <| oR gD 0 <| cE 5 (cO (aJV aI bF) aX (gM aA aT) cL) <| dP 161 bF eJ xE aM <| bT 161 bF (tC 1) <| aGP 161 bF eJ (tC 1) gF 7 <| iT (sS 3 8) aA aA aT (kD 6) <| fA (aJV aI bF) (rB eJ (bO eJ 1) gP) (rB aA (bO aA 6) mT) bK
theorem bXU:Con.Holds Tryz.prog bF5:=tk ⟨[],[(2987,4007,[],[6])]⟩ bQI (aD aLV (aD aK1 aL)) fun (x:dK) hx hp=>by
 dsimp only [bF5] at hx hp ⊢
 have hB:=rG (t:=aI) hp
 delta bQI aBM aBC;refine gH ?_
 refine ⟨hp,fun _=>?_⟩
 (repeat' first|intro _|(with_reducible apply And.intro))
 all_goals simp only[wC] at *
 all_goals try have hqq:=aMW (by assumption)
 all_goals try have hq8:=aFL (by assumption) (by omega)
 all_goals try have hq6:=aJO (by assumption)
 all_goals try have hq7:=(eC _).1 (by assumption)
 all_goals first|omega|(unfold maxLen;omega)|exact oV (.inl (by assumption))|exact oV (.inr (.inl (by assumption)))|exact oV (.inr (.inr (by omega)))|exact aKV (.inl (by assumption))|exact aKV (.inr (by omega))|exact uV (by assumption) (by assumption) (by omega)|exact xZ (by assumption) (by omega)|(rw[List.take_length];exact xZ (by assumption) (by omega))|exact oV (.inr (.inl (aKI (.inl (by assumption)))))|exact oV (.inr (.inl (aKI (.inr (by omega)))))|exact uV (by assumption) (bFV (by assumption) (by omega) (by omega)) (by omega)|skip
end
set_option maxRecDepth 100000
abbrev aIP:Ty:=.slice 200 aY
theorem mP (s:bH):bC aC s=bC bD s.2.1+(bC aB s.2.2.1+(bC aIP s.2.2.2.2.2.1+(bC aJ s.2.2.2.2.2.2.1+(s.2.2.2.2.2.2.2.1.length+(s.2.2.2.2.2.2.2.2.1.length+(s.2.2.2.2.2.2.2.2.2.1.length+(s.2.2.2.2.2.2.2.2.2.2.1.length+bC aJ s.2.2.2.2.2.2.2.2.2.2.2.1))))))):=by
 have e:bC aC s=0+(bC bD s.2.1+(bC aB s.2.2.1+(0+(0+(bC aIP s.2.2.2.2.2.1+(bC aJ s.2.2.2.2.2.2.1+(bC aA s.2.2.2.2.2.2.2.1+(bC aA s.2.2.2.2.2.2.2.2.1+(bC aA s.2.2.2.2.2.2.2.2.2.1+(bC aA s.2.2.2.2.2.2.2.2.2.2.1+(bC aJ s.2.2.2.2.2.2.2.2.2.2.2.1+(0+0)))))))))))):=rfl
 rw[gY,gY,gY,gY] at e
 omega
theorem bVJ {pc:Int} {plan:List eZ} {ops:List dU} {last redo:Bool} {stash:List qZ} {full:dG} {X Y G D:List Int} {sr:dG} {sl:Int} {ss:Bool} (h:bC aC (pc,plan,ops,last,redo,stash,full,X,Y,G,D,sr,sl,ss)<=1000000000) :
  List.length plan<=1000000000/\bC aB ops<=1000000000/\List.length stash<=1000000000/\(∀ x∈stash,List.length x.2<=1000000000/\∀ y∈x.2,List.length y<=1000000000)/\(List.length full<=1000000000/\∀ y∈full,List.length y<=1000000000) /\
  List.length X<=1000000000/\List.length Y<=1000000000/\List.length G<=1000000000/\List.length D<=1000000000/\(List.length sr<=1000000000/\∀ y∈sr,List.length y<=1000000000):=by
 have hz:=h
 rw[mP] at hz
 dsimp only at hz
 obtain ⟨_,⟨hplan,_⟩,_,_,_,hst,hfull,⟨hX,_⟩,⟨hY,_⟩,⟨hG,_⟩,⟨hD,_⟩,hsr,_⟩:=rG (t:=aC) h
 exact ⟨hplan,by omega,hst.1,fun x hx=>aW9 (hst.2 x hx).2,aW9 hfull,hX,hY,hG,hD,aW9 hsr⟩
theorem bXB {e:TypeId} {t:Ty} (a b:List t.D):bC (.slice e t) (a++b)=bC (.slice e t) a+bC (.slice e t) b:=by
 rw[dL,dL,dL,List.map_append,List.sum_append,List.length_append];omega
theorem bUF {e:TypeId} {t:Ty} (x:t.D):bC (.slice e t) [x]=1+bC t x:=by rw[dL];simp
theorem aTF {e:TypeId} {t:Ty} (x d:t.D) (c:Nat):(l:List t.D)->(i:Nat)->(i<l.length->bC t x<=bC t (l.getD i d)+c)->bC (.slice e t) (l.set i x)<=bC (.slice e t) l+c
 | [],i,_=>by simp only[List.set_nil];omega
 | a :: l,0,h=>by
  have h1:bC t x<=bC t a+c:=h (Nat.zero_lt_succ _)
  rw[List.set_cons_zero,dL,dL]
  simp only[List.map_cons,List.sum_cons,List.length_cons];omega
 | a :: l,i+1,h=>by
  have h1:=aTF (e:=e) x d c l i fun hi=>h (Nat.succ_lt_succ hi)
  rw[dL,dL] at h1
  rw[List.set_cons_succ,dL,dL]
  simp only[List.map_cons,List.sum_cons,List.length_cons];omega
theorem bFM {e:TypeId} {r:dG} {n c:Nat} (h1:r.length<=n) (h2:∀ y∈r,List.length y<=c):bC (.slice e eF) r<=n+n * c:=by
 have h:=aPI (bC eF) c r fun y hy=>by have e1:=gY y;have e2:bC eF y=bC aA y:=rfl;have:=h2 y hy;omega
 have h3:r.length * c<=n * c:=Nat.mul_le_mul_right _ h1
 rw[dL];omega
theorem bDE {α:Type} {n:Nat} (g:Nat->α) (h:n<=6):(mp n g).length<=6:=by rw[eX];exact h
theorem aTG (f:Int->Int->Int × Bool) (a b:List Int):(qE f a b).1.length<=6:=by
 unfold qE;split
 ·exact bDE _ (tW (by assumption)).1
 ·exact Nat.zero_le _
theorem aYT (c:Int) (a:List Int):(aED c a).1.length<=6:=by
 unfold aED;split
 ·rename_i h;exact bDE _ ((eC a).1 h.2).2.1
 ·exact Nat.zero_le _
theorem bGP (a:List Int):(aB4 a).length<=6:=by
 unfold aB4;split
 ·rename_i h;exact bDE _ ((eC a).1 h).2.1
 ·exact Nat.zero_le _
theorem bF1 (x d:List Int):(aB1 x d).length<=6:=by
 unfold aB1;split
 ·exact bDE _ (tW (by assumption)).1
 ·exact Nat.zero_le _
theorem bKV (m:aK2) (x:List Int):(tQ m x).1.length<=6:=by
 unfold tQ;split
 ·rename_i h
  obtain ⟨R,C,data,rfl,h1,h2,h3,h4,h5⟩:=wQ h.1
  exact bDE _ (by show (R:Int).toNat<=6;omega)
 ·exact Nat.zero_le _
theorem bET (m:aK2) (x:List Int):(pQ m x).1.length<=6:=by
 unfold pQ;split
 ·rename_i h
  obtain ⟨R,C,data,rfl,h1,h2,h3,h4,h5⟩:=wQ h.1
  exact bDE _ (by show (C:Int).toNat<=6;omega)
 ·exact Nat.zero_le _
theorem bNF (o:dU) (x:List Int):(sX o x).1.length<=6:=by
 unfold sX
 split
 ·exact Nat.zero_le _
 split
 ·exact bKV _ _
 split
 ·exact aTG _ _ _
 split
 ·exact aYT _ _
 split
 ·exact aTG _ _ _
 ·exact bGP _
theorem bM7 (o:dU) (x d:List Int):(lR o x d).1.length<=6:=by
 unfold lR
 split
 ·exact Nat.zero_le _
 split
 ·exact bET _ _
 split
 ·rename_i h _ _
  exact ((eC d).1 ((cP _ _).1 (Decidable.not_not.1 h).2.2).1).2.1
 split
 ·exact aYT _ _
 split
 ·exact aTG _ _ _
 ·exact bF1 _ _
theorem aH2 (m:List dU) (x:List Int) (hx:x.length<=6):(k:Nat)->∀ y∈(jD m x k).1,List.length y<=6
 | 0,y,hy=>by
  obtain rfl:y=x:=by simpa [jD] using hy
  exact hx
 | k+1,y,hy=>by
  rw[jD,List.mem_append] at hy
  rcases hy with hy|hy
  ·exact aH2 m x hx k y hy
  ·obtain rfl:y=_:=List.mem_singleton.1 hy
   exact bNF _ _
theorem bPU {α:Type} {l:List α} {i:Nat} {d:α} (h:l.length<=i):l.getD i d=d:=by rw[List.getD_eq_getElem?_getD,List.getElem?_eq_none h];rfl
theorem aSA {r:dG} (h:∀ y∈r,List.length y<=6) (i:Nat):(r.getD i []).length<=6:=by
 by_cases hi:i<r.length
 ·rw[aO hi];exact h _ (List.getElem_mem hi)
 ·rw[bPU (by omega)];exact Nat.zero_le _
theorem bNR (m:List dU) (r:dG) (d:List Int) (n:Nat) (hd:d.length<=6):(k:Nat)->(iI m r d n k).2.1.length<=6
 | 0=>hd
 | k+1=>bM7 _ _ _
theorem aXP {e:TypeId}:(a b:dG)->bC (.slice e eF) (eV a b)<=bC (.slice e eF) a
 | [],b=>by simp[eV]
 | a :: l,[]=>by simp[eV,dL]
 | a :: l,b :: m=>by
  have h:=aXP (e:=e) l m
  have h1:bC eF (aAU a b)<=bC eF a:=by
   have e1:=gY (aAU a b)
   have e2:=gY a
   have e3:=aBG a b
   have e4:bC eF (aAU a b)=bC aA (aAU a b):=rfl
   have e5:bC eF a=bC aA a:=rfl
   omega
  have e:eV (a :: l) (b :: m)=aAU a b :: eV l m:=rfl
  rw[dL,dL] at h
  rw[e,dL,dL]
  simp only[List.map_cons,List.sum_cons,List.length_cons];omega
def bJ5 (s:bH) (m:Int) (x t:List Int):Bool:=jA s&&(dJ x (jP s.2.2.1)&&(decide (jH s.2.2.2.2.2.1 m<0)&&(!s.2.2.2.1 || dJ t (eN s.2.2.1))))
def aND (s:bH) (x:List Int):List Int:=(jD s.2.2.1 x s.2.2.1.length).1.getD s.2.2.1.length []
def aBI (redo:Bool) (r:dG):dG:=if redo=true then r.take 1 else r
def aVJ (s:bH) (m:Int) (x t:List Int):bH :=
 (s.1,s.2.1,s.2.2.1,s.2.2.2.1,s.2.2.2.2.1,s.2.2.2.2.2.1++[(m,aBI s.2.2.2.2.1 (jD s.2.2.1 x s.2.2.1.length).1)],s.2.2.2.2.2.2.1,[],
  (if s.2.2.2.1=true then s.2.2.2.2.2.2.2.2.1 else aND s x),s.2.2.2.2.2.2.2.2.2.1,s.2.2.2.2.2.2.2.2.2.2.1,s.2.2.2.2.2.2.2.2.2.2.2.1,
  (if s.2.2.2.1=true then (gI s.2.2.2.2.2.2.2.2.2.2.2.2.1 (qQ (aND s x) t).1).1 else s.2.2.2.2.2.2.2.2.2.2.2.2.1),
  (s.2.2.2.2.2.2.2.2.2.2.2.2.2 || (jD s.2.2.1 x s.2.2.1.length).2 || (s.2.2.2.1&&((qQ (aND s x) t).2 || (gI s.2.2.2.2.2.2.2.2.2.2.2.2.1 (qQ (aND s x) t).1).2))))
def aCB (s:bH) (m:Int) (x t:List Int):bH:=if bJ5 s m x t=true then aVJ s m x t else s
def xM (s:bH) (m:Int):bH:=if jA s=true/\0<=jH s.2.2.2.2.2.1 m then
 (s.1,s.2.1,s.2.2.1,s.2.2.2.1,s.2.2.2.2.1,s.2.2.2.2.2.1,(jD s.2.2.1 ((s.2.2.2.2.2.1.getD (jH s.2.2.2.2.2.1 m).toNat (aK aY)).2.getD 0 []) s.2.2.1.length).1,s.2.2.2.2.2.2.2) else s
def sW (s:bH) (m:Int):dG:=if s.2.2.2.2.1=true then s.2.2.2.2.2.2.1 else (s.2.2.2.2.2.1.getD (jH s.2.2.2.2.2.1 m).toNat (aK aY)).2
def mM (s:bH) (m:Int) (t:List Int):List Int × Bool:=if s.2.2.2.1=true then qE fC ((sW s m).getD s.2.2.1.length []) t else (s.2.2.2.2.2.2.2.2.2.1,false)
def aNZ (m:List dU) (r:dG):Bool:=decide (r.length=m.length+1)&&aBW m r m.length
def aU6 (s:bH) (m:Int) (t:List Int):Bool:=jA s&&(decide (0<=jH s.2.2.2.2.2.1 m)&&(aNZ s.2.2.1 (sW s m)&&dJ (mM s m t).1 (eN s.2.2.1)))
def aQT (s:bH) (m:Int) (t:List Int):bH :=
 (s.1,s.2.1,s.2.2.1,s.2.2.2.1,s.2.2.2.2.1,s.2.2.2.2.2.1.take (jH s.2.2.2.2.2.1 m).toNat++s.2.2.2.2.2.1.drop ((jH s.2.2.2.2.2.1 m).toNat+1),[],s.2.2.2.2.2.2.2.1,s.2.2.2.2.2.2.2.2.1,[],
  (kH s.2.2.1 (sW s m) (mM s m t).1).2.1,qP s.2.2.2.2.2.2.2.2.2.2.2 ((kH s.2.2.1 (sW s m) (mM s m t).1).1,0,(mM s m t).2 || (kH s.2.2.1 (sW s m) (mM s m t).1).2.2))
def xQ (s:bH) (m:Int) (t:List Int):bH:=if aU6 s m t=true then aQT s m t else s
theorem aRH {v:List Int} {n:Int} (h:dJ v n=true):v.length<=6:=((eC _).1 ((cP _ _).1 h).1).2.1
theorem aG3 {s:bH} {m:Int} {x t:List Int} (h:jA s=false\/dJ x (jP s.2.2.1)=false\/0<=jH s.2.2.2.2.2.1 m\/(s.2.2.2.1=true/\dJ t (eN s.2.2.1)=false)):s=aCB s m x t:=by
 unfold aCB;rw[if_neg]
 unfold bJ5
 simp only[Bool.and_eq_true,Bool.or_eq_true,decide_eq_true_eq,Bool.not_eq_true']
 rintro ⟨h1,h2,h3,h4⟩
 rcases h with h|h|h|⟨h,h'⟩
 ·rw[h] at h1;cases h1
 ·rw[h] at h2;cases h2
 ·omega
 ·rw[h,h'] at h4;simp at h4
theorem aWD {s:bH} {m:Int} {x t:List Int} (h1:jA s=true) (h2:dJ x (jP s.2.2.1)=true) (h3:jH s.2.2.2.2.2.1 m<0) (h4:s.2.2.2.1=true->dJ t (eN s.2.2.1)=true):aVJ s m x t=aCB s m x t:=by
 unfold aCB;rw[if_pos]
 unfold bJ5
 simp only[Bool.and_eq_true,Bool.or_eq_true,decide_eq_true_eq,Bool.not_eq_true']
 refine ⟨h1,h2,h3,?_⟩
 cases hh:s.2.2.2.1
 ·exact .inl rfl
 ·exact .inr (h4 hh)
theorem aVR {s:bH} {m:Int} {x t:List Int} {st:List qZ} {l:Int} {b:Bool} (hla:s.2.2.2.1=true) (e1:st=s.2.2.2.2.2.1++[(m,aBI s.2.2.2.2.1 (jD s.2.2.1 x s.2.2.1.length).1)])
  (e3:l=(gI s.2.2.2.2.2.2.2.2.2.2.2.2.1 (qQ (List.getD (jD s.2.2.1 x s.2.2.1.length).1 (List.length s.2.2.1) (aK aA)) t).1).1)
  (e4:b=(s.2.2.2.2.2.2.2.2.2.2.2.2.2 || (jD s.2.2.1 x s.2.2.1.length).2 || ((qQ (List.getD (jD s.2.2.1 x s.2.2.1.length).1 (List.length s.2.2.1) (aK aA)) t).2 || (gI s.2.2.2.2.2.2.2.2.2.2.2.2.1 (qQ (List.getD (jD s.2.2.1 x s.2.2.1.length).1 (List.length s.2.2.1) (aK aA)) t).1).2))) :
  (s.1,s.2.1,s.2.2.1,s.2.2.2.1,s.2.2.2.2.1,st,s.2.2.2.2.2.2.1,([]:List Int),s.2.2.2.2.2.2.2.2.1,s.2.2.2.2.2.2.2.2.2.1,s.2.2.2.2.2.2.2.2.2.2.1,s.2.2.2.2.2.2.2.2.2.2.2.1,l,b)=aVJ s m x t:=by
 subst e1 e3 e4;unfold aVJ;rw[hla];rfl
theorem aW6 {s:bH} {m:Int} {x t:List Int} {st:List qZ} {b:Bool} (hla:s.2.2.2.1=false) (e1:st=s.2.2.2.2.2.1++[(m,aBI s.2.2.2.2.1 (jD s.2.2.1 x s.2.2.1.length).1)])
  (e4:b=(s.2.2.2.2.2.2.2.2.2.2.2.2.2 || (jD s.2.2.1 x s.2.2.1.length).2)) :
  (s.1,s.2.1,s.2.2.1,s.2.2.2.1,s.2.2.2.2.1,st,s.2.2.2.2.2.2.1,([]:List Int),(List.getD (jD s.2.2.1 x s.2.2.1.length).1 (List.length s.2.2.1) (aK aA)),s.2.2.2.2.2.2.2.2.2.1,s.2.2.2.2.2.2.2.2.2.2.1,s.2.2.2.2.2.2.2.2.2.2.2.1,s.2.2.2.2.2.2.2.2.2.2.2.2.1,b)=aVJ s m x t:=by
 subst e1 e4;unfold aVJ;rw[hla];simp;rfl
theorem bQE {a b c d:Bool} (h:a=true):true=(a || b || (c || d)):=by rw[h];rfl
theorem bPN {a b c d:Bool} (h:b=true):true=(a || b || (c || d)):=by rw[h];simp
theorem bQ6 {a b c d:Bool} (h:c=true):true=(a || b || (c || d)):=by rw[h];simp
theorem bP3 {a b c d:Bool} (h1:a=false) (h2:b=false) (h3:c=false):d=(a || b || (c || d)):=by rw[h1,h2,h3];simp
theorem bF4 {r:dG} {b:Bool} (h:b=true):List.drop 0 (List.take 1 r)=aBI b r:=by subst h;rfl
theorem bGN {r:dG} {b:Bool} (h:b=false):r=aBI b r:=by subst h;rfl
noncomputable def tU:Con:=⟨179,aC,aC,[.val ⟨true,aC,[]⟩],[⟨true,aC,[0,2,2,0,0,2,2,2,2,2,2,2,0,0]⟩],false,none,
 ((fun x=>bC aC x<=1000000000):(bH)->Prop),
 ((fun x=>x):(bH)->(bH))⟩
def aNO:T:=iT (aY7 aQ 16) bD bD uQ (fU 1) <| lC uK <| iN 200 aY (fU 5) (kL bJ) (rN bJ 200 aY) <| sT bJ 4 3 5 (cR 200 aY bJ (fU 5) bJ 4 <| .call 1 (jY 6) <| dM uI tI aJ (bO aJ 6) 7 <| tN 200 aY bJ bJ (dN bJ 4) 8 <| fE bJ 4 1 0 bJ 10 9) <| .call 1 (fU 6) <| .call 2 (fU 7) <| .call 2 (fU 8) <| .call 2 (fU 9) <| .call 2 (fU 10) <| .call 3 (fV aC 11 0) <| lT [aOL 0,aX,iZ,fU 3,fU 4,dN bJ 4,fB,lN,gP,mT,gN,iX]
theorem aAZ:Con.Holds Tryz.prog tU:=tk ⟨[(2991,1004,[.dr 20,.dr 19,.dr 14,.dr 11,.dr 8,.dr 18,.dr 16,.dr 13,.dr 10,.dr 7,.dr 17,.dr 15,.dr 12,.dr 9,.dr 6,.dr 0,.tm 23 0,.sl 24])],[(2981,3007,[33],[])]⟩ aNO (aD aJQ (aD aCG (aD pN (aD bBS aL)))) fun (x:bH) hx hp=>by
 dsimp only [tU] at hx hp ⊢
 obtain ⟨pc,plan,ops,last,redo,stash,full,X,Y,G,D,sr,sl,ss⟩:=x
 obtain ⟨hplan,hops,hst,hstm,⟨hfull,hfullm⟩,hX,hY,hG,hD,⟨hsr,hsrm⟩⟩:=bVJ hp
 delta aNO aBE wJ mS aGN;refine gH ?_;try with_reducible exact True.intro
 (repeat' first|intro _|(with_reducible apply And.intro))
 all_goals first|omega|(unfold maxLen;omega)|(simp only[List.length_nil];omega)|(simp only[List.length_nil];unfold maxLen;omega)|skip
 refine fN (fun k=>((k:Int),List.take k stash)) (List.length stash) rfl fun I μ k hk _ go=>?_
 dsimp only
 refine iC ?_
 by_cases hkn:k<List.length stash
 ·have hm:=hstm _ (List.getElem_mem hkn)
  rw[aO hkn]
  (repeat' first|intro _|(refine go _ ?_ ?_ ?_)|(refine go _ ?_ ?_)|(with_reducible apply And.intro))
  all_goals first|omega|exact hm.1|exact hm.2 _ (by assumption)|(simp only[List.length_take];unfold maxLen;omega)|(simp only[List.length_take];omega)|(rw[mE hkn];rfl)
 ·(repeat' first|intro _|(refine go _ ?_ ?_ ?_)|(refine go _ ?_ ?_)|(with_reducible apply And.intro))
  all_goals first|omega|(have e:k=List.length stash:=(by omega);subst e;first|exact hfullm _ (by assumption)|exact hsrm _ (by assumption)|exact ⟨hsr,hsrm⟩|omega|(unfold maxLen;omega)|(simp only[List.length_nil];omega)|(simp only[List.length_nil];unfold maxLen;omega)|(simp only[List.take_length,List.nil_append];done)|skip)|skip
noncomputable def yZ:Con:=⟨164,aC,aC,[.val ⟨true,aC,[]⟩],[⟨true,aC,[0,2,2,0,0,2,2,2,2,2,2,2,0,0]⟩],false,none,
 ((fun x=>bC aC x<=1000000000):(bH)->Prop),
 ((fun x=>x):(bH)->(bH))⟩
def aV1:T:=lC uK <| iT (aY7 aQ 16) bD bD uQ (fU 1) <| dX (kL bJ) (rN bJ 200 aY) 200 aY (fU 5) <| sT bJ 3 4 5 (cR 200 aY bJ (fU 5) bJ 3 <| cR 200 aY bJ (fU 5) bJ 3 <| .call 1 (jY 7) <| dM uI tI aJ (bO aJ 6) 8 <| tN 200 aY bJ bJ (dN bJ 3) 9 <| fE bJ 3 1 0 bJ 11 10) <| .call 1 (fU 6) <| iT (sS 3 8) aA aA aT (fU 7) <| iT (sS 3 8) aA aA aT (fU 8) <| iT (sS 3 8) aA aA aT (fU 9) <| iT (sS 3 8) aA aA aT (fU 10) <| .call 1 (fU 11) <| lT [aOL 0,iZ,aX,fU 3,fU 4,dN bJ 3,fB,lN,gP,mT,gN,iX,fV aC 12 0]
theorem aFF:Con.Holds Tryz.prog yZ:=tk ⟨[(2985,1003,oS 16 5++[.dr 0,.tm 4 0,.sl 24])],[(2977,3006,[38],[])]⟩ aV1 (aD aI2 (aD aU7 aL)) fun (x:bH) hx hp=>by
 dsimp only [yZ] at hx hp ⊢
 obtain ⟨pc,plan,ops,last,redo,stash,full,X,Y,G,D,sr,sl,ss⟩:=x
 obtain ⟨hplan,hops,hst,hstm,⟨hfull,hfullm⟩,hX,hY,hG,hD,⟨hsr,hsrm⟩⟩:=bVJ hp
 delta aV1 aAH aEY;refine gH ?_;try with_reducible exact True.intro
 (repeat' first|intro _|(with_reducible apply And.intro))
 all_goals first|omega|(unfold maxLen;omega)|(simp only[List.length_nil];omega)|(simp only[List.length_nil];unfold maxLen;omega)|skip
 refine fN (fun k=>((k:Int),List.take k stash)) (List.length stash) rfl fun I μ k hk _ go=>?_
 dsimp only
 refine iC ?_
 by_cases hkn:k<List.length stash
 ·have hm:=hstm _ (List.getElem_mem hkn)
  rw[aO hkn]
  (repeat' first|intro _|(refine go _ ?_ ?_ ?_)|(refine go _ ?_ ?_)|(with_reducible apply And.intro))
  all_goals first|omega|exact hm.1|exact hm.2 _ (by assumption)|(simp only[List.length_take];unfold maxLen;omega)|(simp only[List.length_take];omega)|(rw[mE hkn];rfl)
 ·(repeat' first|intro _|(refine go _ ?_ ?_ ?_)|(refine go _ ?_ ?_)|(with_reducible apply And.intro))
  all_goals first|omega|(have e:k=List.length stash:=(by omega);subst e;first|exact hfullm _ (by assumption)|exact hsrm _ (by assumption)|exact ⟨hsr,hsrm⟩|omega|(unfold maxLen;omega)|(simp only[List.length_nil];omega)|(simp only[List.length_nil];unfold maxLen;omega)|(simp only[List.take_length,List.nil_append];done)|skip)|skip
set_option maxRecDepth 100000
noncomputable def aIB:Con:=⟨127,(.cD0 aC (.cD0 tI aF)),aC,[.val ⟨true,aC,[]⟩,.val ⟨false,tI,[]⟩,.val ⟨false,aA,[]⟩,.val ⟨false,aA,[]⟩],[⟨true,aC,[0,2,2,0,0,2,2,2,2,2,2,2,0,0]⟩],false,none,
 ((fun x=>bC aC x.1<=1000000000):(bH × (Int × bA))->Prop),
 ((fun x=>aCB x.1 x.2.1 x.2.2.1 x.2.2.2):(bH × (Int × bA))->(bH))⟩
def aR0:T:=lC (zW aC aF 0) <| .call 1 (zW aC aF 0) <| dC 2 (zW aC aF 0) 3 4 aX <| dE 3 2 <| dC 4 (qO aA (gL aC aF 2 0) iR) 6 7 aX <| cI 5 bJ (mO aC 5 aC aF 0) (gL aC aF 1 0) <| sB .geq gP 0 <| cE 9 aX <| .ite (mO aC 3 aC aF 0) (dE 6 2 <| dC 4 (qO aA (uJ aC aF 0) gN) 11 12 aX <| eI 7 aB iZ (gL aC aF 2 0) <| bT 98 bQ (mO aC 2 aC aF 0) <| kZ (oZ 13) 14 <| kZ (oZ 13) 14 <| .ite (mO aC 4 aC aF 0) (aD3 117 aA aJ (iO (oZ 13) aM 1) <| dE 8 17 <| dM uI tI aJ (gL aC aF 1 0) 18 <| tN 200 aY bJ bJ cY 19 <| .ite (fV aC 13 1) (aG2 (mO aC 3 aC aF 0) <| cG 21 (dE 9 16 <| lT [fT,fS,fO,fR,fP,sG,iJ,aT,tP,iW,jV,jW,sK,bK]) <| eI 10 aA kT (uJ aC aF 0) <| cI 11 tI sK (cS 22) <| lT [fT,fS,fO,fR,fP,sG,iJ,aT,jZ,iW,jV,jW,cS 23,bK]) <| aG2 (mO aC 3 aC aF 0) <| cG 21 (dE 9 16 <| lT [fT,fS,fO,fR,fP,sG,iJ,aT,tP,iW,jV,jW,sK,kP aJ 1 13]) <| eI 10 aA kT (uJ aC aF 0) <| cI 11 tI sK (cS 22) <| jJ aJ 1 13 (lT [fT,fS,fO,fR,fP,sG,iJ,aT,jZ,iW,jV,jW,cS 23,bK]) <| jJ tI 1 22 (lT [fT,fS,fO,fR,fP,sG,iJ,aT,jZ,iW,jV,jW,cS 23,bK]) <| lT [fT,fS,fO,fR,fP,sG,iJ,aT,jZ,iW,jV,jW,aBX]) <| .call 8 (oZ 13) <| dM uI tI aJ (gL aC aF 1 0) 17 <| tN 200 aY bJ bJ cY 18 <| .ite (fV aC 13 1) (aG2 (mO aC 3 aC aF 0) <| cG 20 (dE 9 16 <| lT [fT,fS,fO,fR,fP,pK,iJ,aT,.Z 21,iW,jV,jW,sK,bK]) <| eI 10 aA kT (uJ aC aF 0) <| cI 11 tI sK (cS 21) <| lT [fT,fS,fO,fR,fP,pK,iJ,aT,jZ,iW,jV,jW,cS 22,bK]) <| aG2 (mO aC 3 aC aF 0) <| cG 20 (dE 9 16 <| lT [fT,fS,fO,fR,fP,pK,iJ,aT,.Z 21,iW,jV,jW,sK,kP aJ 1 13]) <| eI 10 aA kT (uJ aC aF 0) <| cI 11 tI sK (cS 21) <| jJ aJ 1 13 (lT [fT,fS,fO,fR,fP,pK,iJ,aT,jZ,iW,jV,jW,cS 22,bK]) <| jJ tI 1 21 (lT [fT,fS,fO,fR,fP,pK,iJ,aT,jZ,iW,jV,jW,cS 22,bK]) <| lT [fT,fS,fO,fR,fP,pK,iJ,aT,jZ,iW,jV,jW,tP]) <| eI 7 aB iZ (gL aC aF 2 0) <| bT 98 bQ (mO aC 2 aC aF 0) <| kZ (oZ 10) 11 <| kZ (oZ 10) 11 <| .ite (mO aC 4 aC aF 0) (aD3 117 aA aJ (iO (oZ 10) aM 1) <| dE 8 14 <| dM uI tI aJ (gL aC aF 1 0) 15 <| tN 200 aY bJ bJ cY 16 <| .ite (fV aC 13 1) (aG2 (mO aC 3 aC aF 0) <| cG 18 (dE 9 13 <| lT [fT,fS,fO,fR,fP,mV,iJ,aT,pK,iW,jV,jW,sK,bK]) <| eI 10 aA jC (uJ aC aF 0) <| cI 11 tI sK (cS 19) <| lT [fT,fS,fO,fR,fP,mV,iJ,aT,jZ,iW,jV,jW,cS 20,bK]) <| aG2 (mO aC 3 aC aF 0) <| cG 18 (dE 9 13 <| lT [fT,fS,fO,fR,fP,mV,iJ,aT,pK,iW,jV,jW,sK,kP aJ 1 10]) <| eI 10 aA jC (uJ aC aF 0) <| cI 11 tI sK (cS 19) <| jJ aJ 1 10 (lT [fT,fS,fO,fR,fP,mV,iJ,aT,jZ,iW,jV,jW,cS 20,bK]) <| jJ tI 1 19 (lT [fT,fS,fO,fR,fP,mV,iJ,aT,jZ,iW,jV,jW,cS 20,bK]) <| lT [fT,fS,fO,fR,fP,mV,iJ,aT,jZ,iW,jV,jW,sG]) <| .call 8 (oZ 10) <| dM uI tI aJ (gL aC aF 1 0) 14 <| tN 200 aY bJ bJ cY 15 <| .ite (fV aC 13 1) (aG2 (mO aC 3 aC aF 0) <| cG 17 (dE 9 13 <| lT [fT,fS,fO,fR,fP,kT,iJ,aT,uA,iW,jV,jW,sK,bK]) <| eI 10 aA jC (uJ aC aF 0) <| cI 11 tI sK (cS 18) <| lT [fT,fS,fO,fR,fP,kT,iJ,aT,jZ,iW,jV,jW,cS 19,bK]) <| aG2 (mO aC 3 aC aF 0) <| cG 17 (dE 9 13 <| lT [fT,fS,fO,fR,fP,kT,iJ,aT,uA,iW,jV,jW,sK,kP aJ 1 10]) <| eI 10 aA jC (uJ aC aF 0) <| cI 11 tI sK (cS 18) <| jJ aJ 1 10 (lT [fT,fS,fO,fR,fP,kT,iJ,aT,jZ,iW,jV,jW,cS 19,bK]) <| jJ tI 1 18 (lT [fT,fS,fO,fR,fP,kT,iJ,aT,jZ,iW,jV,jW,cS 19,bK]) <| lT [fT,fS,fO,fR,fP,kT,iJ,aT,jZ,iW,jV,jW,pK]
theorem bFX:Con.Holds Tryz.prog aIB:=tk ⟨[],[(2973,104017,[],[33]),(2971,104018,[73],[]),(2971,72017,[73],[]),(2973,48014,[],[33]),(2971,48015,[73],[]),(2971,32014,[73],[])]⟩ aR0 (aD aAZ (aD aF5 (aD aF1 (aD aQL (aD rY (aD aGI (aD aME (aD aOQ (aD aCG (aD pN (aD aY8 (aD aIY aL)))))))))))) fun (x:bH × (Int × bA)) hx hp=>by
 dsimp only [aIB] at hx hp ⊢
 obtain ⟨s,m,v,t⟩:=x
 delta aR0 tU yR yS aH1 qC xP aCS aD8 wJ mS aHQ aAV;refine gH ?_
 refine iC ?_
 refine ⟨hp,fun _ _=>⟨fun h=>aG3 (.inl h),fun h1 _=>⟨fun h=>aG3 (.inr (.inl h)),fun h2 _=>⟨fun h=>aG3 (.inr (.inr (.inl h))),fun h3=>?_⟩⟩⟩⟩
 have hm:=(dB s).1 h1
 rw[show oX s.2.2.1 v=_ from if_pos ⟨hm.1,h2⟩]
 have hl:=tR s.2.2.1 v s.2.2.1.length
 have hx6:=aRH h2
 have hn8:=((bR _).1 hm.1).2.1
 have h6:=aH2 s.2.2.1 v hx6 s.2.2.1.length
 have hy6:(List.getD (jD s.2.2.1 v s.2.2.1.length).1 s.2.2.1.length (aK aA)).length<=6:=aSA h6 _
 have hst:=(rG (t:=aC) hp).2.2.2.2.2.1.1
 replace hst:List.length s.2.2.2.2.2.1<=1000000000:=hst
 constructor
 ·intro hla _
  refine ⟨fun h=>aG3 (.inr (.inr (.inr ⟨hla,h⟩))),fun h4=>?_⟩
  have hy:=aWD h1 h2 h3 (fun _=>h4)
  (repeat' first|intro _|(with_reducible apply And.intro))
  all_goals first|omega|exact Bool.noConfusion ((by assumption:s.2.2.2.1=true).symm.trans (by assumption:s.2.2.2.1=false))|(unfold maxLen;omega)|(simp only[List.drop_zero,List.length_take];omega)|exact Nat.le_trans (h6 _ (by assumption)) (by decide)|exact Nat.le_trans (h6 _ (List.mem_of_mem_take (by assumption))) (by decide)|skip
  all_goals first|exact Bool.noConfusion ((by assumption:s.2.2.2.1=true).symm.trans (by assumption:s.2.2.2.1=false))|refine (aVR (by assumption) ?_ ?_ ?_).trans hy|refine (aW6 (by assumption) ?_ ?_).trans hy
  all_goals first|rfl|(rw[<- bF4 (by assumption)])|(rw[<- bGN (by assumption)])|exact bQE (by assumption)|exact bPN (by assumption)|exact bQ6 (by assumption)|exact bP3 (by assumption) (by assumption) (by assumption)|exact qW (by assumption)|exact wW (by assumption)|(simp[*];done)|skip
 ·intro hla
  have hy:=aWD (t:=t) h1 h2 h3 (fun h=>absurd h (by simp[hla]))
  (repeat' first|intro _|(with_reducible apply And.intro))
  all_goals first|omega|exact Bool.noConfusion ((by assumption:s.2.2.2.1=true).symm.trans (by assumption:s.2.2.2.1=false))|(unfold maxLen;omega)|(simp only[List.drop_zero,List.length_take];omega)|exact Nat.le_trans (h6 _ (by assumption)) (by decide)|exact Nat.le_trans (h6 _ (List.mem_of_mem_take (by assumption))) (by decide)|skip
  all_goals first|exact Bool.noConfusion ((by assumption:s.2.2.2.1=true).symm.trans (by assumption:s.2.2.2.1=false))|refine (aVR (by assumption) ?_ ?_ ?_).trans hy|refine (aW6 (by assumption) ?_ ?_).trans hy
  all_goals first|rfl|(rw[<- bF4 (by assumption)])|(rw[<- bGN (by assumption)])|exact bQE (by assumption)|exact bPN (by assumption)|exact bQ6 (by assumption)|exact bP3 (by assumption) (by assumption) (by assumption)|exact qW (by assumption)|exact wW (by assumption)|(simp[*];done)|skip
noncomputable def aIL:Con:=⟨169,(.cD0 aC (.cD0 tI aF)),aC,[.val ⟨true,aC,[]⟩,.val ⟨false,tI,[]⟩,.val ⟨false,aA,[]⟩,.val ⟨false,aA,[]⟩],[⟨true,aC,[0,0,0,0,0,0,0,0,0,0,0,0,0,0]⟩],false,none,
 ((fun x=>bC aC x.1<=1000000000):(bH × (Int × bA))->Prop),
 ((fun x=>aCB x.1 x.2.1 x.2.2.1 x.2.2.2):(bH × (Int × bA))->(bH))⟩
def aQM:T:=lC (zW aC aF 0) <| dC 1 (zW aC aF 0) 2 3 aX <| dC 2 (gL aC aF 2 0) 4 5 aX <| cN (gL aC aF 2 0) <| dP 98 bQ aB (mO aC 2 aC aF 0) aM <| bX eW fB (rM 7) <| cE 8 aX <| cI 3 bJ (mO aC 5 aC aF 0) (gL aC aF 1 0) <| sB .geq mT 0 <| cE 10 aX <| .ite (mO aC 3 aC aF 0) (dC 2 (uJ aC aF 0) 11 12 aX <| cN (uJ aC aF 0) <| kI 98 bQ (mO aC 2 aC aF 0) fJ 14 1 <| bN 98 bQ aB (mO aC 2 aC aF 0) 15 <| tL eW jC 16 <| cE 17 aX <| eI 4 aB (mO aC 2 aC aF 0) (gL aC aF 2 0) <| kI 117 aA aEL fJ 19 1 <| kZ aEL 20 <| kZ aEL 20 <| .ite (prA aC 13 (zW aC aF 0)) (eI 5 aA tP (uJ aC aF 0) <| cI 6 tI (mO aC 12 aC aF 0) (cS 23) <| .ite (mO aC 4 aC aF 0) (aD3 117 aA aJ (iO aEL aM 1) <| dM uI tI aJ (gL aC aF 1 0) 25 <| pR 200 aY bJ bJ cY 26 [fT,fS,fO,fR,fP,.Z 27,iJ,aT,jZ,iW,jV,jW,cS 24,bK]) <| iT uI tI aJ (gL aC aF 1 0) aEL <| pR 200 aY bJ bJ cY 25 [fT,fS,fO,fR,fP,sM,iJ,aT,jZ,iW,jV,jW,cS 24,bK]) <| eI 5 aA tP (uJ aC aF 0) <| cI 6 tI (mO aC 12 aC aF 0) (cS 23) <| jJ aJ 1 18 (.ite (mO aC 4 aC aF 0) (aD3 117 aA aJ (iO aEL aM 1) <| dM uI tI aJ (gL aC aF 1 0) 25 <| pR 200 aY bJ bJ cY 26 [fT,fS,fO,fR,fP,.Z 27,iJ,aT,jZ,iW,jV,jW,cS 24,bK]) <| iT uI tI aJ (gL aC aF 1 0) aEL <| pR 200 aY bJ bJ cY 25 [fT,fS,fO,fR,fP,sM,iJ,aT,jZ,iW,jV,jW,cS 24,bK]) <| jJ tI 1 23 (.ite (mO aC 4 aC aF 0) (aD3 117 aA aJ (iO aEL aM 1) <| dM uI tI aJ (gL aC aF 1 0) 25 <| pR 200 aY bJ bJ cY 26 [fT,fS,fO,fR,fP,.Z 27,iJ,aT,jZ,iW,jV,jW,cS 24,bK]) <| iT uI tI aJ (gL aC aF 1 0) aEL <| pR 200 aY bJ bJ cY 25 [fT,fS,fO,fR,fP,sM,iJ,aT,jZ,iW,jV,jW,cS 24,bK]) <| .ite (mO aC 4 aC aF 0) (aD3 117 aA aJ (iO aEL aM 1) <| dM uI tI aJ (gL aC aF 1 0) 25 <| pR 200 aY bJ bJ cY 26 [fT,fS,fO,fR,fP,.Z 27,iJ,aT,jZ,iW,jV,jW,.Z 24]) <| iT uI tI aJ (gL aC aF 1 0) aEL <| pR 200 aY bJ bJ cY 25 [fT,fS,fO,fR,fP,sM,iJ,aT,jZ,iW,jV,jW,.Z 24]) <| eI 4 aB (mO aC 2 aC aF 0) (gL aC aF 2 0) <| kI 117 aA (oZ 11) fJ 12 1 <| kZ (oZ 11) 13 <| kZ (oZ 11) 13 <| .ite (prA aC 13 (zW aC aF 0)) (kB 3 8 aA aA aT 15 <| .ite (mO aC 4 aC aF 0) (aD3 117 aA aJ (iO (oZ 11) aM 1) <| dM uI tI aJ (gL aC aF 1 0) 17 <| pR 200 aY bJ bJ cY 18 [fT,fS,fO,fR,fP,pK,iJ,aT,kT,iW,jV,jW,sK,bK]) <| iT uI tI aJ (gL aC aF 1 0) (oZ 11) <| pR 200 aY bJ bJ cY 17 [fT,fS,fO,fR,fP,uA,iJ,aT,kT,iW,jV,jW,sK,bK]) <| kB 3 8 aA aA aT 15 <| .ite (mO aC 4 aC aF 0) (aD3 117 aA aJ (iO (oZ 11) aM 1) <| dM uI tI aJ (gL aC aF 1 0) 17 <| pR 200 aY bJ bJ cY 18 [fT,fS,fO,fR,fP,pK,iJ,aT,kT,iW,jV,jW,sK,kP aJ 1 11]) <| iT uI tI aJ (gL aC aF 1 0) (oZ 11) <| pR 200 aY bJ bJ cY 17 [fT,fS,fO,fR,fP,uA,iJ,aT,kT,iW,jV,jW,sK,kP aJ 1 11]
set_option maxHeartbeats 1000000 in
theorem bGL:Con.Holds Tryz.prog aIL:=tk ⟨[],[(2967,912025,[],[31]),(2965,656025,[],[31]),(2967,1808025,[],[31]),(2965,1296025,[],[31]),(2967,3600025,[],[31]),(2965,2576025,[],[31]),(2967,3088025,[],[31]),(2965,2064025,[],[31]),(2973,224017,[],[31]),(2971,160017,[],[31]),(2973,192017,[],[31]),(2971,128017,[],[31])]⟩ aQM (aD aFF (aD aF7 (aD mZ (aD aGL (aD aI4 (aD aX9 (aD aDA aL))))))) fun (x:bH × (Int × bA)) hx hp=>by
 dsimp only [aIL] at hx hp ⊢
 obtain ⟨s,m,v,t⟩:=x
 delta aQM yZ yX lH xY zV aJD yI;refine gH ?_
 refine iC ?_
 refine ⟨hp,fun _=>⟨fun h=>aG3 (.inl h),fun h1=>⟨fun h=>aG3 (.inr (.inl (aJX h).symm)),fun hv _=>?_⟩⟩⟩
 have hm:=(dB s).1 h1
 have hn8:=((bR _).1 hm.1)
 have hin:(List.getD s.2.2.1 0 (aK bQ)).2.1=jP s.2.2.1:=by unfold jP;rw[if_pos hm.1];rfl
 have hou:(List.getD s.2.2.1 (s.2.2.1.length - 1) (aK bQ)).2.2.1=eN s.2.2.1:=by unfold eN;rw[if_pos hm.1];rfl
 rw[hin]
 refine ⟨⟨by omega,by omega⟩,fun _=>⟨fun h=>aG3 (.inr (.inl (Bool.eq_false_iff.2 fun hh=>h ((cP _ _).1 hh).2))),fun hv2 _=>⟨fun h=>aG3 (.inr (.inr (.inl h))),fun h3=>?_⟩⟩⟩
 have h2:dJ v (jP s.2.2.1)=true:=(cP _ _).2 ⟨hv,hv2⟩
 have hl:=tR s.2.2.1 v s.2.2.1.length
 have hx6:=aRH h2
 have h6:=aH2 s.2.2.1 v hx6 s.2.2.1.length
 have hy6:(List.getD (jD s.2.2.1 v s.2.2.1.length).1 s.2.2.1.length (aK aA)).length<=6:=aSA h6 _
 have hst:=(rG (t:=aC) hp).2.2.2.2.2.1.1
 replace hst:List.length s.2.2.2.2.2.1<=1000000000:=hst
 constructor
 ·intro hla
  refine ⟨fun h=>aG3 (.inr (.inr (.inr ⟨hla,(aJX h).symm⟩))),fun ht _ _=>⟨by omega,fun _=>⟨by omega,fun _=>?_⟩⟩⟩
  rw[hou]
  refine ⟨fun h=>aG3 (.inr (.inr (.inr ⟨hla,Bool.eq_false_iff.2 fun hh=>h ((cP _ _).1 hh).2⟩))),fun ht2=>?_⟩
  simp only[hl,Nat.add_sub_cancel]
  have hy:=aWD h1 h2 h3 (fun _=>(cP _ _).2 ⟨ht,ht2⟩)
  (repeat' first|intro _|(with_reducible apply And.intro))
  all_goals first|omega|exact Bool.noConfusion ((by assumption:s.2.2.2.1=true).symm.trans (by assumption:s.2.2.2.1=false))|(unfold maxLen;omega)|(simp only[List.drop_zero,List.length_take];omega)|exact Nat.le_trans (h6 _ (by assumption)) (by decide)|exact Nat.le_trans (h6 _ (List.mem_of_mem_take (by assumption))) (by decide)|skip
  all_goals first|exact Bool.noConfusion ((by assumption:s.2.2.2.1=true).symm.trans (by assumption:s.2.2.2.1=false))|refine (aVR (by assumption) ?_ ?_ ?_).trans hy|refine (aW6 (by assumption) ?_ ?_).trans hy
  all_goals first|rfl|(rw[<- bF4 (by assumption)])|(rw[<- bGN (by assumption)])|exact bQE (by assumption)|exact bPN (by assumption)|exact bQ6 (by assumption)|exact bP3 (by assumption) (by assumption) (by assumption)|exact qW (by assumption)|exact wW (by assumption)|(simp[*];done)|skip
 ·intro hla
  simp only[hl,Nat.add_sub_cancel]
  have hy:=aWD (t:=t) h1 h2 h3 (fun h=>absurd h (by simp[hla]))
  (repeat' first|intro _|(with_reducible apply And.intro))
  all_goals first|omega|exact Bool.noConfusion ((by assumption:s.2.2.2.1=true).symm.trans (by assumption:s.2.2.2.1=false))|(unfold maxLen;omega)|(simp only[List.drop_zero,List.length_take];omega)|exact Nat.le_trans (h6 _ (by assumption)) (by decide)|exact Nat.le_trans (h6 _ (List.mem_of_mem_take (by assumption))) (by decide)|skip
  all_goals first|exact Bool.noConfusion ((by assumption:s.2.2.2.1=true).symm.trans (by assumption:s.2.2.2.1=false))|refine (aVR (by assumption) ?_ ?_ ?_).trans hy|refine (aW6 (by assumption) ?_ ?_).trans hy
  all_goals first|rfl|(rw[<- bF4 (by assumption)])|(rw[<- bGN (by assumption)])|exact bQE (by assumption)|exact bPN (by assumption)|exact bQ6 (by assumption)|exact bP3 (by assumption) (by assumption) (by assumption)|exact qW (by assumption)|exact wW (by assumption)|(simp[*];done)|skip
set_option maxRecDepth 100000
theorem aWE {s:bH} {m:Int} (h:jA s=false\/jH s.2.2.2.2.2.1 m<0):s=xM s m:=by
 unfold xM;rw[if_neg]
 rintro ⟨h1,h2⟩
 rcases h with h|h
 ·rw[h] at h1;cases h1
 ·omega
theorem aRF {s:bH} {m:Int} (h:jA s=true) (h2:0<=jH s.2.2.2.2.2.1 m):(s.1,s.2.1,s.2.2.1,s.2.2.2.1,s.2.2.2.2.1,s.2.2.2.2.2.1,(jD s.2.2.1 ((s.2.2.2.2.2.1.getD (jH s.2.2.2.2.2.1 m).toNat (aK aY)).2.getD 0 []) s.2.2.1.length).1,s.2.2.2.2.2.2.2)=xM s m:=by
 unfold xM;rw[if_pos ⟨h,h2⟩]
theorem aJW {s:bH} (h:jA s=true) {k:Nat} (hk:k<s.2.2.2.2.2.1.length):0<(s.2.2.2.2.2.1.getD k (aK aY)).2.length/\dJ ((s.2.2.2.2.2.1.getD k (aK aY)).2.getD 0 []) (jP s.2.2.1)=true:=by
 have hm:=(dB s).1 h
 have h4:=hm.2.2.2.1
 rw[List.all_eq_true] at h4
 have h5:=(aDE _ _ _).1 (h4 _ (List.getElem_mem hk))
 have h8:=(bR _).1 hm.1
 have h6:=h5.2 0 (by unfold aJG;split <;> omega)
 rw[aO hk]
 refine ⟨by have h7:=h5.1;unfold aJG at h7;split at h7 <;> omega,?_⟩
 have e:kQ s.2.2.1 0=jP s.2.2.1:=by unfold kQ jP;rw[if_pos hm.1,if_pos (by omega)]
 rw[<- e];exact h6
noncomputable def aG8:Con:=⟨129,(.cD0 aC tI),aC,[.val ⟨true,aC,[]⟩,.val ⟨false,tI,[]⟩],[⟨true,aC,[0,2,2,0,0,2,2,2,2,2,2,2,0,0]⟩],false,none,
 ((fun x=>bC aC x.1<=1000000000):(bH × Int)->Prop),
 ((fun x=>xM x.1 x.2):(bH × Int)->(bH))⟩
def aOD:T:=gG 0 aC tI 0 <| cI 1 bJ (aT7 5 tI) (iD aC 1 0) <| dC 2 (pC aC) 3 4 aX <| gT bM 2 0 <| cE 5 aX <| bN 200 aY bJ (aT7 5 tI) 2 <| dP 117 aA aJ (jY 6) aM <| gG 3 aC tI 0 <| eI 4 aB gP lN <| lT [fT,fS,fO,fR,fP,cY,oZ 9,fV aC 7 1]
theorem bBE:Con.Holds Tryz.prog aG8:=tk ⟨[],[]⟩ aOD (aD aAZ (aD aGI (aD aF1 (aD aF5 (aD aOQ aL))))) fun (x:bH × Int) hx hp=>by
 dsimp only [aG8] at hx hp ⊢
 obtain ⟨s,m⟩:=x
 delta aOD tU xP yS yR aD8;refine gH ?_
 refine iC ?_
 refine ⟨hp,fun _ _=>⟨fun h=>aWE (.inl h),fun h1=>⟨fun h=>aWE (.inr h),fun h2=>?_⟩⟩⟩
 have hf:=aLM s.2.2.2.2.2.1 m s.2.2.2.2.2.1.length
 have hf2:jH s.2.2.2.2.2.1 m<(s.2.2.2.2.2.1.length:Int):=hf.2
 have hs:=aJW h1 (k:=(jH s.2.2.2.2.2.1 m).toNat) (by omega)
 have hin:oX s.2.2.1 ((s.2.2.2.2.2.1.getD (jH s.2.2.2.2.2.1 m).toNat (aK aY)).2.getD 0 [])=_:=if_pos ⟨((dB s).1 h1).1,hs.2⟩
 have hy:=aRF h1 h2
 rw[<- hin] at hy
 (repeat' first|intro _|(with_reducible apply And.intro))
 all_goals first|omega|exact hy|skip
noncomputable def aGO:Con:=⟨171,(.cD0 aC tI),aC,[.val ⟨true,aC,[]⟩,.val ⟨false,tI,[]⟩],[⟨true,aC,[0,2,2,0,0,2,2,2,2,2,2,2,0,0]⟩],false,none,
 ((fun x=>bC aC x.1<=1000000000):(bH × Int)->Prop),
 ((fun x=>xM x.1 x.2):(bH × Int)->(bH))⟩
def aNK:T:=gG 0 aC tI 0 <| cI 1 bJ (aT7 5 tI) (iD aC 1 0) <| dC 2 (pC aC) 3 4 aX <| gT bM 2 0 <| cE 5 aX <| bN 200 aY bJ (aT7 5 tI) 2 <| dP 117 aA aJ (jY 6) aM <| eI 3 aB (aT7 2 tI) lN <| lT [fT,fS,fO,fR,fP,cY,oZ 8,fV aC 7 1]
theorem bBF:Con.Holds Tryz.prog aGO:=tk ⟨[],[]⟩ aNK (aD aFF (aD aGL (aD aF7 (aD aI4 aL)))) fun (x:bH × Int) hx hp=>by
 dsimp only [aGO] at hx hp ⊢
 obtain ⟨s,m⟩:=x
 delta aNK yZ xY yX zV;refine gH ?_
 refine iC ?_
 refine ⟨hp,fun _ _=>⟨fun h=>aWE (.inl h),fun h1=>⟨fun h=>aWE (.inr h),fun h2=>?_⟩⟩⟩
 have hf:=aLM s.2.2.2.2.2.1 m s.2.2.2.2.2.1.length
 have hf2:jH s.2.2.2.2.2.1 m<(s.2.2.2.2.2.1.length:Int):=hf.2
 have hs:=aJW h1 (k:=(jH s.2.2.2.2.2.1 m).toNat) (by omega)
 have hv:=((cP _ _).1 hs.2).1
 have hn8:=(bR _).1 ((dB s).1 h1).1
 have hy:=aRF h1 h2
 (repeat' first|intro _|(with_reducible apply And.intro))
 all_goals first|omega|exact hy|exact ⟨hv,hn8.2.1⟩|exact hv|exact hn8.2.1|skip
set_option maxRecDepth 100000
theorem nG {s:bH} {m:Int} {t:List Int} (h:jA s=false\/jH s.2.2.2.2.2.1 m<0\/aNZ s.2.2.1 (sW s m)=false\/dJ (mM s m t).1 (eN s.2.2.1)=false):s=xQ s m t:=by
 unfold xQ;rw[if_neg]
 unfold aU6
 simp only[Bool.and_eq_true,decide_eq_true_eq]
 rintro ⟨h1,h2,h3,h4⟩
 rcases h with h|h|h|h
 ·rw[h] at h1;cases h1
 ·omega
 ·rw[h] at h3;cases h3
 ·rw[h] at h4;cases h4
theorem aFQ {s:bH} {m:Int} {t:List Int} (h1:jA s=true) (h2:0<=jH s.2.2.2.2.2.1 m) (h3:aNZ s.2.2.1 (sW s m)=true) (h4:dJ (mM s m t).1 (eN s.2.2.1)=true):aQT s m t=xQ s m t:=by
 unfold xQ;rw[if_pos]
 unfold aU6
 simp only[Bool.and_eq_true,decide_eq_true_eq]
 exact ⟨h1,h2,h3,h4⟩
theorem bW9 {s:bH} {m:Int} (h:s.2.2.2.2.1=true):sW s m=s.2.2.2.2.2.2.1:=if_pos h
theorem bV7 {s:bH} {m:Int} (h:s.2.2.2.2.1=false):sW s m=(s.2.2.2.2.2.1.getD (jH s.2.2.2.2.2.1 m).toNat (aK aY)).2:=if_neg (by rw[h];simp)
theorem bG1 {s:bH} {m:Int} {t:List Int} (h:s.2.2.2.1=true):mM s m t=qE fC (List.getD (sW s m) s.2.2.1.length (aK aA)) t:=if_pos h
theorem bGD {s:bH} {m:Int} {t:List Int} (h:s.2.2.2.1=false):s.2.2.2.2.2.2.2.2.2.1=(mM s m t).1:=by unfold mM;rw[if_neg (by rw[h];simp)]
theorem bGF {s:bH} {m:Int} {t:List Int} (h:s.2.2.2.1=false):(mM s m t).2=false:=by unfold mM;rw[if_neg (by rw[h];simp)]
theorem aK8 {m:List dU} {r:dG} (h:¬ r.length=m.length+1\/aBW m r m.length=false):aNZ m r=false:=by
 unfold aNZ
 rcases h with h|h
 ·rw[decide_eq_false h];rfl
 ·rw[h,Bool.and_false]
theorem aIC {m:List dU} {r:dG} (h:r.length=m.length+1) (h2:aBW m r m.length=true):aNZ m r=true:=by
 unfold aNZ;rw[decide_eq_true h,h2];rfl
theorem aFA {s:bH} {r:dG} {d:List Int} (l:Int) (b:Bool) (h:jA s=true):yM ((kH s.2.2.1 r d).1,l,b):=by
 have hm:=((bR _).1 ((dB s).1 h).1).2.1
 refine ⟨?_,fun y hy=>Nat.le_trans (aOP _ _ _ _ _ y hy) (by decide)⟩
 show (iI _ _ _ _ _).1.length<=1000000000
 rw[rD];omega
theorem aBN {s:bH} {m:Int} {t:List Int} {g:dV} (h:0<=jH s.2.2.2.2.2.1 m) (e:g=qP s.2.2.2.2.2.2.2.2.2.2.2 ((kH s.2.2.1 (sW s m) (mM s m t).1).1,0,(mM s m t).2 || (kH s.2.2.1 (sW s m) (mM s m t).1).2.2)) :
  (s.1,s.2.1,s.2.2.1,s.2.2.2.1,s.2.2.2.2.1,List.drop 0 (List.take (jH s.2.2.2.2.2.1 m).toNat s.2.2.2.2.2.1)++List.drop (jH s.2.2.2.2.2.1 m+1).toNat (List.take (List.length s.2.2.2.2.2.1) s.2.2.2.2.2.1),([]:dG),s.2.2.2.2.2.2.2.1,s.2.2.2.2.2.2.2.2.1,([]:List Int),(kH s.2.2.1 (sW s m) (mM s m t).1).2.1,g)=aQT s m t:=by
 rw[List.take_length,show (jH s.2.2.2.2.2.1 m+1).toNat=(jH s.2.2.2.2.2.1 m).toNat+1 by omega,e];rfl
noncomputable def aJ6:Con:=⟨130,(.cD0 aC bF),aC,[.val ⟨true,aC,[]⟩,.val ⟨false,tI,[]⟩,.val ⟨false,aA,[]⟩],[⟨true,aC,[0,1,1,0,0,1,1,1,1,1,1,1,0,0]⟩],false,none,
 ((fun x=>bC aC x.1<=1000000000):(bH × fF)->Prop),
 ((fun x=>xQ x.1 x.2.1 x.2.2):(bH × fF)->(bH))⟩
def aQD:T:=gG 0 aC bF 0 <| cI 1 bJ (rA 5) (mW aC bF 0) <| dC 2 (dT aC bF) 3 4 aX <| gT bM 2 0 <| cE 5 aX <| bN 200 aY bJ cY 2 <| bN 200 aY bJ cY 2 <| .ite (rA 4) (bT 98 bQ nC <| kI 117 aA iJ cC 8 1 <| kC eW 9 10 <| cE 11 aX <| dC 3 (mkA (rS aJ tI) (eE nC iJ 8)) 12 13 aX <| .ite (rA 3) (kZ iJ 8 <| kZ iJ 8 <| eI 4 aA iL (gK aC bF 2) <| gG 5 aC bF 0 <| dE 6 17 <| dC 7 (qO aA (iY 16) uA) 19 20 aX <| uH 8 aJ aA [nC,iJ,iY 16] <| jJ aA 1 16 (sL 9 aG aG [fV aC 11 1,lI aJ 21,aM,bK] <| gT cC 2 1 <| bN 200 aY bJ cY 2 <| dP 200 aY bJ cY aM <| pW 200 aY cY aBX 26 <| pH iZ 23 <| pH aM 2 <| pW 200 aY cY aBX 30 <| pR 200 aY bJ bJ aAD 31 [fT,fS,fO,fR,fP,.Z 32,jF,qK 7,jZ,aT,uN aJ aA 1 21,tP]) <| sL 9 aG aG [fV aC 11 1,lI aJ 21,aM,dD aC0 21] <| gT cC 2 1 <| bN 200 aY bJ cY 2 <| dP 200 aY bJ cY aM <| pW 200 aY cY aBX 26 <| pH iZ 23 <| pH aM 2 <| pW 200 aY cY aBX 30 <| pR 200 aY bJ bJ aAD 31 [fT,fS,fO,fR,fP,.Z 32,jF,qK 7,jZ,aT,uN aJ aA 1 21,tP]) <| gG 5 aC bF 0 <| dE 6 14 <| dC 7 (qO aA iW iL) 16 17 aX <| uH 8 aJ aA [nC,iJ,iW] <| sL 9 aG aG [fV aC 11 1,lI aJ 18,aM,dD aC0 18] <| gT cC 2 1 <| bN 200 aY bJ cY 2 <| dP 200 aY bJ cY aM <| pW 200 aY cY sG 23 <| pH iZ 20 <| pH aM 2 <| pW 200 aY cY sG 27 <| pR 200 aY bJ bJ sM 28 [fT,fS,fO,fR,fP,aAD,jF,qK 7,jZ,aT,uN aJ aA 1 18,pK]) <| bT 98 bQ nC <| kI 117 aA (jY 7) cC 8 1 <| kC eW 9 10 <| cE 11 aX <| dC 3 (mkA (rS aJ tI) (eE nC (jY 7) 8)) 12 13 aX <| .ite (rA 3) (kZ (jY 7) 8 <| eI 4 aA gW (gK aC bF 2) <| gG 5 aC bF 0 <| dE 6 16 <| dC 7 (qO aA (iY 15) mV) 18 19 aX <| uH 8 aJ aA [nC,jY 7,iY 15] <| jJ aA 1 15 (sL 9 aG aG [fV aC 11 1,lI aJ 20,aM,bK] <| gT cC 2 1 <| bN 200 aY bJ cY 2 <| dP 200 aY bJ cY aM <| pW 200 aY cY tP 25 <| pH iZ 22 <| pH aM 2 <| pW 200 aY cY tP 29 <| pR 200 aY bJ bJ (.Z 28) 30 [fT,fS,fO,fR,fP,.Z 31,jF,qK 7,jZ,aT,uN aJ aA 1 20,.Z 21]) <| sL 9 aG aG [fV aC 11 1,lI aJ 20,aM,dD aC0 20] <| gT cC 2 1 <| bN 200 aY bJ cY 2 <| dP 200 aY bJ cY aM <| pW 200 aY cY tP 25 <| pH iZ 22 <| pH aM 2 <| pW 200 aY cY tP 29 <| pR 200 aY bJ bJ (.Z 28) 30 [fT,fS,fO,fR,fP,.Z 31,jF,qK 7,jZ,aT,uN aJ aA 1 20,.Z 21]) <| gG 5 aC bF 0 <| dE 6 14 <| dC 7 (qO aA iW iL) 16 17 aX <| uH 8 aJ aA [nC,jY 7,iW] <| sL 9 aG aG [fV aC 11 1,lI aJ 18,aM,dD aC0 18] <| gT cC 2 1 <| bN 200 aY bJ cY 2 <| dP 200 aY bJ cY aM <| pW 200 aY cY sG 23 <| pH iZ 20 <| pH aM 2 <| pW 200 aY cY sG 27 <| pR 200 aY bJ bJ sM 28 [fT,fS,fO,fR,fP,aAD,jF,qK 7,jZ,aT,uN aJ aA 1 18,pK]
set_option maxHeartbeats 1000000 in
theorem bG7:Con.Holds Tryz.prog aJ6:=tk ⟨[],[(2961,164021,[],[15,31]),(2951,420023,[103,108],[]),(2951,292023,[103,108],[]),(2961,132018,[],[15,18]),(2951,132020,[103,108],[]),(2961,160020,[],[31]),(2951,416022,[103,108],[]),(2951,288022,[103,108],[]),(2961,128018,[],[18]),(2951,128020,[103,108],[])]⟩ aQD (aD aAZ (aD aGI (aD aF1 (aD aX2 (aD aP5 (aD aF5 (aD aME (aD rY (aD aZE (aD aS7 aL)))))))))) fun (x:bH × fF) hx hp=>by
 dsimp only [aJ6] at hx hp ⊢
 obtain ⟨s,m,t⟩:=x
 delta aQD tU xP yS aJ5 aD2 yR aCS qC aIW aCK;refine gH ?_
 refine iC ?_
 refine ⟨hp,fun _ _=>⟨fun h=>nG (.inl h),fun h1=>⟨fun h=>nG (.inr (.inl h)),fun h2=>?_⟩⟩⟩
 have hf2:jH s.2.2.2.2.2.1 m<(s.2.2.2.2.2.1.length:Int):=(aLM s.2.2.2.2.2.1 m s.2.2.2.2.2.1.length).2
 have hm:=(dB s).1 h1
 have hn8:=(bR _).1 hm.1
 have hst:=(rG (t:=aC) hp).2.2.2.2.2.1.1
 replace hst:List.length s.2.2.2.2.2.1<=1000000000:=hst
 have hgs:yM s.2.2.2.2.2.2.2.2.2.2.2:=bJT (rG (t:=aC) hp).2.2.2.2.2.2.2.2.2.2.2
 refine ⟨by omega,fun _=>⟨by omega,fun _=>⟨fun hre=>?_,fun hre=>?_⟩⟩⟩
 ·rw[show s.2.2.2.2.2.2.1=sW s m from (bW9 hre).symm]
  refine fun _ _=>⟨by omega,fun _=>⟨fun h=>nG (.inr (.inr (.inl (aK8 (.inl (by omega)))))),fun hlen=>⟨⟨hm.1,by omega⟩,fun h=>nG (.inr (.inr (.inl (aK8 (.inr h))))),fun hrow=>⟨fun hla=>?_,fun hla=>?_⟩⟩⟩⟩
  ·rw[show qE fC (List.getD (sW s m) s.2.2.1.length (aK aA)) t=mM s m t from (bG1 hla).symm]
   (repeat' first|intro _|(with_reducible apply And.intro))
   all_goals first|omega|(unfold maxLen;omega)|exact nG (.inr (.inr (.inr (by assumption))))|exact ⟨by omega,by omega⟩|exact hgs|exact aFA _ _ h1|(simp only[List.length_append,List.length_drop,List.length_take];omega)|(simp only[List.length_append,List.length_drop,List.length_take];unfold maxLen;omega)|skip
   all_goals refine (aBN (by omega) ?_).trans (aFQ h1 h2 (aIC (by omega) hrow) (by assumption))
   all_goals first|rfl|(rw[qW (by assumption)];done)|(rw[show (mM s m t).2=true by assumption,Bool.true_or];done)|(rw[show (mM s m t).2=false by assumption,Bool.false_or];done)|skip
  ·have hgg:s.2.2.2.2.2.2.2.2.2.1=(mM s m t).1:=bGD hla
   have hg0:(mM s m t).2=false:=bGF hla
   rw[hgg]
   (repeat' first|intro _|(with_reducible apply And.intro))
   all_goals first|omega|(unfold maxLen;omega)|exact nG (.inr (.inr (.inr (by assumption))))|exact ⟨by omega,by omega⟩|exact hgs|exact aFA _ _ h1|(simp only[List.length_append,List.length_drop,List.length_take];omega)|(simp only[List.length_append,List.length_drop,List.length_take];unfold maxLen;omega)|skip
   all_goals refine (aBN (by omega) ?_).trans (aFQ h1 h2 (aIC (by omega) hrow) (by assumption))
   all_goals first|rfl|(rw[qW (by assumption)];done)|(rw[show (mM s m t).2=true by assumption,Bool.true_or];done)|(rw[show (mM s m t).2=false by assumption,Bool.false_or];done)|skip
 ·rw[show (List.getD s.2.2.2.2.2.1 (jH s.2.2.2.2.2.1 m).toNat (aK aY)).2=sW s m from (bV7 hre).symm]
  refine fun _ _=>⟨by omega,fun _=>⟨fun h=>nG (.inr (.inr (.inl (aK8 (.inl (by omega)))))),fun hlen=>⟨⟨hm.1,by omega⟩,fun h=>nG (.inr (.inr (.inl (aK8 (.inr h))))),fun hrow=>⟨fun hla=>?_,fun hla=>?_⟩⟩⟩⟩
  ·rw[show qE fC (List.getD (sW s m) s.2.2.1.length (aK aA)) t=mM s m t from (bG1 hla).symm]
   (repeat' first|intro _|(with_reducible apply And.intro))
   all_goals first|omega|(unfold maxLen;omega)|exact nG (.inr (.inr (.inr (by assumption))))|exact ⟨by omega,by omega⟩|exact hgs|exact aFA _ _ h1|(simp only[List.length_append,List.length_drop,List.length_take];omega)|(simp only[List.length_append,List.length_drop,List.length_take];unfold maxLen;omega)|skip
   all_goals refine (aBN (by omega) ?_).trans (aFQ h1 h2 (aIC (by omega) hrow) (by assumption))
   all_goals first|rfl|(rw[qW (by assumption)];done)|(rw[show (mM s m t).2=true by assumption,Bool.true_or];done)|(rw[show (mM s m t).2=false by assumption,Bool.false_or];done)|skip
  ·have hgg:s.2.2.2.2.2.2.2.2.2.1=(mM s m t).1:=bGD hla
   have hg0:(mM s m t).2=false:=bGF hla
   rw[hgg]
   (repeat' first|intro _|(with_reducible apply And.intro))
   all_goals first|omega|(unfold maxLen;omega)|exact nG (.inr (.inr (.inr (by assumption))))|exact ⟨by omega,by omega⟩|exact hgs|exact aFA _ _ h1|(simp only[List.length_append,List.length_drop,List.length_take];omega)|(simp only[List.length_append,List.length_drop,List.length_take];unfold maxLen;omega)|skip
   all_goals refine (aBN (by omega) ?_).trans (aFQ h1 h2 (aIC (by omega) hrow) (by assumption))
   all_goals first|rfl|(rw[qW (by assumption)];done)|(rw[show (mM s m t).2=true by assumption,Bool.true_or];done)|(rw[show (mM s m t).2=false by assumption,Bool.false_or];done)|skip
noncomputable def aHP:Con:=⟨172,(.cD0 aC bF),aC,[.val ⟨true,aC,[]⟩,.val ⟨false,tI,[]⟩,.val ⟨false,aA,[]⟩],[⟨true,aC,[0,0,0,0,0,0,0,0,0,0,0,0,0,0]⟩],true,none,
 ((fun x=>bC aC x.1<=1000000000):(bH × fF)->Prop),
 ((fun x=>xQ x.1 x.2.1 x.2.2):(bH × fF)->(bH))⟩
def aRA:T:=gG 0 aC bF 0 <| cI 1 bJ (rA 5) (mW aC bF 0) <| dC 2 (dT aC bF) 3 4 aX <| gT bM 2 0 <| cE 5 aX <| bN 200 aY bJ (rA 5) 2 <| .ite (rA 4) (bT 117 aA (rA 6) <| kI 98 bQ nC cC 8 1 <| kC eW 7 9 <| cE 10 aX <| dX tI aM 98 bQ nC <| uC 11 12 <| cG 13 (kZ (rA 6) 11 <| dC 3 gW 15 16 aX <| kZ (rA 6) 11 <| cN mV <| bN 98 bQ aB nC 11 <| bX eW uA (rM 19) <| cE 20 aX <| rR iX 1 0 21) <| .ite (rA 3) (bT 98 bQ nC <| kZ (rA 6) 14 <| eI 4 aA iL (gK aC bF 2) <| cN (iY 16) <| kI 98 bQ nC fJ 18 1 <| bN 98 bQ aB nC 19 <| tL eW mV 20 <| cE 21 aX <| dC 3 (iY 16) 22 23 aX <| uH 5 aJ aA [nC,rA 6,iY 16] <| jJ aA 1 16 (sL 6 aG aG [kG aC 11 aC bF,lI aJ 24,aM,bK] <| gT cC 2 1 <| bN 200 aY bJ cY 2 <| dP 200 aY bJ cY aM <| pW 200 aY cY sM 29 <| pH iZ 26 <| pH aM 2 <| pW 200 aY cY sM 33 <| pR 200 aY bJ bJ (.Z 32) 34 [fT,fS,fO,fR,fP,.Z 35,jF,qK 7,jZ,aT,uN aJ aA 1 24,.Z 25]) <| sL 6 aG aG [kG aC 11 aC bF,lI aJ 24,aM,dD aC0 24] <| gT cC 2 1 <| bN 200 aY bJ cY 2 <| dP 200 aY bJ cY aM <| pW 200 aY cY sM 29 <| pH iZ 26 <| pH aM 2 <| pW 200 aY cY sM 33 <| pR 200 aY bJ bJ (.Z 32) 34 [fT,fS,fO,fR,fP,.Z 35,jF,qK 7,jZ,aT,uN aJ aA 1 24,.Z 25]) <| cN (rA 9) <| kI 98 bQ nC fJ 15 1 <| bN 98 bQ aB nC 16 <| tL eW gW 17 <| cE 18 aX <| dC 3 (rA 9) 19 20 aX <| uH 5 aJ aA [nC,rA 6,rA 9] <| sL 6 aG aG [kG aC 11 aC bF,lI aJ 21,aM,dD aC0 21] <| gT cC 2 1 <| bN 200 aY bJ cY 2 <| dP 200 aY bJ cY aM <| pW 200 aY cY aBX 26 <| pH iZ 23 <| pH aM 2 <| pW 200 aY cY aBX 30 <| pR 200 aY bJ bJ aAD 31 [fT,fS,fO,fR,fP,.Z 32,jF,qK 7,jZ,aT,uN aJ aA 1 21,tP]) <| bT 117 aA (jY 6) <| kI 98 bQ nC cC 8 1 <| kC eW 7 9 <| cE 10 aX <| dX tI aM 98 bQ nC <| uC 11 12 <| cG 13 (kZ (jY 6) 11 <| dC 3 gW 15 16 aX <| kZ (jY 6) 11 <| cN mV <| bN 98 bQ aB nC 11 <| bX eW uA (rM 19) <| cE 20 aX <| rR iX 1 0 21) <| .ite (rA 3) (bT 98 bQ nC <| kZ (jY 6) 14 <| eI 4 aA iL (gK aC bF 2) <| cN (iY 16) <| kI 98 bQ nC fJ 18 1 <| bN 98 bQ aB nC 19 <| tL eW mV 20 <| cE 21 aX <| dC 3 (iY 16) 22 23 aX <| uH 5 aJ aA [nC,jY 6,iY 16] <| jJ aA 1 16 (sL 6 aG aG [kG aC 11 aC bF,lI aJ 24,aM,bK] <| gT cC 2 1 <| bN 200 aY bJ cY 2 <| dP 200 aY bJ cY aM <| pW 200 aY cY sM 29 <| pH iZ 26 <| pH aM 2 <| pW 200 aY cY sM 33 <| pR 200 aY bJ bJ (.Z 32) 34 [fT,fS,fO,fR,fP,.Z 35,jF,qK 7,jZ,aT,uN aJ aA 1 24,.Z 25]) <| sL 6 aG aG [kG aC 11 aC bF,lI aJ 24,aM,dD aC0 24] <| gT cC 2 1 <| bN 200 aY bJ cY 2 <| dP 200 aY bJ cY aM <| pW 200 aY cY sM 29 <| pH iZ 26 <| pH aM 2 <| pW 200 aY cY sM 33 <| pR 200 aY bJ bJ (.Z 32) 34 [fT,fS,fO,fR,fP,.Z 35,jF,qK 7,jZ,aT,uN aJ aA 1 24,.Z 25]) <| cN (rA 9) <| kI 98 bQ nC fJ 15 1 <| bN 98 bQ aB nC 16 <| tL eW gW 17 <| cE 18 aX <| dC 3 (rA 9) 19 20 aX <| uH 5 aJ aA [nC,jY 6,rA 9] <| sL 6 aG aG [kG aC 11 aC bF,lI aJ 21,aM,dD aC0 21] <| gT cC 2 1 <| bN 200 aY bJ cY 2 <| dP 200 aY bJ cY aM <| pW 200 aY cY aBX 26 <| pH iZ 23 <| pH aM 2 <| pW 200 aY cY aBX 30 <| pR 200 aY bJ bJ aAD 31 [fT,fS,fO,fR,fP,.Z 32,jF,qK 7,jZ,aT,uN aJ aA 1 21,tP]
set_option maxHeartbeats 1000000 in
theorem bEO:Con.Holds Tryz.prog aHP:=tk ⟨[(2968,20011,oS 51 33++oS 31 19++[.dr 0,.dr 1,.tm 12 0]),(2968,16011,oS 51 43++oS 40 33++oS 31 19++[.dr 0,.dr 1,.tm 12 0])],[(2947,292024,[],[31]),(2935,804026,[146,151],[]),(2935,548026,[146,151],[]),(2939,260023,[146,151],[]),(2947,288024,[],[31]),(2935,800026,[146,151],[]),(2935,544026,[146,151],[]),(2939,256023,[146,151],[])]⟩ aRA (aD aFF (aD aGL (aD aF7 (aD mZ (aD aOS (aD aZ1 (aD aRS aL))))))) fun (x:bH × fF) hx hp=>by
 dsimp only [aHP] at hx hp ⊢
 obtain ⟨s,m,t⟩:=x
 delta aRA yZ xY yX lH aDH aHO aCM;refine gH ?_
 refine iC ?_
 refine ⟨hp,fun _ _=>⟨fun h=>nG (.inl h),fun h1=>⟨fun h=>nG (.inr (.inl h)),fun h2=>?_⟩⟩⟩
 have hf2:jH s.2.2.2.2.2.1 m<(s.2.2.2.2.2.1.length:Int):=(aLM s.2.2.2.2.2.1 m s.2.2.2.2.2.1.length).2
 have hm:=(dB s).1 h1
 have hn8:=(bR _).1 hm.1
 have hou:(List.getD s.2.2.1 (s.2.2.1.length - 1) (aK bQ)).2.2.1=eN s.2.2.1:=by unfold eN;rw[if_pos hm.1];rfl
 have hst:=(rG (t:=aC) hp).2.2.2.2.2.1.1
 replace hst:List.length s.2.2.2.2.2.1<=1000000000:=hst
 have hgs:yM s.2.2.2.2.2.2.2.2.2.2.2:=bJT (rG (t:=aC) hp).2.2.2.2.2.2.2.2.2.2.2
 refine ⟨by omega,fun _=>⟨fun hre=>?_,fun hre=>?_⟩⟩
 ·rw[show s.2.2.2.2.2.2.1=sW s m from (bW9 hre).symm]
  refine fun _ _=>⟨by omega,fun _=>⟨fun h=>nG (.inr (.inr (.inl (aK8 (.inl (by omega)))))),fun hlen=>?_⟩⟩
  refine xL (fun k=>(k:Int)) (fun k=>∀ i,i<k->dJ (List.getD (sW s m) i []) (kQ s.2.2.1 i)=true) s.2.2.1.length rfl (fun i hi=>absurd hi (Nat.not_lt_zero _)) fun I μ k hk hG _ go=>?_
  try dsimp only
  refine iC ?_
  intro _
  constructor
  ·intro hlt
   have hk':k<s.2.2.1.length:=by omega
   have esz:kQ s.2.2.1 k=(List.getD s.2.2.1 k (aK bQ)).2.1:=if_pos hk'
   have bad:¬ dJ (List.getD (sW s m) k []) (kQ s.2.2.1 k)=true->s=xQ s m t:=fun h=>nG (.inr (.inr (.inl (aK8 (.inr (Bool.eq_false_iff.2 fun hh=>h ((tD _ _ _).1 hh k hk')))))))
   rw[cP,esz] at bad
   (repeat' first|intro _|(refine go _ ?_ ?_ ?_)|(refine go _ ?_ ?_)|(with_reducible apply And.intro))
   all_goals first|omega|exact bad (fun h=>Bool.noConfusion (h.1.symm.trans (by assumption:_=false)))|exact bad (fun h=>absurd h.2 (by assumption))|exact aET hG ((cP _ _).2 ⟨by assumption,by rw[esz];assumption⟩) _ (by assumption)|rfl|skip
  ·intro hge
   have hk':k=s.2.2.1.length:=by omega
   subst hk'
   have hrow:aBW s.2.2.1 (sW s m) s.2.2.1.length=true:=(tD _ _ _).2 hG
   clear go hG
   refine ⟨fun hla=>?_,fun hla=>?_⟩
   ·rw[show qE fC (List.getD (sW s m) s.2.2.1.length (aK aA)) t=mM s m t from (bG1 hla).symm]
    (repeat' first|intro _|(with_reducible apply And.intro))
    all_goals first|omega|exact nG (.inr (.inr (.inr (Bool.eq_false_iff.2 fun h=>absurd ((cP _ _).1 h).2 (by first|assumption|(rw[<- hou];assumption))))))|exact nG (.inr (.inr (.inr (aJX (by assumption)).symm)))|exact ⟨hn8.2.1,by omega⟩|(unfold maxLen;omega)|exact nG (.inr (.inr (.inr (by assumption))))|exact ⟨by omega,by omega⟩|exact hgs|exact aFA _ _ h1|(simp only[List.length_append,List.length_drop,List.length_take];omega)|(simp only[List.length_append,List.length_drop,List.length_take];unfold maxLen;omega)|skip
    all_goals refine (aBN (by omega) ?_).trans (aFQ h1 h2 (aIC (by omega) hrow) ((cP _ _).2 ⟨by assumption,by rw[<- hou];assumption⟩))
    all_goals first|rfl|(rw[qW (by assumption)];done)|(rw[show (mM s m t).2=true by assumption,Bool.true_or];done)|(rw[show (mM s m t).2=false by assumption,Bool.false_or];done)|skip
   ·have hgg:s.2.2.2.2.2.2.2.2.2.1=(mM s m t).1:=bGD hla
    have hg0:(mM s m t).2=false:=bGF hla
    rw[hgg]
    (repeat' first|intro _|(with_reducible apply And.intro))
    all_goals first|omega|exact nG (.inr (.inr (.inr (Bool.eq_false_iff.2 fun h=>absurd ((cP _ _).1 h).2 (by first|assumption|(rw[<- hou];assumption))))))|exact nG (.inr (.inr (.inr (aJX (by assumption)).symm)))|exact ⟨hn8.2.1,by omega⟩|(unfold maxLen;omega)|exact nG (.inr (.inr (.inr (by assumption))))|exact ⟨by omega,by omega⟩|exact hgs|exact aFA _ _ h1|(simp only[List.length_append,List.length_drop,List.length_take];omega)|(simp only[List.length_append,List.length_drop,List.length_take];unfold maxLen;omega)|skip
    all_goals refine (aBN (by omega) ?_).trans (aFQ h1 h2 (aIC (by omega) hrow) ((cP _ _).2 ⟨by assumption,by rw[<- hou];assumption⟩))
    all_goals first|rfl|(rw[qW (by assumption)];done)|(rw[show (mM s m t).2=true by assumption,Bool.true_or];done)|(rw[show (mM s m t).2=false by assumption,Bool.false_or];done)|skip
 ·rw[show (List.getD s.2.2.2.2.2.1 (jH s.2.2.2.2.2.1 m).toNat (aK aY)).2=sW s m from (bV7 hre).symm]
  refine fun _ _=>⟨by omega,fun _=>⟨fun h=>nG (.inr (.inr (.inl (aK8 (.inl (by omega)))))),fun hlen=>?_⟩⟩
  refine xL (fun k=>(k:Int)) (fun k=>∀ i,i<k->dJ (List.getD (sW s m) i []) (kQ s.2.2.1 i)=true) s.2.2.1.length rfl (fun i hi=>absurd hi (Nat.not_lt_zero _)) fun I μ k hk hG _ go=>?_
  try dsimp only
  refine iC ?_
  intro _
  constructor
  ·intro hlt
   have hk':k<s.2.2.1.length:=by omega
   have esz:kQ s.2.2.1 k=(List.getD s.2.2.1 k (aK bQ)).2.1:=if_pos hk'
   have bad:¬ dJ (List.getD (sW s m) k []) (kQ s.2.2.1 k)=true->s=xQ s m t:=fun h=>nG (.inr (.inr (.inl (aK8 (.inr (Bool.eq_false_iff.2 fun hh=>h ((tD _ _ _).1 hh k hk')))))))
   rw[cP,esz] at bad
   (repeat' first|intro _|(refine go _ ?_ ?_ ?_)|(refine go _ ?_ ?_)|(with_reducible apply And.intro))
   all_goals first|omega|exact bad (fun h=>Bool.noConfusion (h.1.symm.trans (by assumption:_=false)))|exact bad (fun h=>absurd h.2 (by assumption))|exact aET hG ((cP _ _).2 ⟨by assumption,by rw[esz];assumption⟩) _ (by assumption)|rfl|skip
  ·intro hge
   have hk':k=s.2.2.1.length:=by omega
   subst hk'
   have hrow:aBW s.2.2.1 (sW s m) s.2.2.1.length=true:=(tD _ _ _).2 hG
   clear go hG
   refine ⟨fun hla=>?_,fun hla=>?_⟩
   ·rw[show qE fC (List.getD (sW s m) s.2.2.1.length (aK aA)) t=mM s m t from (bG1 hla).symm]
    (repeat' first|intro _|(with_reducible apply And.intro))
    all_goals first|omega|exact nG (.inr (.inr (.inr (Bool.eq_false_iff.2 fun h=>absurd ((cP _ _).1 h).2 (by first|assumption|(rw[<- hou];assumption))))))|exact nG (.inr (.inr (.inr (aJX (by assumption)).symm)))|exact ⟨hn8.2.1,by omega⟩|(unfold maxLen;omega)|exact nG (.inr (.inr (.inr (by assumption))))|exact ⟨by omega,by omega⟩|exact hgs|exact aFA _ _ h1|(simp only[List.length_append,List.length_drop,List.length_take];omega)|(simp only[List.length_append,List.length_drop,List.length_take];unfold maxLen;omega)|skip
    all_goals refine (aBN (by omega) ?_).trans (aFQ h1 h2 (aIC (by omega) hrow) ((cP _ _).2 ⟨by assumption,by rw[<- hou];assumption⟩))
    all_goals first|rfl|(rw[qW (by assumption)];done)|(rw[show (mM s m t).2=true by assumption,Bool.true_or];done)|(rw[show (mM s m t).2=false by assumption,Bool.false_or];done)|skip
   ·have hgg:s.2.2.2.2.2.2.2.2.2.1=(mM s m t).1:=bGD hla
    have hg0:(mM s m t).2=false:=bGF hla
    rw[hgg]
    (repeat' first|intro _|(with_reducible apply And.intro))
    all_goals first|omega|exact nG (.inr (.inr (.inr (Bool.eq_false_iff.2 fun h=>absurd ((cP _ _).1 h).2 (by first|assumption|(rw[<- hou];assumption))))))|exact nG (.inr (.inr (.inr (aJX (by assumption)).symm)))|exact ⟨hn8.2.1,by omega⟩|(unfold maxLen;omega)|exact nG (.inr (.inr (.inr (by assumption))))|exact ⟨by omega,by omega⟩|exact hgs|exact aFA _ _ h1|(simp only[List.length_append,List.length_drop,List.length_take];omega)|(simp only[List.length_append,List.length_drop,List.length_take];unfold maxLen;omega)|skip
    all_goals refine (aBN (by omega) ?_).trans (aFQ h1 h2 (aIC (by omega) hrow) ((cP _ _).2 ⟨by assumption,by rw[<- hou];assumption⟩))
    all_goals first|rfl|(rw[qW (by assumption)];done)|(rw[show (mM s m t).2=true by assumption,Bool.true_or];done)|(rw[show (mM s m t).2=false by assumption,Bool.false_or];done)|skip
end Go.Proofs.YtlhaoiaieiladaaGreat
