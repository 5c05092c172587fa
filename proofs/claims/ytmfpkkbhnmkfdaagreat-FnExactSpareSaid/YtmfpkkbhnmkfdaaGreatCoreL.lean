/- CoreL: lemmas. No conditions. -/
import Derived.Test.YtmfpkkbhnmkfdaaGreatCore9
namespace Go.Proofs.YtmfpkkbhnmkfdaaGreat
noncomputable section
set_option maxRecDepth 100000
open Go.ChangeShapes Go.WideShapes Go.ChangeAt Go.RowKit Go.Deep
set_option linter.unusedVariables false
set_option linter.unusedSimpArgs false
def iP (r:cZ):Nat:=(r.map List.length).sum
def aFQ (l:List fJ):Nat:=(l.map fun x=>iP x.2).sum
def aOV (s:bC):Int:=((s.2.2.2.2.2.2.2.1.length+s.2.2.2.2.2.2.2.2.1.length+s.2.2.2.2.2.2.2.2.2.1.length+s.2.2.2.2.2.2.2.2.2.2.1.length+iP s.2.2.2.2.2.2.1+aFQ s.2.2.2.2.2.1:Nat):Int)
def uE (s:bC):Nat:=s.2.1.length - s.1.toNat
def oX (p:bF):Int:=(((p.2.1.map uE).sum:Nat):Int)
def aPC (p:bF):Bool:=decide (0<p.2.1.length)&&decide (oX p=0)
def aG0 (p:bF):Nat→List Int
 | 0=>[]
 | k+1=>aG0 p k++(if eB p (k:Int)=true then [(k:Int)] else [])
def fW (p:bF):List Int:=aG0 p p.2.1.length
theorem aG1 (p:bF):(k:Nat)→(aG0 p k).length≤k
 | 0=>Nat.le_refl _
 | k+1=>by
  have:=aG1 p k
  rw[aG0,List.length_append]
  split
  ·simp;omega
  ·simp;omega
theorem aDV {r:cZ} {k:Nat} (h:k<r.length):((r.take (k+1)).map List.length).sum=((r.take k).map List.length).sum+r[k].length:=fD List.length r k h
theorem aD6 {α:Type} (f g:α→Nat):(l:List α)→(∀ x∈l,f x≤g x)→(l.map f).sum≤(l.map g).sum
 | [],_=>Nat.le_refl _
 | a :: l,h=>by
  have h1:=h a (by simp)
  have h2:=aD6 f g l fun x hx=>h x (by simp[hx])
  simp only[List.map_cons,List.sum_cons];omega
theorem dQ {α:Type} (f:α→Nat) (l:List α) (k:Nat):((l.take k).map f).sum≤(l.map f).sum:=by
 have e:(l.map f).sum=((l.take k++l.drop k).map f).sum:=by rw[List.take_append_drop]
 rw[e,List.map_append,List.sum_append];omega
theorem bIZ (s:bC):uE s≤aY aA s:=by
 have h:List.length s.2.1≤aY aU s.2.1:=mM (e:=95) (t:=aP) s.2.1
 have h3:=fR s
 unfold uE;omega
theorem aR9 (l:List bC):(l.map uE).sum≤aY (.slice 121 aA) l:=by
 have h:=aD6 uE (aY aA) l fun x _=>bIZ x
 have e:aY (.slice 121 aA) l=l.length+(l.map (aY aA)).sum:=rfl
 omega
theorem bM0 (p:bF):0≤oX p∧oX p≤(aY aG p:Nat):=by
 have h:=aR9 p.2.1
 have e:=tE p
 unfold oX;omega
theorem xF (r:cZ):iP r≤aY aJ r:=by
 have h:=aD6 List.length (aY aG4) r fun x _=>by have e:=gZ x;have e2:aY aG4 x=aY aB x:=rfl;omega
 have e:aY aJ r=r.length+(r.map (aY aG4)).sum:=rfl
 unfold iP;omega
theorem aLW (l:List fJ):aFQ l≤aY pK l:=by
 have h:=aD6 (fun x:fJ=>iP x.2) (aY aD) l fun x _=>by have e:=xF x.2;have e2:aY aD x=0+aY aJ x.2:=rfl;omega
 have e:aY pK l=l.length+(l.map (aY aD)).sum:=rfl
 unfold aFQ;omega
theorem bOM (s:bC):0≤aOV s∧aOV s≤(aY aA s:Nat):=by
 have h1:=xF s.2.2.2.2.2.2.1
 have h2:=aLW s.2.2.2.2.2.1
 have h3:=fR s
 unfold aOV
 omega
theorem bM3 (s:bC):List.length s.2.1≤aY aA s:=by
 have h:List.length s.2.1≤aY aU s.2.1:=mM (e:=95) (t:=aP) s.2.1
 have h3:=fR s
 omega
theorem aP1 {p:bF} (hz:aY aG p=aY aM p.1+(aY (.slice 121 aA) p.2.1+(aY aL p.2.2.1+aY aL p.2.2.2))) (hp:aY aG p≤1000000000) {k:Nat} (hk:k<List.length p.2.1):List.length (p.2.1[k]).2.1≤1000000000:=by
 have h5:aY aA (p.2.1[k])≤aY (.slice 121 aA) p.2.1:=pR (List.getElem_mem hk)
 have h6:=bM3 (p.2.1[k])
 omega
def pY:Con:=⟨149,aJ,tI,[.val ⟨false,aJ,[]⟩],[⟨false,tI,[0]⟩],false,none,
 ((fun x=>aY aJ x≤1000000000):(cZ)→Prop),
 ((fun x=>((iP x:Nat):Int)):(cZ)→(Int))⟩
def aBP:T :=
 .bPA (.bPD 188 aB) (.Z 0) <|
 .loop aP (.bPB tI tI (.ci .i64 0) (.ci .i64 0)) <|
  .bPA (.cmp .lss .i64) (.bPB tI tI (.p1 tI tI (.Z 2)) (.Z 1)) <|
  .ite (.Z 3) (
   .bPA (.bPE 188 aB) (.bPB aJ tI (.Z 0) (.p1 tI tI (.Z 2))) <|
   .bPA (.bPD 3 tI) (.Z 4) <|
   .bPA (.ar .add .i64) (.bPB tI tI (aQ aP 1 (.Z 2)) (.Z 5)) <|
   .bPA (.ar .add .i64) (.bPB tI tI (.p1 tI tI (.Z 2)) (.ci .i64 1)) <|
   .bPC 0 (.bPB tI tI (.Z 7) (.Z 6))) (
   .ret (aQ aP 1 (.Z 2)))
theorem aTQ:bN Tryz.prog [] pY false 3000 ⟨[(2991,1002,[.dr 0,.tm 8 0,.tm 3 0])],[]⟩ = .ok aBP:=by kernel_rfl
theorem aV2 (x:cZ) (hx:okD aJ x) (hp:(fun x=>aY aJ x≤1000000000) x):aBP.wp [] [⟨aJ,x⟩] [] (fun v=>v.as tI=(fun x=>((iP x:Nat):Int)) x):=by
 have hw:=xF x
 have hp:aY aJ x≤1000000000:=hp
 have hl:List.length x≤1000000000:=(iD (t:=aJ) hp).1
 delta aBP;refine dD ?_;try with_reducible exact True.intro
 (repeat' first|intro _|(with_reducible apply And.intro))
 refine cJ (fun k=>((k:Int),((((List.take k x).map List.length).sum:Nat):Int))) (List.length x) rfl fun I μ k hk _ go=>?_
 dsimp only
 refine dM ?_
 have hs:=dQ List.length x k
 have hs2:=dQ List.length x (k+1)
 unfold iP at hw
 constructor
 ·intro hlt
  have hk':k<List.length x:=by omega
  have e:=aDV hk'
  simp only[aZ hk']
  (repeat' first|intro _|(refine go _ ?_ ?_ ?_)|(refine go _ ?_ ?_)|(with_reducible apply And.intro))
  all_goals first|omega|(refine Prod.ext rfl ?_;refine @Eq.trans Int _ _ _ ?_ rfl;dsimp only;omega)|skip
 ·intro hge
  rw[List.take_of_length_le (by omega)];rfl
theorem aU3:Con.Holds Tryz.prog pY:=aS aV aT aTQ aV2
def uI:Con:=⟨86,aA,tI,[.val ⟨true,aA,[]⟩],[⟨false,tI,[0]⟩],false,none,
 ((fun x=>aY aA x≤1000000000):(bC)→Prop),
 ((fun x=>aOV x):(bC)→(Int))⟩
def aEN:T :=
 .bPA (.bPD 3 tI) (aK aA 7 (.Z 0)) <|
 .bPA (.bPD 3 tI) (aK aA 8 (.Z 0)) <|
 .bPA (.ar .add .i64) (.bPB tI tI (.Z 1) (.Z 2)) <|
 .bPA (.bPD 3 tI) (aK aA 9 (.Z 0)) <|
 .bPA (.ar .add .i64) (.bPB tI tI (.Z 3) (.Z 4)) <|
 .bPA (.bPD 3 tI) (aK aA 10 (.Z 0)) <|
 .bPA (.ar .add .i64) (.bPB tI tI (.Z 5) (.Z 6)) <|
 .call 0 (aK aA 6 (.Z 0)) <|
 .bPA (.ar .add .i64) (.bPB tI tI (.Z 7) (.Z 8)) <|
 .bPA (.bPD 186 aD) (aK aA 5 (.Z 0)) <|
 .loop aP (.bPB tI tI (.ci .i64 0) (.Z 9)) <|
  .bPA (.cmp .lss .i64) (.bPB tI tI (.p1 tI tI (.Z 11)) (.Z 10)) <|
  .ite (.Z 12) (
   .bPA (.bPE 186 aD) (.bPB (.slice 186 aD) tI (aK aA 5 (.Z 0)) (.p1 tI tI (.Z 11))) <|
   .call 0 (aQ aD 1 (.Z 13)) <|
   .bPA (.ar .add .i64) (.bPB tI tI (aQ aP 1 (.Z 11)) (.Z 14)) <|
   .bPA (.ar .add .i64) (.bPB tI tI (.p1 tI tI (.Z 11)) (.ci .i64 1)) <|
   .bPC 0 (.bPB tI tI (.Z 16) (.Z 15))) (
   .ret (aQ aP 1 (.Z 11)))
theorem bAD:bN Tryz.prog [pY] uI false 3000 ⟨[(2991,1011,iL 25 22++iL 20 18++iL 16 14++iL 12 10++[.dr 8,.dr 7,.dr 21,.dr 17,.dr 13,.dr 9,.dr 6,.dr 1,.dr 0,.tm 28 0,.tm 3 0])],[]⟩ = .ok aEN:=by kernel_rfl
theorem bA2 (x:bC) (hx:okD aA x) (hp:(fun x=>aY aA x≤1000000000) x):aEN.wp [pY] [⟨aA,x⟩] [] (fun v=>v.as tI=(fun x=>aOV x) x):=by
 have hp:aY aA x≤1000000000:=hp
 have h1:=xF x.2.2.2.2.2.2.1
 have h2:=aLW x.2.2.2.2.2.1
 have h3:=fR x
 have hl:List.length x.2.2.2.2.2.1≤1000000000:=(iD (t:=aA) hp).2.2.2.2.2.1.1
 have hm:∀ k (hk:k<List.length x.2.2.2.2.2.1),aY aJ (x.2.2.2.2.2.1[k]).2≤1000000000:=fun k hk=>by
  have h:=pR (e:=186) (t:=aD) (List.getElem_mem hk)
  have e:aY aD (x.2.2.2.2.2.1[k])=0+aY aJ (x.2.2.2.2.2.1[k]).2:=rfl
  have e2:aY pK x.2.2.2.2.2.1=aY (.slice 186 aD) x.2.2.2.2.2.1:=rfl
  omega
 delta aEN pY;refine dD ?_
 refine dM ?_
 unfold aFQ at h2
 (repeat' first|intro _|(with_reducible apply And.intro))
 all_goals first|omega|skip
 refine cJ (fun k=>((k:Int),(((List.length x.2.2.2.2.2.2.2.1:Nat):Int)+((List.length x.2.2.2.2.2.2.2.2.1:Nat):Int)+((List.length x.2.2.2.2.2.2.2.2.2.1:Nat):Int)+((List.length x.2.2.2.2.2.2.2.2.2.2.1:Nat):Int)+((iP x.2.2.2.2.2.2.1:Nat):Int))+((((List.take k x.2.2.2.2.2.1).map fun y=>iP y.2).sum:Nat):Int))) (List.length x.2.2.2.2.2.1) (Prod.ext rfl (Int.add_zero _).symm) fun I μ k hk _ go=>?_
 dsimp only
 refine dM ?_
 have hs:=dQ (fun y:fJ=>iP y.2) x.2.2.2.2.2.1 k
 have hs2:=dQ (fun y:fJ=>iP y.2) x.2.2.2.2.2.1 (k+1)
 constructor
 ·intro hlt
  have hk':k<List.length x.2.2.2.2.2.1:=by omega
  have e:=fD (fun y:fJ=>iP y.2) x.2.2.2.2.2.1 k hk'
  have hmk:=hm k hk'
  simp only[aZ hk']
  try dsimp only at e
  (repeat' first|intro _|(refine go _ ?_ ?_ ?_)|(refine go _ ?_ ?_)|(with_reducible apply And.intro))
  all_goals first|omega|exact hmk|(refine Prod.ext rfl ?_;refine @Eq.trans Int _ _ _ ?_ rfl;dsimp only;omega)|skip
 ·intro hge
  rw[List.take_of_length_le (by omega)]
  refine @Eq.trans Int _ _ _ ?_ rfl
  unfold aOV aFQ
  omega
theorem aY8:Con.Holds Tryz.prog uI:=aS aV (aH aU3 aT) bAD bA2
def sX:Con:=⟨81,aA,tI,[.val ⟨true,aA,[]⟩],[⟨false,tI,[0]⟩],false,none,
 ((fun x=>aY aA x≤1000000000):(bC)→Prop),
 ((fun x=>aOV x):(bC)→(Int))⟩
def aEJ:T :=
 .bPA (.bPD 3 tI) (aK aA 7 (.Z 0)) <|
 .bPA (.bPD 3 tI) (aK aA 8 (.Z 0)) <|
 .bPA (.ar .add .i64) (.bPB tI tI (.Z 1) (.Z 2)) <|
 .bPA (.bPD 3 tI) (aK aA 9 (.Z 0)) <|
 .bPA (.ar .add .i64) (.bPB tI tI (.Z 3) (.Z 4)) <|
 .bPA (.bPD 3 tI) (aK aA 10 (.Z 0)) <|
 .bPA (.ar .add .i64) (.bPB tI tI (.Z 5) (.Z 6)) <|
 .loop aP (.bPB tI tI (.ci .i64 0) (.Z 7)) <|
  .bPA (.bPD 186 aD) (aK aA 5 (.Z 0)) <|
  .bPA (.cmp .lss .i64) (.bPB tI tI (.p1 tI tI (.Z 8)) (.Z 9)) <|
  .ite (.Z 10) (
   .loop aP (.bPB tI tI (.ci .i64 0) (aQ aP 1 (.Z 8))) <|
    .bPA (.bPE 186 aD) (.bPB (.slice 186 aD) tI (aK aA 5 (.Z 0)) (.p1 tI tI (.Z 8))) <|
    .bPA (.bPD 188 aB) (aQ aD 1 (.Z 12)) <|
    .bPA (.cmp .lss .i64) (.bPB tI tI (.p1 tI tI (.Z 11)) (.Z 13)) <|
    .ite (.Z 14) (
     .bPA (.bPE 186 aD) (.bPB (.slice 186 aD) tI (aK aA 5 (.Z 0)) (.p1 tI tI (.Z 8))) <|
     .bPA (.bPE 188 aB) (.bPB aJ tI (aQ aD 1 (.Z 15)) (.p1 tI tI (.Z 11))) <|
     .bPA (.bPD 3 tI) (.Z 16) <|
     .bPA (.ar .add .i64) (.bPB tI tI (aQ aP 1 (.Z 11)) (.Z 17)) <|
     .bPA (.ar .add .i64) (.bPB tI tI (.p1 tI tI (.Z 11)) (.ci .i64 1)) <|
     .bPC 0 (.bPB tI tI (.Z 19) (.Z 18))) (
     .bPA (.ar .add .i64) (.bPB tI tI (.p1 tI tI (.Z 8)) (.ci .i64 1)) <|
     .bPC 1 (.bPB tI tI (.Z 15) (aQ aP 1 (.Z 11))))) (
   .loop aP (.bPB tI tI (.ci .i64 0) (aQ aP 1 (.Z 8))) <|
    .bPA (.bPD 188 aB) (aK aA 6 (.Z 0)) <|
    .bPA (.cmp .lss .i64) (.bPB tI tI (.p1 tI tI (.Z 11)) (.Z 12)) <|
    .ite (.Z 13) (
     .bPA (.bPE 188 aB) (.bPB aJ tI (aK aA 6 (.Z 0)) (.p1 tI tI (.Z 11))) <|
     .bPA (.bPD 3 tI) (.Z 14) <|
     .bPA (.ar .add .i64) (.bPB tI tI (aQ aP 1 (.Z 11)) (.Z 15)) <|
     .bPA (.ar .add .i64) (.bPB tI tI (.p1 tI tI (.Z 11)) (.ci .i64 1)) <|
     .bPC 0 (.bPB tI tI (.Z 17) (.Z 16))) (
     .ret (aQ aP 1 (.Z 11))))
theorem aZS:bN Tryz.prog [] sX false 3000 ⟨[(2991,1008,iL 21 7++[.dr 0,.tm 4 0,.tm 3 0]),(2980,3011,[.tm 5 0,.tm 3 0]),(2981,2011,iL 26 22++[.dr 4,.tm 6 0,.tm 3 0])],[]⟩ = .ok aEJ:=by kernel_rfl
theorem aZP (x:bC) (hx:okD aA x) (hp:(fun x=>aY aA x≤1000000000) x):aEJ.wp [] [⟨aA,x⟩] [] (fun v=>v.as tI=(fun x=>aOV x) x):=by
 have hp:aY aA x≤1000000000:=hp
 have h1:=xF x.2.2.2.2.2.2.1
 have h2:=aLW x.2.2.2.2.2.1
 have h3:=fR x
 have hl:List.length x.2.2.2.2.2.1≤1000000000:=(iD (t:=aA) hp).2.2.2.2.2.1.1
 have hm:∀ k (hk:k<List.length x.2.2.2.2.2.1),aY aJ (x.2.2.2.2.2.1[k]).2≤1000000000:=fun k hk=>by
  have h:=pR (e:=186) (t:=aD) (List.getElem_mem hk)
  have e:aY aD (x.2.2.2.2.2.1[k])=0+aY aJ (x.2.2.2.2.2.1[k]).2:=rfl
  have e2:aY pK x.2.2.2.2.2.1=aY (.slice 186 aD) x.2.2.2.2.2.1:=rfl
  omega
 have hlf:List.length x.2.2.2.2.2.2.1≤1000000000:=(iD (t:=aA) hp).2.2.2.2.2.2.1.1
 delta aEJ;refine dD ?_
 refine dM ?_
 unfold aFQ at h2
 (repeat' first|intro _|(with_reducible apply And.intro))
 all_goals first|omega|skip
 refine cJ (fun k=>((k:Int),(((List.length x.2.2.2.2.2.2.2.1:Nat):Int)+((List.length x.2.2.2.2.2.2.2.2.1:Nat):Int)+((List.length x.2.2.2.2.2.2.2.2.2.1:Nat):Int)+((List.length x.2.2.2.2.2.2.2.2.2.2.1:Nat):Int))+((((List.take k x.2.2.2.2.2.1).map fun y=>iP y.2).sum:Nat):Int))) (List.length x.2.2.2.2.2.1) (Prod.ext rfl (Int.add_zero _).symm) fun I μ k hk _ go=>?_
 dsimp only
 refine dM ?_
 intro _
 have hs:=dQ (fun y:fJ=>iP y.2) x.2.2.2.2.2.1 k
 have hs2:=dQ (fun y:fJ=>iP y.2) x.2.2.2.2.2.1 (k+1)
 constructor
 ·intro hlt
  have hk':k<List.length x.2.2.2.2.2.1:=by omega
  have e:=fD (fun y:fJ=>iP y.2) x.2.2.2.2.2.1 k hk'
  have hmk:=hm k hk'
  have hwk:=xF (x.2.2.2.2.2.1[k]).2
  have hlk:List.length (x.2.2.2.2.2.1[k]).2≤1000000000:=(iD (t:=aJ) hmk).1
  simp only[aZ hk']
  try dsimp only at e
  refine cJ (fun j=>((j:Int),((((List.length x.2.2.2.2.2.2.2.1:Nat):Int)+((List.length x.2.2.2.2.2.2.2.2.1:Nat):Int)+((List.length x.2.2.2.2.2.2.2.2.2.1:Nat):Int)+((List.length x.2.2.2.2.2.2.2.2.2.2.1:Nat):Int))+((((List.take k x.2.2.2.2.2.1).map fun y=>iP y.2).sum:Nat):Int))+((((List.take j (x.2.2.2.2.2.1[k]).2).map List.length).sum:Nat):Int))) (List.length (x.2.2.2.2.2.1[k]).2) (Prod.ext rfl (Int.add_zero _).symm) fun I2 μ2 j hj _ go2=>?_
  dsimp only
  refine dM ?_
  have ht:=dQ List.length (x.2.2.2.2.2.1[k]).2 j
  have ht2:=dQ List.length (x.2.2.2.2.2.1[k]).2 (j+1)
  unfold iP at hwk
  refine ⟨by omega,fun _ _=>⟨fun hlj=>?_,fun hgj=>?_⟩⟩
  ·have hj':j<List.length (x.2.2.2.2.2.1[k]).2:=by omega
   have e2:=aDV hj'
   simp only[aZ hj']
   (repeat' first|intro _|(refine go2 _ ?_ ?_ ?_)|(refine go2 _ ?_ ?_)|(refine go _ ?_ ?_ ?_)|(refine go _ ?_ ?_)|(with_reducible apply And.intro))
   all_goals first|omega|(refine Prod.ext rfl ?_;refine @Eq.trans Int _ _ _ ?_ rfl;dsimp only;omega)|skip
  ·rw[show List.take j (x.2.2.2.2.2.1[k]).2=(x.2.2.2.2.2.1[k]).2 from List.take_of_length_le (by omega)]
   have e3:((x.2.2.2.2.2.1[k]).2.map List.length).sum=iP (x.2.2.2.2.2.1[k]).2:=rfl
   (repeat' first|intro _|(refine go _ ?_ ?_ ?_)|(refine go _ ?_ ?_)|(with_reducible apply And.intro))
   all_goals first|omega|(refine Prod.ext rfl ?_;refine @Eq.trans Int _ _ _ ?_ rfl;dsimp only;omega)|skip
 ·intro hge
  rw[List.take_of_length_le (by omega)]
  clear go
  unfold iP at h1
  refine cJ (fun j=>((j:Int),((((List.length x.2.2.2.2.2.2.2.1:Nat):Int)+((List.length x.2.2.2.2.2.2.2.2.1:Nat):Int)+((List.length x.2.2.2.2.2.2.2.2.2.1:Nat):Int)+((List.length x.2.2.2.2.2.2.2.2.2.2.1:Nat):Int))+(((x.2.2.2.2.2.1.map fun y=>iP y.2).sum:Nat):Int))+((((List.take j x.2.2.2.2.2.2.1).map List.length).sum:Nat):Int))) (List.length x.2.2.2.2.2.2.1) (Prod.ext rfl (Int.add_zero _).symm) fun I2 μ2 j hj _ go=>?_
  dsimp only
  refine dM ?_
  intro _
  have ht:=dQ List.length x.2.2.2.2.2.2.1 j
  have ht2:=dQ List.length x.2.2.2.2.2.2.1 (j+1)
  constructor
  ·intro hlj
   have hj':j<List.length x.2.2.2.2.2.2.1:=by omega
   have e2:=aDV hj'
   simp only[aZ hj']
   (repeat' first|intro _|(refine go _ ?_ ?_ ?_)|(refine go _ ?_ ?_)|(with_reducible apply And.intro))
   all_goals first|omega|(refine Prod.ext rfl ?_;refine @Eq.trans Int _ _ _ ?_ rfl;dsimp only;omega)|skip
  ·intro hgj
   rw[List.take_of_length_le (by omega)]
   refine @Eq.trans Int _ _ _ ?_ rfl
   unfold aOV aFQ iP
   omega
theorem aYZ:Con.Holds Tryz.prog sX:=aS aV aT aZS aZP
def aCG:Con:=⟨159,aG,tI,[.val ⟨true,aG,[]⟩],[⟨false,tI,[0]⟩],false,none,
 ((fun x=>aY aG x≤1000000000):(bF)→Prop),
 ((fun x=>oX x):(bF)→(Int))⟩
def aMV:T :=
 .bPA (.bPD 121 aA) (aK aG 1 (.Z 0)) <|
 .loop aP (.bPB tI tI (.ci .i64 0) (.ci .i64 0)) <|
  .bPA (.cmp .lss .i64) (.bPB tI tI (.p1 tI tI (.Z 2)) (.Z 1)) <|
  .ite (.Z 3) (
   .bPA (.bPE 121 aA) (.bPB (.slice 121 aA) tI (aK aG 1 (.Z 0)) (.p1 tI tI (.Z 2))) <|
   .bPA (.bPD 95 aP) (aK aA 1 (.Z 4)) <|
   .bPA (.mx .i64) (.bPB tI tI (.p1 tI dA (.Z 4)) (.ci .i64 0)) <|
   .bPA (.bPD 95 aP) (aK aA 1 (.Z 4)) <|
   .bPA (.mn .i64) (.bPB tI tI (.Z 6) (.Z 7)) <|
   .bPA (.ar .sub .i64) (.bPB tI tI (.Z 5) (.Z 8)) <|
   .bPA (.ar .add .i64) (.bPB tI tI (aQ aP 1 (.Z 2)) (.Z 9)) <|
   .bPA (.ar .add .i64) (.bPB tI tI (.p1 tI tI (.Z 2)) (.ci .i64 1)) <|
   .bPC 0 (.bPB tI tI (.Z 11) (.Z 10))) (
   .ret (aQ aP 1 (.Z 2)))
theorem bKD:bN Tryz.prog [] aCG false 3000 ⟨[(2991,1002,[.dr 6,.dr 1,.dr 0,.tm 9 0,.tm 3 0])],[]⟩ = .ok aMV:=by kernel_rfl
theorem bL7 (x:bF) (hx:okD aG x) (hp:(fun x=>aY aG x≤1000000000) x):aMV.wp [] [⟨aG,x⟩] [] (fun v=>v.as tI=(fun x=>oX x) x):=by
 have hp:aY aG x≤1000000000:=hp
 have hs0:=aR9 x.2.1
 have hz:=tE x
 have hl:List.length x.2.1≤aY (.slice 121 aA) x.2.1:=mM (e:=121) (t:=aA) x.2.1
 delta aMV;refine dD ?_
 (refine dM ?_;try with_reducible exact True.intro)
 (repeat' first|intro _|(with_reducible apply And.intro))
 refine cJ (fun k=>((k:Int),((((List.take k x.2.1).map uE).sum:Nat):Int))) (List.length x.2.1) rfl fun I μ k hk _ go=>?_
 dsimp only
 refine dM ?_
 have hs:=dQ uE x.2.1 k
 have hs2:=dQ uE x.2.1 (k+1)
 by_cases hk':k<List.length x.2.1
 ·have e:=fD uE x.2.1 k hk'
  have hlk:=aP1 hz hp hk'
  have hpcb:-9223372036854775808≤(x.2.1[k]).1∧(x.2.1[k]).1≤9223372036854775807:=(hx.2.1.2 _ (List.getElem_mem hk')).1
  simp only[aZ hk']
  have e9:uE (x.2.1[k])=List.length (x.2.1[k]).2.1 - (x.2.1[k]).1.toNat:=rfl
  (repeat' first|intro _|(refine go _ ?_ ?_ ?_)|(refine go _ ?_ ?_)|(with_reducible apply And.intro))
  all_goals first|omega|(refine Prod.ext rfl ?_;refine @Eq.trans Int _ _ _ ?_ rfl;dsimp only;omega)|skip
 ·(repeat' first|intro _|(refine go _ ?_ ?_ ?_)|(refine go _ ?_ ?_)|(with_reducible apply And.intro))
  all_goals first|omega|(rw[List.take_of_length_le (by omega)];rfl)|skip
theorem bKP:Con.Holds Tryz.prog aCG:=aS aV aT bKD bL7
def aAC:Con:=⟨94,aG,tI,[.val ⟨true,aG,[]⟩],[⟨false,tI,[0]⟩],false,none,
 ((fun x=>aY aG x≤1000000000):(bF)→Prop),
 ((fun x=>oX x):(bF)→(Int))⟩
def aLQ:T:=.loop aP (.bPB tI tI (.ci .i64 0) (.ci .i64 0)) <|
 .bPA (.bPD 121 aA) (aK aG 1 (.Z 0)) <|
 .bPA (.cmp .lss .i64) (.bPB tI tI (.p1 tI tI (.Z 1)) (.Z 2)) <|
 .ite (.Z 3) (
  .bPA (.bPE 121 aA) (.bPB (.slice 121 aA) tI (aK aG 1 (.Z 0)) (.p1 tI tI (.Z 1))) <|
  .bPA (.bPD 95 aP) (aK aA 1 (.Z 4)) <|
  .bPA (.bPE 121 aA) (.bPB (.slice 121 aA) tI (aK aG 1 (.Z 0)) (.p1 tI tI (.Z 1))) <|
  .bPA (.mx .i64) (.bPB tI tI (.ci .i64 0) (.p1 tI dA (.Z 6))) <|
  .bPA (.ar .sub .i64) (.bPB tI tI (.Z 5) (.Z 7)) <|
  .bPA (.mx .i64) (.bPB tI tI (.ci .i64 0) (.Z 8)) <|
  .bPA (.ar .add .i64) (.bPB tI tI (aQ aP 1 (.Z 1)) (.Z 9)) <|
  .bPA (.ar .add .i64) (.bPB tI tI (.p1 tI tI (.Z 1)) (.ci .i64 1)) <|
  .bPC 0 (.bPB tI tI (.Z 11) (.Z 10))) (
  .ret (aQ aP 1 (.Z 1)))
theorem bHA:bN Tryz.prog [] aAC false 3000 ⟨[(2991,1001,[.dr 0,.tm 4 0,.tm 3 0])],[]⟩ = .ok aLQ:=by kernel_rfl
theorem bHO (x:bF) (hx:okD aG x) (hp:(fun x=>aY aG x≤1000000000) x):aLQ.wp [] [⟨aG,x⟩] [] (fun v=>v.as tI=(fun x=>oX x) x):=by
 have hp:aY aG x≤1000000000:=hp
 have hs0:=aR9 x.2.1
 have hz:=tE x
 have hl:List.length x.2.1≤aY (.slice 121 aA) x.2.1:=mM (e:=121) (t:=aA) x.2.1
 delta aLQ;refine dD ?_
 refine dM ?_
 refine cJ (fun k=>((k:Int),((((List.take k x.2.1).map uE).sum:Nat):Int))) (List.length x.2.1) rfl fun I μ k hk _ go=>?_
 dsimp only
 refine dM ?_
 have hs:=dQ uE x.2.1 k
 have hs2:=dQ uE x.2.1 (k+1)
 by_cases hk':k<List.length x.2.1
 ·have e:=fD uE x.2.1 k hk'
  have hlk:=aP1 hz hp hk'
  have hpcb:-9223372036854775808≤(x.2.1[k]).1∧(x.2.1[k]).1≤9223372036854775807:=(hx.2.1.2 _ (List.getElem_mem hk')).1
  simp only[aZ hk']
  have e9:uE (x.2.1[k])=List.length (x.2.1[k]).2.1 - (x.2.1[k]).1.toNat:=rfl
  (repeat' first|intro _|(refine go _ ?_ ?_ ?_)|(refine go _ ?_ ?_)|(with_reducible apply And.intro))
  all_goals first|omega|(refine Prod.ext rfl ?_;refine @Eq.trans Int _ _ _ ?_ rfl;dsimp only;omega)|skip
 ·(repeat' first|intro _|(refine go _ ?_ ?_ ?_)|(refine go _ ?_ ?_)|(with_reducible apply And.intro))
  all_goals first|omega|(rw[List.take_of_length_le (by omega)];rfl)|skip
theorem bI8:Con.Holds Tryz.prog aAC:=aS aV aT bHA bHO
def aCE:Con:=⟨97,aG,.bool,[.val ⟨true,aG,[]⟩],[⟨false,.bool,[0]⟩],false,none,
 ((fun x=>aY aG x≤1000000000):(bF)→Prop),
 ((fun x=>aPC x):(bF)→(Bool))⟩
def aKK:T :=
 .bPA (.bPD 121 aA) (aK aG 1 (.Z 0)) <|
 .bPA (.cmp .gtr .i64) (.bPB tI tI (.Z 1) (.ci .i64 0)) <|
 .ite (.Z 2) (
  .call 0 (.Z 0) <|
  .bPA (.cmp .eql .i64) (.bPB tI tI (.Z 3) (.ci .i64 0)) <|
  .ret (.Z 4)) (
  .ret (.cb false))
theorem bH4:bN Tryz.prog [aCG] aCE false 3000 ⟨[],[]⟩ = .ok aKK:=by kernel_rfl
theorem bGZ (x:bF) (hx:okD aG x) (hp:(fun x=>aY aG x≤1000000000) x):aKK.wp [aCG] [⟨aG,x⟩] [] (fun v=>v.as .bool=(fun x=>aPC x) x):=by
 delta aKK aCG;refine dD ?_
 (refine dM ?_;try with_reducible exact True.intro)
 (repeat' first|intro _|(with_reducible apply And.intro))
 all_goals first|exact hp|skip
 ·unfold aPC;rw[decide_eq_true (show 0<List.length x.2.1 by omega),Bool.true_and];rfl
 ·unfold aPC;rw[decide_eq_false (show ¬ 0<List.length x.2.1 by omega),Bool.false_and]
theorem bLA:Con.Holds Tryz.prog aCE:=aS aV (aH bKP aT) bH4 bGZ
def lQ:Con:=⟨105,aG,aB,[.val ⟨true,aG,[]⟩],[⟨false,aB,[2]⟩],false,none,
 ((fun x=>aY aG x≤1000000000):(bF)→Prop),
 ((fun x=>fW x):(bF)→(List Int))⟩
def tR:T :=
 .bPA (.bPD 121 aA) (aK aG 1 (.Z 0)) <|
 .loop aF (.bPB tI aB (.ci .i64 0) (.nl 3 tI)) <|
  .bPA (.cmp .lss .i64) (.bPB tI tI (.p1 tI aB (.Z 2)) (.Z 1)) <|
  .ite (.Z 3) (
   .call 0 (.bPB aG tI (.Z 0) (.p1 tI aB (.Z 2))) <|
   .ite (.Z 4) (
    .bPA (.lit 3 tI 1) (.p1 tI aB (.Z 2)) <|
    .bPA (.bPG 3 tI 8) (.bPB aB aB (aQ aF 1 (.Z 2)) (.Z 5)) <|
    .bPA (.ar .add .i64) (.bPB tI tI (.p1 tI aB (.Z 2)) (.ci .i64 1)) <|
    .bPC 0 (.bPB tI aB (.Z 7) (.Z 6))) (
    .bPA (.ar .add .i64) (.bPB tI tI (.p1 tI aB (.Z 2)) (.ci .i64 1)) <|
    .bPC 0 (.bPB tI aB (.Z 5) (aQ aF 1 (.Z 2))))) (
   .ret (aQ aF 1 (.Z 2)))
theorem aM4:bN Tryz.prog [kK] lQ false 3000 ⟨[(2991,1002,iL 7 5++[.dr 0,.tm 9 0,.on 3,.sl 2])],[]⟩ = .ok tR:=by kernel_rfl
theorem aLT (x:bF) (hx:okD aG x) (hp:(fun x=>aY aG x≤1000000000) x):tR.wp [kK] [⟨aG,x⟩] [] (fun v=>v.as aB=(fun x=>fW x) x):=by
 have hp:aY aG x≤1000000000:=hp
 have hz:=tE x
 have hl:List.length x.2.1≤aY (.slice 121 aA) x.2.1:=mM (e:=121) (t:=aA) x.2.1
 delta tR kK;refine dD ?_
 refine dM ?_
 intro _
 refine cJ (fun k=>((k:Int),aG0 x k)) (List.length x.2.1) rfl fun I μ k hk _ go=>?_
 dsimp only
 refine dM ?_
 have hw:=aG1 x k
 (repeat' first|intro _|(refine go _ ?_ ?_ ?_)|(refine go _ ?_ ?_)|(with_reducible apply And.intro))
 all_goals first|omega|(unfold maxLen;omega)|(rw[aG0,if_pos (by assumption)];rfl)|(rw[aG0,if_neg (by simp_all),List.append_nil];rfl)|(have e:k=List.length x.2.1:=(by omega);subst e;rfl)|skip
theorem aMP:Con.Holds Tryz.prog lQ:=aS aV (aH aII aT) aM4 aLT
def lU:Con:=⟨55,aG,aB,[.val ⟨true,aG,[]⟩],[⟨false,aB,[2]⟩],false,none,
 ((fun x=>aY aG x≤1000000000):(bF)→Prop),
 ((fun x=>fW x):(bF)→(List Int))⟩
def sT:T:=.loop aF (.bPB tI aB (.ci .i64 0) (.nl 3 tI)) <|
 .bPA (.bPD 121 aA) (aK aG 1 (.Z 0)) <|
 .bPA (.cmp .lss .i64) (.bPB tI tI (.p1 tI aB (.Z 1)) (.Z 2)) <|
 .ite (.Z 3) (
  .call 0 (.bPB aG tI (.Z 0) (.p1 tI aB (.Z 1))) <|
  .ite (.Z 4) (
   .bPA (.lit 3 tI 1) (.p1 tI aB (.Z 1)) <|
   .bPA (.bPG 3 tI 8) (.bPB aB aB (aQ aF 1 (.Z 1)) (.Z 5)) <|
   .bPA (.ar .add .i64) (.bPB tI tI (.p1 tI aB (.Z 1)) (.ci .i64 1)) <|
   .bPC 0 (.bPB tI aB (.Z 7) (.Z 6))) (
   .bPA (.ar .add .i64) (.bPB tI tI (.p1 tI aB (.Z 1)) (.ci .i64 1)) <|
   .bPC 0 (.bPB tI aB (.Z 5) (aQ aF 1 (.Z 1))))) (
  .ret (aQ aF 1 (.Z 1)))
theorem aN9:bN Tryz.prog [kO] lU false 3000 ⟨[(2991,1001,[.dr 5,.dr 0,.tm 4 0,.on 3,.sl 2])],[]⟩ = .ok sT:=by kernel_rfl
theorem aMN (x:bF) (hx:okD aG x) (hp:(fun x=>aY aG x≤1000000000) x):sT.wp [kO] [⟨aG,x⟩] [] (fun v=>v.as aB=(fun x=>fW x) x):=by
 have hp:aY aG x≤1000000000:=hp
 have hz:=tE x
 have hl:List.length x.2.1≤aY (.slice 121 aA) x.2.1:=mM (e:=121) (t:=aA) x.2.1
 delta sT kO;refine dD ?_
 refine dM ?_
 refine cJ (fun k=>((k:Int),aG0 x k)) (List.length x.2.1) rfl fun I μ k hk _ go=>?_
 dsimp only
 refine dM ?_
 have hw:=aG1 x k
 (repeat' first|intro _|(refine go _ ?_ ?_ ?_)|(refine go _ ?_ ?_)|(with_reducible apply And.intro))
 all_goals first|omega|(unfold maxLen;omega)|(rw[aG0,if_pos (by assumption)];rfl)|(rw[aG0,if_neg (by simp_all),List.append_nil];rfl)|(have e:k=List.length x.2.1:=(by omega);subst e;rfl)|skip
theorem aLZ:Con.Holds Tryz.prog lU:=aS aV (aH aIN aT) aN9 aMN
end
end Go.Proofs.YtmfpkkbhnmkfdaaGreat
