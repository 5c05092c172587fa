/- CoreL: lemmas. No conditions. -/
import Derived.Test.YtiihghfoeinbbaaGreatCore9
namespace Go.Proofs.YtiihghfoeinbbaaGreat
noncomputable section
set_option maxRecDepth 100000
open Go.ChangeShapes Go.WideShapes Go.ChangeAt Go.RowKit Go.Deep
set_option linter.unusedVariables false
set_option linter.unusedSimpArgs false
def iF (r:cV):Nat:=(r.map List.length).sum
def aD6 (l:List eZ):Nat:=(l.map fun x=>iF x.2).sum
def aS0 (s:bC):Int:=((s.2.2.2.2.2.2.2.1.length+s.2.2.2.2.2.2.2.2.1.length+s.2.2.2.2.2.2.2.2.2.1.length+s.2.2.2.2.2.2.2.2.2.2.1.length+iF s.2.2.2.2.2.2.1+aD6 s.2.2.2.2.2.1:Nat):Int)
theorem aDX {r:cV} {k:Nat} (h:k<r.length):((r.take (k+1)).map List.length).sum=((r.take k).map List.length).sum+r[k].length:=fQ List.length r k h
theorem aGA {α:Type} (f g:α→Nat):(l:List α)→(∀ x∈l,f x≤g x)→(l.map f).sum≤(l.map g).sum
 | [],_=>Nat.le_refl _
 | a :: l,h=>by
  have h1:=h a (by simp)
  have h2:=aGA f g l fun x hx=>h x (by simp[hx])
  simp only[List.map_cons,List.sum_cons];omega
theorem fR {α:Type} (f:α→Nat) (l:List α) (k:Nat):((l.take k).map f).sum≤(l.map f).sum:=by
 have e:(l.map f).sum=((l.take k++l.drop k).map f).sum:=by rw[List.take_append_drop]
 rw[e,List.map_append,List.sum_append];omega
theorem zY (r:cV):iF r≤bD aH r:=by
 have h:=aGA List.length (bD aF8) r fun x _=>by have e:=eA x;have e2:bD aF8 x=bD aB x:=rfl;omega
 have e:bD aH r=r.length+(r.map (bD aF8)).sum:=rfl
 unfold iF;omega
theorem aTC (l:List eZ):aD6 l≤bD oG l:=by
 have h:=aGA (fun x:eZ=>iF x.2) (bD aD) l fun x _=>by have e:=zY x.2;have e2:bD aD x=0+bD aH x.2:=rfl;omega
 have e:bD oG l=l.length+(l.map (bD aD)).sum:=rfl
 unfold aD6;omega
def pV:Con:=⟨175,aH,tI,[.val ⟨false,aH,[]⟩],[⟨false,tI,[0]⟩],false,none,
 ((fun x=>bD aH x≤1000000000):(cV)→Prop),
 ((fun x=>((iF x:Nat):Int)):(cV)→(Int))⟩
def aAC:T :=
 .bMD (.bMG 156 aB) (.Z 0) <|
 .loop aO (.bME tI tI (.ci .i64 0) (.ci .i64 0)) <|
  .bMD (.cmp .lss .i64) (.bME tI tI (.p1 tI tI (.Z 2)) (.Z 1)) <|
  .ite (.Z 3) (
   .bMD (.bMH 156 aB) (.bME aH tI (.Z 0) (.p1 tI tI (.Z 2))) <|
   .bMD (.bMG 3 tI) (.Z 4) <|
   .bMD (.ar .add .i64) (.bME tI tI (aQ aO 1 (.Z 2)) (.Z 5)) <|
   .bMD (.ar .add .i64) (.bME tI tI (.p1 tI tI (.Z 2)) (.ci .i64 1)) <|
   .bMF 0 (.bME tI tI (.Z 7) (.Z 6))) (
   .ret (aQ aO 1 (.Z 2)))
theorem aU8:bL Tryz.prog [] pV false 3000 ⟨[(2991,1002,[.dr 0,.tm 8 0,.tm 3 0])],[]⟩ = .ok aAC:=by kernel_rfl
theorem aUC (x:cV) (hx:okD aH x) (hp:(fun x=>bD aH x≤1000000000) x):aAC.wp [] [⟨aH,x⟩] [] (fun v=>v.as tI=(fun x=>((iF x:Nat):Int)) x):=by
 have hw:=zY x
 have hp:bD aH x≤1000000000:=hp
 have hl:List.length x≤1000000000:=(gX (t:=aH) hp).1
 delta aAC;refine dD ?_;try with_reducible exact True.intro
 (repeat' first|intro _|(with_reducible apply And.intro))
 refine cS (fun k=>((k:Int),((((List.take k x).map List.length).sum:Nat):Int))) (List.length x) rfl fun I μ k hk _ go=>?_
 dsimp only
 refine eE ?_
 have hs:=fR List.length x k
 have hs2:=fR List.length x (k+1)
 unfold iF at hw
 constructor
 ·intro hlt
  have hk':k<List.length x:=by omega
  have e:=aDX hk'
  simp only[aZ hk']
  (repeat' first|intro _|(refine go _ ?_ ?_ ?_)|(refine go _ ?_ ?_)|(with_reducible apply And.intro))
  all_goals first|omega|(refine Prod.ext rfl ?_;refine @Eq.trans Int _ _ _ ?_ rfl;dsimp only;omega)|skip
 ·intro hge
  rw[List.take_of_length_le (by omega)];rfl
theorem aRP:Con.Holds Tryz.prog pV:=aR aW aS aU8 aUC
def tA:Con:=⟨91,aA,tI,[.val ⟨true,aA,[]⟩],[⟨false,tI,[0]⟩],false,none,
 ((fun x=>bD aA x≤1000000000):(bC)→Prop),
 ((fun x=>aS0 x):(bC)→(Int))⟩
def aDS:T :=
 .bMD (.bMG 3 tI) (aJ aA 7 (.Z 0)) <|
 .bMD (.bMG 3 tI) (aJ aA 8 (.Z 0)) <|
 .bMD (.ar .add .i64) (.bME tI tI (.Z 1) (.Z 2)) <|
 .bMD (.bMG 3 tI) (aJ aA 9 (.Z 0)) <|
 .bMD (.ar .add .i64) (.bME tI tI (.Z 3) (.Z 4)) <|
 .bMD (.bMG 3 tI) (aJ aA 10 (.Z 0)) <|
 .bMD (.ar .add .i64) (.bME tI tI (.Z 5) (.Z 6)) <|
 .call 0 (aJ aA 6 (.Z 0)) <|
 .bMD (.ar .add .i64) (.bME tI tI (.Z 7) (.Z 8)) <|
 .bMD (.bMG 206 aD) (aJ aA 5 (.Z 0)) <|
 .loop aO (.bME tI tI (.ci .i64 0) (.Z 9)) <|
  .bMD (.cmp .lss .i64) (.bME tI tI (.p1 tI tI (.Z 11)) (.Z 10)) <|
  .ite (.Z 12) (
   .bMD (.bMH 206 aD) (.bME (.slice 206 aD) tI (aJ aA 5 (.Z 0)) (.p1 tI tI (.Z 11))) <|
   .call 0 (aQ aD 1 (.Z 13)) <|
   .bMD (.ar .add .i64) (.bME tI tI (aQ aO 1 (.Z 11)) (.Z 14)) <|
   .bMD (.ar .add .i64) (.bME tI tI (.p1 tI tI (.Z 11)) (.ci .i64 1)) <|
   .bMF 0 (.bME tI tI (.Z 16) (.Z 15))) (
   .ret (aQ aO 1 (.Z 11)))
theorem aZ6:bL Tryz.prog [pV] tA false 3000 ⟨[(2991,1011,iQ 25 22++iQ 20 18++iQ 16 14++iQ 12 10++[.dr 8,.dr 7,.dr 21,.dr 17,.dr 13,.dr 9,.dr 6,.dr 1,.dr 0,.tm 28 0,.tm 3 0])],[]⟩ = .ok aDS:=by kernel_rfl
theorem aVU (x:bC) (hx:okD aA x) (hp:(fun x=>bD aA x≤1000000000) x):aDS.wp [pV] [⟨aA,x⟩] [] (fun v=>v.as tI=(fun x=>aS0 x) x):=by
 have hp:bD aA x≤1000000000:=hp
 have h1:=zY x.2.2.2.2.2.2.1
 have h2:=aTC x.2.2.2.2.2.1
 have h3:=gI x
 have hl:List.length x.2.2.2.2.2.1≤1000000000:=(gX (t:=aA) hp).2.2.2.2.2.1.1
 have hm:∀ k (hk:k<List.length x.2.2.2.2.2.1),bD aH (x.2.2.2.2.2.1[k]).2≤1000000000:=fun k hk=>by
  have h:=yT (e:=206) (t:=aD) (List.getElem_mem hk)
  have e:bD aD (x.2.2.2.2.2.1[k])=0+bD aH (x.2.2.2.2.2.1[k]).2:=rfl
  have e2:bD oG x.2.2.2.2.2.1=bD (.slice 206 aD) x.2.2.2.2.2.1:=rfl
  omega
 delta aDS pV;refine dD ?_
 refine eE ?_
 unfold aD6 at h2
 (repeat' first|intro _|(with_reducible apply And.intro))
 all_goals first|omega|skip
 refine cS (fun k=>((k:Int),(((List.length x.2.2.2.2.2.2.2.1:Nat):Int)+((List.length x.2.2.2.2.2.2.2.2.1:Nat):Int)+((List.length x.2.2.2.2.2.2.2.2.2.1:Nat):Int)+((List.length x.2.2.2.2.2.2.2.2.2.2.1:Nat):Int)+((iF x.2.2.2.2.2.2.1:Nat):Int))+((((List.take k x.2.2.2.2.2.1).map fun y=>iF y.2).sum:Nat):Int))) (List.length x.2.2.2.2.2.1) (Prod.ext rfl (Int.add_zero _).symm) fun I μ k hk _ go=>?_
 dsimp only
 refine eE ?_
 have hs:=fR (fun y:eZ=>iF y.2) x.2.2.2.2.2.1 k
 have hs2:=fR (fun y:eZ=>iF y.2) x.2.2.2.2.2.1 (k+1)
 constructor
 ·intro hlt
  have hk':k<List.length x.2.2.2.2.2.1:=by omega
  have e:=fQ (fun y:eZ=>iF y.2) x.2.2.2.2.2.1 k hk'
  have hmk:=hm k hk'
  simp only[aZ hk']
  try dsimp only at e
  (repeat' first|intro _|(refine go _ ?_ ?_ ?_)|(refine go _ ?_ ?_)|(with_reducible apply And.intro))
  all_goals first|omega|exact hmk|(refine Prod.ext rfl ?_;refine @Eq.trans Int _ _ _ ?_ rfl;dsimp only;omega)|skip
 ·intro hge
  rw[List.take_of_length_le (by omega)]
  refine @Eq.trans Int _ _ _ ?_ rfl
  unfold aS0 aD6
  omega
theorem aWX:Con.Holds Tryz.prog tA:=aR aW (aG aRP aS) aZ6 aVU
def rW:Con:=⟨84,aA,tI,[.val ⟨true,aA,[]⟩],[⟨false,tI,[0]⟩],false,none,
 ((fun x=>bD aA x≤1000000000):(bC)→Prop),
 ((fun x=>aS0 x):(bC)→(Int))⟩
def aCU:T :=
 .bMD (.bMG 3 tI) (aJ aA 7 (.Z 0)) <|
 .bMD (.bMG 3 tI) (aJ aA 8 (.Z 0)) <|
 .bMD (.ar .add .i64) (.bME tI tI (.Z 1) (.Z 2)) <|
 .bMD (.bMG 3 tI) (aJ aA 9 (.Z 0)) <|
 .bMD (.ar .add .i64) (.bME tI tI (.Z 3) (.Z 4)) <|
 .bMD (.bMG 3 tI) (aJ aA 10 (.Z 0)) <|
 .bMD (.ar .add .i64) (.bME tI tI (.Z 5) (.Z 6)) <|
 .loop aO (.bME tI tI (.ci .i64 0) (.Z 7)) <|
  .bMD (.bMG 206 aD) (aJ aA 5 (.Z 0)) <|
  .bMD (.cmp .lss .i64) (.bME tI tI (.p1 tI tI (.Z 8)) (.Z 9)) <|
  .ite (.Z 10) (
   .loop aO (.bME tI tI (.ci .i64 0) (aQ aO 1 (.Z 8))) <|
    .bMD (.bMH 206 aD) (.bME (.slice 206 aD) tI (aJ aA 5 (.Z 0)) (.p1 tI tI (.Z 8))) <|
    .bMD (.bMG 156 aB) (aQ aD 1 (.Z 12)) <|
    .bMD (.cmp .lss .i64) (.bME tI tI (.p1 tI tI (.Z 11)) (.Z 13)) <|
    .ite (.Z 14) (
     .bMD (.bMH 206 aD) (.bME (.slice 206 aD) tI (aJ aA 5 (.Z 0)) (.p1 tI tI (.Z 8))) <|
     .bMD (.bMH 156 aB) (.bME aH tI (aQ aD 1 (.Z 15)) (.p1 tI tI (.Z 11))) <|
     .bMD (.bMG 3 tI) (.Z 16) <|
     .bMD (.ar .add .i64) (.bME tI tI (aQ aO 1 (.Z 11)) (.Z 17)) <|
     .bMD (.ar .add .i64) (.bME tI tI (.p1 tI tI (.Z 11)) (.ci .i64 1)) <|
     .bMF 0 (.bME tI tI (.Z 19) (.Z 18))) (
     .bMD (.ar .add .i64) (.bME tI tI (.p1 tI tI (.Z 8)) (.ci .i64 1)) <|
     .bMF 1 (.bME tI tI (.Z 15) (aQ aO 1 (.Z 11))))) (
   .loop aO (.bME tI tI (.ci .i64 0) (aQ aO 1 (.Z 8))) <|
    .bMD (.bMG 156 aB) (aJ aA 6 (.Z 0)) <|
    .bMD (.cmp .lss .i64) (.bME tI tI (.p1 tI tI (.Z 11)) (.Z 12)) <|
    .ite (.Z 13) (
     .bMD (.bMH 156 aB) (.bME aH tI (aJ aA 6 (.Z 0)) (.p1 tI tI (.Z 11))) <|
     .bMD (.bMG 3 tI) (.Z 14) <|
     .bMD (.ar .add .i64) (.bME tI tI (aQ aO 1 (.Z 11)) (.Z 15)) <|
     .bMD (.ar .add .i64) (.bME tI tI (.p1 tI tI (.Z 11)) (.ci .i64 1)) <|
     .bMF 0 (.bME tI tI (.Z 17) (.Z 16))) (
     .ret (aQ aO 1 (.Z 11))))
theorem aYX:bL Tryz.prog [] rW false 3000 ⟨[(2991,1008,iQ 21 7++[.dr 0,.tm 4 0,.tm 3 0]),(2980,3011,[.tm 5 0,.tm 3 0]),(2981,2011,iQ 26 22++[.dr 4,.tm 6 0,.tm 3 0])],[]⟩ = .ok aCU:=by kernel_rfl
theorem aW5 (x:bC) (hx:okD aA x) (hp:(fun x=>bD aA x≤1000000000) x):aCU.wp [] [⟨aA,x⟩] [] (fun v=>v.as tI=(fun x=>aS0 x) x):=by
 have hp:bD aA x≤1000000000:=hp
 have h1:=zY x.2.2.2.2.2.2.1
 have h2:=aTC x.2.2.2.2.2.1
 have h3:=gI x
 have hl:List.length x.2.2.2.2.2.1≤1000000000:=(gX (t:=aA) hp).2.2.2.2.2.1.1
 have hm:∀ k (hk:k<List.length x.2.2.2.2.2.1),bD aH (x.2.2.2.2.2.1[k]).2≤1000000000:=fun k hk=>by
  have h:=yT (e:=206) (t:=aD) (List.getElem_mem hk)
  have e:bD aD (x.2.2.2.2.2.1[k])=0+bD aH (x.2.2.2.2.2.1[k]).2:=rfl
  have e2:bD oG x.2.2.2.2.2.1=bD (.slice 206 aD) x.2.2.2.2.2.1:=rfl
  omega
 have hlf:List.length x.2.2.2.2.2.2.1≤1000000000:=(gX (t:=aA) hp).2.2.2.2.2.2.1.1
 delta aCU;refine dD ?_
 refine eE ?_
 unfold aD6 at h2
 (repeat' first|intro _|(with_reducible apply And.intro))
 all_goals first|omega|skip
 refine cS (fun k=>((k:Int),(((List.length x.2.2.2.2.2.2.2.1:Nat):Int)+((List.length x.2.2.2.2.2.2.2.2.1:Nat):Int)+((List.length x.2.2.2.2.2.2.2.2.2.1:Nat):Int)+((List.length x.2.2.2.2.2.2.2.2.2.2.1:Nat):Int))+((((List.take k x.2.2.2.2.2.1).map fun y=>iF y.2).sum:Nat):Int))) (List.length x.2.2.2.2.2.1) (Prod.ext rfl (Int.add_zero _).symm) fun I μ k hk _ go=>?_
 dsimp only
 refine eE ?_
 intro _
 have hs:=fR (fun y:eZ=>iF y.2) x.2.2.2.2.2.1 k
 have hs2:=fR (fun y:eZ=>iF y.2) x.2.2.2.2.2.1 (k+1)
 constructor
 ·intro hlt
  have hk':k<List.length x.2.2.2.2.2.1:=by omega
  have e:=fQ (fun y:eZ=>iF y.2) x.2.2.2.2.2.1 k hk'
  have hmk:=hm k hk'
  have hwk:=zY (x.2.2.2.2.2.1[k]).2
  have hlk:List.length (x.2.2.2.2.2.1[k]).2≤1000000000:=(gX (t:=aH) hmk).1
  simp only[aZ hk']
  try dsimp only at e
  refine cS (fun j=>((j:Int),((((List.length x.2.2.2.2.2.2.2.1:Nat):Int)+((List.length x.2.2.2.2.2.2.2.2.1:Nat):Int)+((List.length x.2.2.2.2.2.2.2.2.2.1:Nat):Int)+((List.length x.2.2.2.2.2.2.2.2.2.2.1:Nat):Int))+((((List.take k x.2.2.2.2.2.1).map fun y=>iF y.2).sum:Nat):Int))+((((List.take j (x.2.2.2.2.2.1[k]).2).map List.length).sum:Nat):Int))) (List.length (x.2.2.2.2.2.1[k]).2) (Prod.ext rfl (Int.add_zero _).symm) fun I2 μ2 j hj _ go2=>?_
  dsimp only
  refine eE ?_
  have ht:=fR List.length (x.2.2.2.2.2.1[k]).2 j
  have ht2:=fR List.length (x.2.2.2.2.2.1[k]).2 (j+1)
  unfold iF at hwk
  refine ⟨by omega,fun _ _=>⟨fun hlj=>?_,fun hgj=>?_⟩⟩
  ·have hj':j<List.length (x.2.2.2.2.2.1[k]).2:=by omega
   have e2:=aDX hj'
   simp only[aZ hj']
   (repeat' first|intro _|(refine go2 _ ?_ ?_ ?_)|(refine go2 _ ?_ ?_)|(refine go _ ?_ ?_ ?_)|(refine go _ ?_ ?_)|(with_reducible apply And.intro))
   all_goals first|omega|(refine Prod.ext rfl ?_;refine @Eq.trans Int _ _ _ ?_ rfl;dsimp only;omega)|skip
  ·rw[show List.take j (x.2.2.2.2.2.1[k]).2=(x.2.2.2.2.2.1[k]).2 from List.take_of_length_le (by omega)]
   have e3:((x.2.2.2.2.2.1[k]).2.map List.length).sum=iF (x.2.2.2.2.2.1[k]).2:=rfl
   (repeat' first|intro _|(refine go _ ?_ ?_ ?_)|(refine go _ ?_ ?_)|(with_reducible apply And.intro))
   all_goals first|omega|(refine Prod.ext rfl ?_;refine @Eq.trans Int _ _ _ ?_ rfl;dsimp only;omega)|skip
 ·intro hge
  rw[List.take_of_length_le (by omega)]
  clear go
  unfold iF at h1
  refine cS (fun j=>((j:Int),((((List.length x.2.2.2.2.2.2.2.1:Nat):Int)+((List.length x.2.2.2.2.2.2.2.2.1:Nat):Int)+((List.length x.2.2.2.2.2.2.2.2.2.1:Nat):Int)+((List.length x.2.2.2.2.2.2.2.2.2.2.1:Nat):Int))+(((x.2.2.2.2.2.1.map fun y=>iF y.2).sum:Nat):Int))+((((List.take j x.2.2.2.2.2.2.1).map List.length).sum:Nat):Int))) (List.length x.2.2.2.2.2.2.1) (Prod.ext rfl (Int.add_zero _).symm) fun I2 μ2 j hj _ go=>?_
  dsimp only
  refine eE ?_
  intro _
  have ht:=fR List.length x.2.2.2.2.2.2.1 j
  have ht2:=fR List.length x.2.2.2.2.2.2.1 (j+1)
  constructor
  ·intro hlj
   have hj':j<List.length x.2.2.2.2.2.2.1:=by omega
   have e2:=aDX hj'
   simp only[aZ hj']
   (repeat' first|intro _|(refine go _ ?_ ?_ ?_)|(refine go _ ?_ ?_)|(with_reducible apply And.intro))
   all_goals first|omega|(refine Prod.ext rfl ?_;refine @Eq.trans Int _ _ _ ?_ rfl;dsimp only;omega)|skip
  ·intro hgj
   rw[List.take_of_length_le (by omega)]
   refine @Eq.trans Int _ _ _ ?_ rfl
   unfold aS0 aD6 iF
   omega
theorem aYB:Con.Holds Tryz.prog rW:=aR aW aS aYX aW5
end
end Go.Proofs.YtiihghfoeinbbaaGreat
