/- CoreL: lemmas. No conditions. -/
import Derived.Test.YtabamggdmdednaaGreatCore9
namespace Go.Proofs.YtabamggdmdednaaGreat
noncomputable section
set_option maxRecDepth 100000
open Go.ChangeShapes Go.WideShapes Go.ChangeAt Go.RowKit Go.Deep
set_option linter.unusedVariables false
set_option linter.unusedSimpArgs false
def iO (r:cZ):Nat:=(r.map List.length).sum
def aF3 (l:List eX):Nat:=(l.map fun x=>iO x.2).sum
def bC6 (s:bC):Int:=((s.2.2.2.2.2.2.2.1.length+s.2.2.2.2.2.2.2.2.1.length+s.2.2.2.2.2.2.2.2.2.1.length+s.2.2.2.2.2.2.2.2.2.2.1.length+iO s.2.2.2.2.2.2.1+aF3 s.2.2.2.2.2.1:Nat):Int)
def sN (s:bC):Nat:=s.2.1.length - s.1.toNat
def qL (p:bE):Int:=(((p.2.1.map sN).sum:Nat):Int)
def aQO (p:bE):Bool:=decide (0<p.2.1.length)&&decide (qL p=0)
def aH2 (p:bE):Nat→List Int
 | 0=>[]
 | k+1=>aH2 p k++(if dV p (k:Int)=true then [(k:Int)] else [])
def fF (p:bE):List Int:=aH2 p p.2.1.length
theorem aH9 (p:bE):(k:Nat)→(aH2 p k).length≤k
 | 0=>Nat.le_refl _
 | k+1=>by
  have:=aH9 p k
  rw[aH2,List.length_append]
  split
  ·simp;omega
  ·simp;omega
theorem aFW {r:cZ} {k:Nat} (h:k<r.length):((r.take (k+1)).map List.length).sum=((r.take k).map List.length).sum+r[k].length:=kR List.length r k h
theorem aDS {α:Type} (f g:α→Nat):(l:List α)→(∀ x∈l,f x≤g x)→(l.map f).sum≤(l.map g).sum
 | [],_=>Nat.le_refl _
 | a :: l,h=>by
  have h1:=h a (by simp)
  have h2:=aDS f g l fun x hx=>h x (by simp[hx])
  simp only[List.map_cons,List.sum_cons];omega
theorem dO {α:Type} (f:α→Nat) (l:List α) (k:Nat):((l.take k).map f).sum≤(l.map f).sum:=by
 have e:(l.map f).sum=((l.take k++l.drop k).map f).sum:=by rw[List.take_append_drop]
 rw[e,List.map_append,List.sum_append];omega
theorem bN9 (s:bC):sN s≤bM aA s:=by
 have h:List.length s.2.1≤bM aU s.2.1:=mI (e:=102) (t:=aD) s.2.1
 have h3:=fN s
 unfold sN;omega
theorem aV0 (l:List bC):(l.map sN).sum≤bM (.slice 55 aA) l:=by
 have h:=aDS sN (bM aA) l fun x _=>bN9 x
 have e:bM (.slice 55 aA) l=l.length+(l.map (bM aA)).sum:=rfl
 omega
theorem bOJ (p:bE):0≤qL p∧qL p≤(bM aJ p:Nat):=by
 have h:=aV0 p.2.1
 have e:=wV p
 unfold qL;omega
theorem aBY (r:cZ):iO r≤bM aL r:=by
 have h:=aDS List.length (bM aHZ) r fun x _=>by have e:=gO x;have e2:bM aHZ x=bM aB x:=rfl;omega
 have e:bM aL r=r.length+(r.map (bM aHZ)).sum:=rfl
 unfold iO;omega
theorem aWU (l:List eX):aF3 l≤bM pI l:=by
 have h:=aDS (fun x:eX=>iO x.2) (bM aF) l fun x _=>by have e:=aBY x.2;have e2:bM aF x=0+bM aL x.2:=rfl;omega
 have e:bM pI l=l.length+(l.map (bM aF)).sum:=rfl
 unfold aF3;omega
theorem bPG (s:bC):List.length s.2.1≤bM aA s:=by
 have h:List.length s.2.1≤bM aU s.2.1:=mI (e:=102) (t:=aD) s.2.1
 have h3:=fN s
 omega
theorem aRF {p:bE} (hz:bM aJ p=bM aG p.1+(bM (.slice 55 aA) p.2.1+(bM aM p.2.2.1+bM aM p.2.2.2))) (hp:bM aJ p≤1000000000) {k:Nat} (hk:k<List.length p.2.1):List.length (p.2.1[k]).2.1≤1000000000:=by
 have h5:bM aA (p.2.1[k])≤bM (.slice 55 aA) p.2.1:=sC (List.getElem_mem hk)
 have h6:=bPG (p.2.1[k])
 omega
def qM:Con:=⟨35,aL,tI,[.val ⟨false,aL,[]⟩],[⟨false,tI,[0]⟩],false,none,
 ((fun x=>bM aL x≤1000000000):(cZ)→Prop),
 ((fun x=>((iO x:Nat):Int)):(cZ)→(Int))⟩
def aD6:T :=
 .bRX (.bS0 119 aB) (.Z 0) <|
 .loop aD (.bRY tI tI (.ci .i64 0) (.ci .i64 0)) <|
  .bRX (.cmp .lss .i64) (.bRY tI tI (.p1 tI tI (.Z 2)) (.Z 1)) <|
  .ite (.Z 3) (
   .bRX (.bS1 119 aB) (.bRY aL tI (.Z 0) (.p1 tI tI (.Z 2))) <|
   .bRX (.bS0 3 tI) (.Z 4) <|
   .bRX (.ar .add .i64) (.bRY tI tI (aP aD 1 (.Z 2)) (.Z 5)) <|
   .bRX (.ar .add .i64) (.bRY tI tI (.p1 tI tI (.Z 2)) (.ci .i64 1)) <|
   .bRZ 0 (.bRY tI tI (.Z 7) (.Z 6))) (
   .ret (aP aD 1 (.Z 2)))
theorem aYJ:bI Tryz.prog [] qM false 3000 ⟨[(2991,1002,[.dr 0,.tm 8 0,.tm 3 0])],[]⟩ = .ok aD6:=by kernel_rfl
theorem aWT (x:cZ) (hx:okD aL x) (hp:(fun x=>bM aL x≤1000000000) x):aD6.wp [] [⟨aL,x⟩] [] (fun v=>v.as tI=(fun x=>((iO x:Nat):Int)) x):=by
 have hw:=aBY x
 have hp:bM aL x≤1000000000:=hp
 have hl:List.length x≤1000000000:=(gZ (t:=aL) hp).1
 delta aD6;refine cW ?_;try with_reducible exact True.intro
 (repeat' first|intro _|(with_reducible apply And.intro))
 refine cN (fun k=>((k:Int),((((List.take k x).map List.length).sum:Nat):Int))) (List.length x) rfl fun I μ k hk _ go=>?_
 dsimp only
 refine dB ?_
 have hs:=dO List.length x k
 have hs2:=dO List.length x (k+1)
 unfold iO at hw
 constructor
 ·intro hlt
  have hk':k<List.length x:=by omega
  have e:=aFW hk'
  simp only[aZ hk']
  (repeat' first|intro _|(refine go _ ?_ ?_ ?_)|(refine go _ ?_ ?_)|(with_reducible apply And.intro))
  all_goals first|omega|(refine Prod.ext rfl ?_;refine @Eq.trans Int _ _ _ ?_ rfl;dsimp only;omega)|skip
 ·intro hge
  rw[List.take_of_length_le (by omega)];rfl
theorem aYN:Con.Holds Tryz.prog qM:=aS aV aQ aYJ aWT
def tU:Con:=⟨15,aA,tI,[.val ⟨true,aA,[]⟩],[⟨false,tI,[0]⟩],false,none,
 ((fun x=>bM aA x≤1000000000):(bC)→Prop),
 ((fun x=>bC6 x):(bC)→(Int))⟩
def aFL:T :=
 .bRX (.bS0 3 tI) (aK aA 7 (.Z 0)) <|
 .bRX (.bS0 3 tI) (aK aA 8 (.Z 0)) <|
 .bRX (.ar .add .i64) (.bRY tI tI (.Z 1) (.Z 2)) <|
 .bRX (.bS0 3 tI) (aK aA 9 (.Z 0)) <|
 .bRX (.ar .add .i64) (.bRY tI tI (.Z 3) (.Z 4)) <|
 .bRX (.bS0 3 tI) (aK aA 10 (.Z 0)) <|
 .bRX (.ar .add .i64) (.bRY tI tI (.Z 5) (.Z 6)) <|
 .call 0 (aK aA 6 (.Z 0)) <|
 .bRX (.ar .add .i64) (.bRY tI tI (.Z 7) (.Z 8)) <|
 .bRX (.bS0 82 aF) (aK aA 5 (.Z 0)) <|
 .loop aD (.bRY tI tI (.ci .i64 0) (.Z 9)) <|
  .bRX (.cmp .lss .i64) (.bRY tI tI (.p1 tI tI (.Z 11)) (.Z 10)) <|
  .ite (.Z 12) (
   .bRX (.bS1 82 aF) (.bRY (.slice 82 aF) tI (aK aA 5 (.Z 0)) (.p1 tI tI (.Z 11))) <|
   .call 0 (aP aF 1 (.Z 13)) <|
   .bRX (.ar .add .i64) (.bRY tI tI (aP aD 1 (.Z 11)) (.Z 14)) <|
   .bRX (.ar .add .i64) (.bRY tI tI (.p1 tI tI (.Z 11)) (.ci .i64 1)) <|
   .bRZ 0 (.bRY tI tI (.Z 16) (.Z 15))) (
   .ret (aP aD 1 (.Z 11)))
theorem bDQ:bI Tryz.prog [qM] tU false 3000 ⟨[(2991,1011,gQ 25 22++gQ 20 18++gQ 16 14++gQ 12 10++[.dr 8,.dr 7,.dr 21,.dr 17,.dr 13,.dr 9,.dr 6,.dr 1,.dr 0,.tm 28 0,.tm 3 0])],[]⟩ = .ok aFL:=by kernel_rfl
theorem bE8 (x:bC) (hx:okD aA x) (hp:(fun x=>bM aA x≤1000000000) x):aFL.wp [qM] [⟨aA,x⟩] [] (fun v=>v.as tI=(fun x=>bC6 x) x):=by
 have hp:bM aA x≤1000000000:=hp
 have h1:=aBY x.2.2.2.2.2.2.1
 have h2:=aWU x.2.2.2.2.2.1
 have h3:=fN x
 have hl:List.length x.2.2.2.2.2.1≤1000000000:=(gZ (t:=aA) hp).2.2.2.2.2.1.1
 have hm:∀ k (hk:k<List.length x.2.2.2.2.2.1),bM aL (x.2.2.2.2.2.1[k]).2≤1000000000:=fun k hk=>by
  have h:=sC (e:=82) (t:=aF) (List.getElem_mem hk)
  have e:bM aF (x.2.2.2.2.2.1[k])=0+bM aL (x.2.2.2.2.2.1[k]).2:=rfl
  have e2:bM pI x.2.2.2.2.2.1=bM (.slice 82 aF) x.2.2.2.2.2.1:=rfl
  omega
 delta aFL qM;refine cW ?_
 refine dB ?_
 unfold aF3 at h2
 (repeat' first|intro _|(with_reducible apply And.intro))
 all_goals first|omega|skip
 refine cN (fun k=>((k:Int),(((List.length x.2.2.2.2.2.2.2.1:Nat):Int)+((List.length x.2.2.2.2.2.2.2.2.1:Nat):Int)+((List.length x.2.2.2.2.2.2.2.2.2.1:Nat):Int)+((List.length x.2.2.2.2.2.2.2.2.2.2.1:Nat):Int)+((iO x.2.2.2.2.2.2.1:Nat):Int))+((((List.take k x.2.2.2.2.2.1).map fun y=>iO y.2).sum:Nat):Int))) (List.length x.2.2.2.2.2.1) (Prod.ext rfl (Int.add_zero _).symm) fun I μ k hk _ go=>?_
 dsimp only
 refine dB ?_
 have hs:=dO (fun y:eX=>iO y.2) x.2.2.2.2.2.1 k
 have hs2:=dO (fun y:eX=>iO y.2) x.2.2.2.2.2.1 (k+1)
 constructor
 ·intro hlt
  have hk':k<List.length x.2.2.2.2.2.1:=by omega
  have e:=kR (fun y:eX=>iO y.2) x.2.2.2.2.2.1 k hk'
  have hmk:=hm k hk'
  simp only[aZ hk']
  try dsimp only at e
  (repeat' first|intro _|(refine go _ ?_ ?_ ?_)|(refine go _ ?_ ?_)|(with_reducible apply And.intro))
  all_goals first|omega|exact hmk|(refine Prod.ext rfl ?_;refine @Eq.trans Int _ _ _ ?_ rfl;dsimp only;omega)|skip
 ·intro hge
  rw[List.take_of_length_le (by omega)]
  refine @Eq.trans Int _ _ _ ?_ rfl
  unfold bC6 aF3
  omega
theorem bAE:Con.Holds Tryz.prog tU:=aS aV (aI aYN aQ) bDQ bE8
def tH:Con:=⟨40,aA,tI,[.val ⟨true,aA,[]⟩],[⟨false,tI,[0]⟩],false,none,
 ((fun x=>bM aA x≤1000000000):(bC)→Prop),
 ((fun x=>bC6 x):(bC)→(Int))⟩
def aGK:T :=
 .bRX (.bS0 3 tI) (aK aA 7 (.Z 0)) <|
 .bRX (.bS0 3 tI) (aK aA 8 (.Z 0)) <|
 .bRX (.ar .add .i64) (.bRY tI tI (.Z 1) (.Z 2)) <|
 .bRX (.bS0 3 tI) (aK aA 9 (.Z 0)) <|
 .bRX (.ar .add .i64) (.bRY tI tI (.Z 3) (.Z 4)) <|
 .bRX (.bS0 3 tI) (aK aA 10 (.Z 0)) <|
 .bRX (.ar .add .i64) (.bRY tI tI (.Z 5) (.Z 6)) <|
 .loop aD (.bRY tI tI (.ci .i64 0) (.Z 7)) <|
  .bRX (.bS0 82 aF) (aK aA 5 (.Z 0)) <|
  .bRX (.cmp .lss .i64) (.bRY tI tI (.p1 tI tI (.Z 8)) (.Z 9)) <|
  .ite (.Z 10) (
   .loop aD (.bRY tI tI (.ci .i64 0) (aP aD 1 (.Z 8))) <|
    .bRX (.bS1 82 aF) (.bRY (.slice 82 aF) tI (aK aA 5 (.Z 0)) (.p1 tI tI (.Z 8))) <|
    .bRX (.bS0 119 aB) (aP aF 1 (.Z 12)) <|
    .bRX (.cmp .lss .i64) (.bRY tI tI (.p1 tI tI (.Z 11)) (.Z 13)) <|
    .ite (.Z 14) (
     .bRX (.bS1 82 aF) (.bRY (.slice 82 aF) tI (aK aA 5 (.Z 0)) (.p1 tI tI (.Z 8))) <|
     .bRX (.bS1 119 aB) (.bRY aL tI (aP aF 1 (.Z 15)) (.p1 tI tI (.Z 11))) <|
     .bRX (.bS0 3 tI) (.Z 16) <|
     .bRX (.ar .add .i64) (.bRY tI tI (aP aD 1 (.Z 11)) (.Z 17)) <|
     .bRX (.ar .add .i64) (.bRY tI tI (.p1 tI tI (.Z 11)) (.ci .i64 1)) <|
     .bRZ 0 (.bRY tI tI (.Z 19) (.Z 18))) (
     .bRX (.ar .add .i64) (.bRY tI tI (.p1 tI tI (.Z 8)) (.ci .i64 1)) <|
     .bRZ 1 (.bRY tI tI (.Z 15) (aP aD 1 (.Z 11))))) (
   .loop aD (.bRY tI tI (.ci .i64 0) (aP aD 1 (.Z 8))) <|
    .bRX (.bS0 119 aB) (aK aA 6 (.Z 0)) <|
    .bRX (.cmp .lss .i64) (.bRY tI tI (.p1 tI tI (.Z 11)) (.Z 12)) <|
    .ite (.Z 13) (
     .bRX (.bS1 119 aB) (.bRY aL tI (aK aA 6 (.Z 0)) (.p1 tI tI (.Z 11))) <|
     .bRX (.bS0 3 tI) (.Z 14) <|
     .bRX (.ar .add .i64) (.bRY tI tI (aP aD 1 (.Z 11)) (.Z 15)) <|
     .bRX (.ar .add .i64) (.bRY tI tI (.p1 tI tI (.Z 11)) (.ci .i64 1)) <|
     .bRZ 0 (.bRY tI tI (.Z 17) (.Z 16))) (
     .ret (aP aD 1 (.Z 11))))
theorem bCR:bI Tryz.prog [] tH false 3000 ⟨[(2991,1008,gQ 21 7++[.dr 0,.tm 4 0,.tm 3 0]),(2980,3011,[.tm 5 0,.tm 3 0]),(2981,2011,gQ 26 22++[.dr 4,.tm 6 0,.tm 3 0])],[]⟩ = .ok aGK:=by kernel_rfl
theorem bCH (x:bC) (hx:okD aA x) (hp:(fun x=>bM aA x≤1000000000) x):aGK.wp [] [⟨aA,x⟩] [] (fun v=>v.as tI=(fun x=>bC6 x) x):=by
 have hp:bM aA x≤1000000000:=hp
 have h1:=aBY x.2.2.2.2.2.2.1
 have h2:=aWU x.2.2.2.2.2.1
 have h3:=fN x
 have hl:List.length x.2.2.2.2.2.1≤1000000000:=(gZ (t:=aA) hp).2.2.2.2.2.1.1
 have hm:∀ k (hk:k<List.length x.2.2.2.2.2.1),bM aL (x.2.2.2.2.2.1[k]).2≤1000000000:=fun k hk=>by
  have h:=sC (e:=82) (t:=aF) (List.getElem_mem hk)
  have e:bM aF (x.2.2.2.2.2.1[k])=0+bM aL (x.2.2.2.2.2.1[k]).2:=rfl
  have e2:bM pI x.2.2.2.2.2.1=bM (.slice 82 aF) x.2.2.2.2.2.1:=rfl
  omega
 have hlf:List.length x.2.2.2.2.2.2.1≤1000000000:=(gZ (t:=aA) hp).2.2.2.2.2.2.1.1
 delta aGK;refine cW ?_
 refine dB ?_
 unfold aF3 at h2
 (repeat' first|intro _|(with_reducible apply And.intro))
 all_goals first|omega|skip
 refine cN (fun k=>((k:Int),(((List.length x.2.2.2.2.2.2.2.1:Nat):Int)+((List.length x.2.2.2.2.2.2.2.2.1:Nat):Int)+((List.length x.2.2.2.2.2.2.2.2.2.1:Nat):Int)+((List.length x.2.2.2.2.2.2.2.2.2.2.1:Nat):Int))+((((List.take k x.2.2.2.2.2.1).map fun y=>iO y.2).sum:Nat):Int))) (List.length x.2.2.2.2.2.1) (Prod.ext rfl (Int.add_zero _).symm) fun I μ k hk _ go=>?_
 dsimp only
 refine dB ?_
 intro _
 have hs:=dO (fun y:eX=>iO y.2) x.2.2.2.2.2.1 k
 have hs2:=dO (fun y:eX=>iO y.2) x.2.2.2.2.2.1 (k+1)
 constructor
 ·intro hlt
  have hk':k<List.length x.2.2.2.2.2.1:=by omega
  have e:=kR (fun y:eX=>iO y.2) x.2.2.2.2.2.1 k hk'
  have hmk:=hm k hk'
  have hwk:=aBY (x.2.2.2.2.2.1[k]).2
  have hlk:List.length (x.2.2.2.2.2.1[k]).2≤1000000000:=(gZ (t:=aL) hmk).1
  simp only[aZ hk']
  try dsimp only at e
  refine cN (fun j=>((j:Int),((((List.length x.2.2.2.2.2.2.2.1:Nat):Int)+((List.length x.2.2.2.2.2.2.2.2.1:Nat):Int)+((List.length x.2.2.2.2.2.2.2.2.2.1:Nat):Int)+((List.length x.2.2.2.2.2.2.2.2.2.2.1:Nat):Int))+((((List.take k x.2.2.2.2.2.1).map fun y=>iO y.2).sum:Nat):Int))+((((List.take j (x.2.2.2.2.2.1[k]).2).map List.length).sum:Nat):Int))) (List.length (x.2.2.2.2.2.1[k]).2) (Prod.ext rfl (Int.add_zero _).symm) fun I2 μ2 j hj _ go2=>?_
  dsimp only
  refine dB ?_
  have ht:=dO List.length (x.2.2.2.2.2.1[k]).2 j
  have ht2:=dO List.length (x.2.2.2.2.2.1[k]).2 (j+1)
  unfold iO at hwk
  refine ⟨by omega,fun _ _=>⟨fun hlj=>?_,fun hgj=>?_⟩⟩
  ·have hj':j<List.length (x.2.2.2.2.2.1[k]).2:=by omega
   have e2:=aFW hj'
   simp only[aZ hj']
   (repeat' first|intro _|(refine go2 _ ?_ ?_ ?_)|(refine go2 _ ?_ ?_)|(refine go _ ?_ ?_ ?_)|(refine go _ ?_ ?_)|(with_reducible apply And.intro))
   all_goals first|omega|(refine Prod.ext rfl ?_;refine @Eq.trans Int _ _ _ ?_ rfl;dsimp only;omega)|skip
  ·rw[show List.take j (x.2.2.2.2.2.1[k]).2=(x.2.2.2.2.2.1[k]).2 from List.take_of_length_le (by omega)]
   have e3:((x.2.2.2.2.2.1[k]).2.map List.length).sum=iO (x.2.2.2.2.2.1[k]).2:=rfl
   (repeat' first|intro _|(refine go _ ?_ ?_ ?_)|(refine go _ ?_ ?_)|(with_reducible apply And.intro))
   all_goals first|omega|(refine Prod.ext rfl ?_;refine @Eq.trans Int _ _ _ ?_ rfl;dsimp only;omega)|skip
 ·intro hge
  rw[List.take_of_length_le (by omega)]
  clear go
  unfold iO at h1
  refine cN (fun j=>((j:Int),((((List.length x.2.2.2.2.2.2.2.1:Nat):Int)+((List.length x.2.2.2.2.2.2.2.2.1:Nat):Int)+((List.length x.2.2.2.2.2.2.2.2.2.1:Nat):Int)+((List.length x.2.2.2.2.2.2.2.2.2.2.1:Nat):Int))+(((x.2.2.2.2.2.1.map fun y=>iO y.2).sum:Nat):Int))+((((List.take j x.2.2.2.2.2.2.1).map List.length).sum:Nat):Int))) (List.length x.2.2.2.2.2.2.1) (Prod.ext rfl (Int.add_zero _).symm) fun I2 μ2 j hj _ go=>?_
  dsimp only
  refine dB ?_
  intro _
  have ht:=dO List.length x.2.2.2.2.2.2.1 j
  have ht2:=dO List.length x.2.2.2.2.2.2.1 (j+1)
  constructor
  ·intro hlj
   have hj':j<List.length x.2.2.2.2.2.2.1:=by omega
   have e2:=aFW hj'
   simp only[aZ hj']
   (repeat' first|intro _|(refine go _ ?_ ?_ ?_)|(refine go _ ?_ ?_)|(with_reducible apply And.intro))
   all_goals first|omega|(refine Prod.ext rfl ?_;refine @Eq.trans Int _ _ _ ?_ rfl;dsimp only;omega)|skip
  ·intro hgj
   rw[List.take_of_length_le (by omega)]
   refine @Eq.trans Int _ _ _ ?_ rfl
   unfold bC6 aF3 iO
   omega
theorem bE3:Con.Holds Tryz.prog tH:=aS aV aQ bCR bCH
def aB3:Con:=⟨31,aJ,tI,[.val ⟨true,aJ,[]⟩],[⟨false,tI,[0]⟩],false,none,
 ((fun x=>bM aJ x≤1000000000):(bE)→Prop),
 ((fun x=>qL x):(bE)→(Int))⟩
def aOI:T :=
 .bRX (.bS0 55 aA) (aK aJ 1 (.Z 0)) <|
 .loop aD (.bRY tI tI (.ci .i64 0) (.ci .i64 0)) <|
  .bRX (.cmp .lss .i64) (.bRY tI tI (.p1 tI tI (.Z 2)) (.Z 1)) <|
  .ite (.Z 3) (
   .bRX (.bS1 55 aA) (.bRY (.slice 55 aA) tI (aK aJ 1 (.Z 0)) (.p1 tI tI (.Z 2))) <|
   .bRX (.bS0 102 aD) (aK aA 1 (.Z 4)) <|
   .bRX (.mx .i64) (.bRY tI tI (.p1 tI dA (.Z 4)) (.ci .i64 0)) <|
   .bRX (.bS0 102 aD) (aK aA 1 (.Z 4)) <|
   .bRX (.mn .i64) (.bRY tI tI (.Z 6) (.Z 7)) <|
   .bRX (.ar .sub .i64) (.bRY tI tI (.Z 5) (.Z 8)) <|
   .bRX (.ar .add .i64) (.bRY tI tI (aP aD 1 (.Z 2)) (.Z 9)) <|
   .bRX (.ar .add .i64) (.bRY tI tI (.p1 tI tI (.Z 2)) (.ci .i64 1)) <|
   .bRZ 0 (.bRY tI tI (.Z 11) (.Z 10))) (
   .ret (aP aD 1 (.Z 2)))
theorem bMF:bI Tryz.prog [] aB3 false 3000 ⟨[(2991,1002,[.dr 6,.dr 1,.dr 0,.tm 9 0,.tm 3 0])],[]⟩ = .ok aOI:=by kernel_rfl
theorem bKT (x:bE) (hx:okD aJ x) (hp:(fun x=>bM aJ x≤1000000000) x):aOI.wp [] [⟨aJ,x⟩] [] (fun v=>v.as tI=(fun x=>qL x) x):=by
 have hp:bM aJ x≤1000000000:=hp
 have hs0:=aV0 x.2.1
 have hz:=wV x
 have hl:List.length x.2.1≤bM (.slice 55 aA) x.2.1:=mI (e:=55) (t:=aA) x.2.1
 delta aOI;refine cW ?_
 (refine dB ?_;try with_reducible exact True.intro)
 (repeat' first|intro _|(with_reducible apply And.intro))
 refine cN (fun k=>((k:Int),((((List.take k x.2.1).map sN).sum:Nat):Int))) (List.length x.2.1) rfl fun I μ k hk _ go=>?_
 dsimp only
 refine dB ?_
 have hs:=dO sN x.2.1 k
 have hs2:=dO sN x.2.1 (k+1)
 by_cases hk':k<List.length x.2.1
 ·have e:=kR sN x.2.1 k hk'
  have hlk:=aRF hz hp hk'
  have hpcb:-9223372036854775808≤(x.2.1[k]).1∧(x.2.1[k]).1≤9223372036854775807:=(hx.2.1.2 _ (List.getElem_mem hk')).1
  simp only[aZ hk']
  have e9:sN (x.2.1[k])=List.length (x.2.1[k]).2.1 - (x.2.1[k]).1.toNat:=rfl
  (repeat' first|intro _|(refine go _ ?_ ?_ ?_)|(refine go _ ?_ ?_)|(with_reducible apply And.intro))
  all_goals first|omega|(refine Prod.ext rfl ?_;refine @Eq.trans Int _ _ _ ?_ rfl;dsimp only;omega)|skip
 ·(repeat' first|intro _|(refine go _ ?_ ?_ ?_)|(refine go _ ?_ ?_)|(with_reducible apply And.intro))
  all_goals first|omega|(rw[List.take_of_length_le (by omega)];rfl)|skip
theorem bL0:Con.Holds Tryz.prog aB3:=aS aV aQ bMF bKT
def aC7:Con:=⟨38,aJ,tI,[.val ⟨true,aJ,[]⟩],[⟨false,tI,[0]⟩],false,none,
 ((fun x=>bM aJ x≤1000000000):(bE)→Prop),
 ((fun x=>qL x):(bE)→(Int))⟩
def aN3:T:=.loop aD (.bRY tI tI (.ci .i64 0) (.ci .i64 0)) <|
 .bRX (.bS0 55 aA) (aK aJ 1 (.Z 0)) <|
 .bRX (.cmp .lss .i64) (.bRY tI tI (.p1 tI tI (.Z 1)) (.Z 2)) <|
 .ite (.Z 3) (
  .bRX (.bS1 55 aA) (.bRY (.slice 55 aA) tI (aK aJ 1 (.Z 0)) (.p1 tI tI (.Z 1))) <|
  .bRX (.bS0 102 aD) (aK aA 1 (.Z 4)) <|
  .bRX (.bS1 55 aA) (.bRY (.slice 55 aA) tI (aK aJ 1 (.Z 0)) (.p1 tI tI (.Z 1))) <|
  .bRX (.mx .i64) (.bRY tI tI (.ci .i64 0) (.p1 tI dA (.Z 6))) <|
  .bRX (.ar .sub .i64) (.bRY tI tI (.Z 5) (.Z 7)) <|
  .bRX (.mx .i64) (.bRY tI tI (.ci .i64 0) (.Z 8)) <|
  .bRX (.ar .add .i64) (.bRY tI tI (aP aD 1 (.Z 1)) (.Z 9)) <|
  .bRX (.ar .add .i64) (.bRY tI tI (.p1 tI tI (.Z 1)) (.ci .i64 1)) <|
  .bRZ 0 (.bRY tI tI (.Z 11) (.Z 10))) (
  .ret (aP aD 1 (.Z 1)))
theorem bJH:bI Tryz.prog [] aC7 false 3000 ⟨[(2991,1001,[.dr 0,.tm 4 0,.tm 3 0])],[]⟩ = .ok aN3:=by kernel_rfl
theorem bJR (x:bE) (hx:okD aJ x) (hp:(fun x=>bM aJ x≤1000000000) x):aN3.wp [] [⟨aJ,x⟩] [] (fun v=>v.as tI=(fun x=>qL x) x):=by
 have hp:bM aJ x≤1000000000:=hp
 have hs0:=aV0 x.2.1
 have hz:=wV x
 have hl:List.length x.2.1≤bM (.slice 55 aA) x.2.1:=mI (e:=55) (t:=aA) x.2.1
 delta aN3;refine cW ?_
 refine dB ?_
 refine cN (fun k=>((k:Int),((((List.take k x.2.1).map sN).sum:Nat):Int))) (List.length x.2.1) rfl fun I μ k hk _ go=>?_
 dsimp only
 refine dB ?_
 have hs:=dO sN x.2.1 k
 have hs2:=dO sN x.2.1 (k+1)
 by_cases hk':k<List.length x.2.1
 ·have e:=kR sN x.2.1 k hk'
  have hlk:=aRF hz hp hk'
  have hpcb:-9223372036854775808≤(x.2.1[k]).1∧(x.2.1[k]).1≤9223372036854775807:=(hx.2.1.2 _ (List.getElem_mem hk')).1
  simp only[aZ hk']
  have e9:sN (x.2.1[k])=List.length (x.2.1[k]).2.1 - (x.2.1[k]).1.toNat:=rfl
  (repeat' first|intro _|(refine go _ ?_ ?_ ?_)|(refine go _ ?_ ?_)|(with_reducible apply And.intro))
  all_goals first|omega|(refine Prod.ext rfl ?_;refine @Eq.trans Int _ _ _ ?_ rfl;dsimp only;omega)|skip
 ·(repeat' first|intro _|(refine go _ ?_ ?_ ?_)|(refine go _ ?_ ?_)|(with_reducible apply And.intro))
  all_goals first|omega|(rw[List.take_of_length_le (by omega)];rfl)|skip
theorem bJL:Con.Holds Tryz.prog aC7:=aS aV aQ bJH bJR
def aBU:Con:=⟨13,aJ,.bool,[.val ⟨true,aJ,[]⟩],[⟨false,.bool,[0]⟩],false,none,
 ((fun x=>bM aJ x≤1000000000):(bE)→Prop),
 ((fun x=>aQO x):(bE)→(Bool))⟩
def aOL:T :=
 .bRX (.bS0 55 aA) (aK aJ 1 (.Z 0)) <|
 .bRX (.cmp .gtr .i64) (.bRY tI tI (.Z 1) (.ci .i64 0)) <|
 .ite (.Z 2) (
  .call 0 (.Z 0) <|
  .bRX (.cmp .eql .i64) (.bRY tI tI (.Z 3) (.ci .i64 0)) <|
  .ret (.Z 4)) (
  .ret (.cb false))
theorem bJP:bI Tryz.prog [aB3] aBU false 3000 ⟨[],[]⟩ = .ok aOL:=by kernel_rfl
theorem bLA (x:bE) (hx:okD aJ x) (hp:(fun x=>bM aJ x≤1000000000) x):aOL.wp [aB3] [⟨aJ,x⟩] [] (fun v=>v.as .bool=(fun x=>aQO x) x):=by
 delta aOL aB3;refine cW ?_
 (refine dB ?_;try with_reducible exact True.intro)
 (repeat' first|intro _|(with_reducible apply And.intro))
 all_goals first|exact hp|skip
 ·unfold aQO;rw[decide_eq_true (show 0<List.length x.2.1 by omega),Bool.true_and];rfl
 ·unfold aQO;rw[decide_eq_false (show ¬ 0<List.length x.2.1 by omega),Bool.false_and]
theorem bKC:Con.Holds Tryz.prog aBU:=aS aV (aI bL0 aQ) bJP bLA
def lQ:Con:=⟨32,aJ,aB,[.val ⟨true,aJ,[]⟩],[⟨false,aB,[2]⟩],false,none,
 ((fun x=>bM aJ x≤1000000000):(bE)→Prop),
 ((fun x=>fF x):(bE)→(List Int))⟩
def sG:T :=
 .bRX (.bS0 55 aA) (aK aJ 1 (.Z 0)) <|
 .loop aH (.bRY tI aB (.ci .i64 0) (.nl 3 tI)) <|
  .bRX (.cmp .lss .i64) (.bRY tI tI (.p1 tI aB (.Z 2)) (.Z 1)) <|
  .ite (.Z 3) (
   .call 0 (.bRY aJ tI (.Z 0) (.p1 tI aB (.Z 2))) <|
   .ite (.Z 4) (
    .bRX (.lit 3 tI 1) (.p1 tI aB (.Z 2)) <|
    .bRX (.bS3 3 tI 8) (.bRY aB aB (aP aH 1 (.Z 2)) (.Z 5)) <|
    .bRX (.ar .add .i64) (.bRY tI tI (.p1 tI aB (.Z 2)) (.ci .i64 1)) <|
    .bRZ 0 (.bRY tI aB (.Z 7) (.Z 6))) (
    .bRX (.ar .add .i64) (.bRY tI tI (.p1 tI aB (.Z 2)) (.ci .i64 1)) <|
    .bRZ 0 (.bRY tI aB (.Z 5) (aP aH 1 (.Z 2))))) (
   .ret (aP aH 1 (.Z 2)))
theorem aND:bI Tryz.prog [kE] lQ false 3000 ⟨[(2991,1002,gQ 7 5++[.dr 0,.tm 9 0,.on 3,.sl 2])],[]⟩ = .ok sG:=by kernel_rfl
theorem aNU (x:bE) (hx:okD aJ x) (hp:(fun x=>bM aJ x≤1000000000) x):sG.wp [kE] [⟨aJ,x⟩] [] (fun v=>v.as aB=(fun x=>fF x) x):=by
 have hp:bM aJ x≤1000000000:=hp
 have hz:=wV x
 have hl:List.length x.2.1≤bM (.slice 55 aA) x.2.1:=mI (e:=55) (t:=aA) x.2.1
 delta sG kE;refine cW ?_
 refine dB ?_
 intro _
 refine cN (fun k=>((k:Int),aH2 x k)) (List.length x.2.1) rfl fun I μ k hk _ go=>?_
 dsimp only
 refine dB ?_
 have hw:=aH9 x k
 (repeat' first|intro _|(refine go _ ?_ ?_ ?_)|(refine go _ ?_ ?_)|(with_reducible apply And.intro))
 all_goals first|omega|(unfold maxLen;omega)|(rw[aH2,if_pos (by assumption)];rfl)|(rw[aH2,if_neg (by simp_all),List.append_nil];rfl)|(have e:k=List.length x.2.1:=(by omega);subst e;rfl)|skip
theorem aO2:Con.Holds Tryz.prog lQ:=aS aV (aI aKH aQ) aND aNU
def lG:Con:=⟨77,aJ,aB,[.val ⟨true,aJ,[]⟩],[⟨false,aB,[2]⟩],false,none,
 ((fun x=>bM aJ x≤1000000000):(bE)→Prop),
 ((fun x=>fF x):(bE)→(List Int))⟩
def uG:T:=.loop aH (.bRY tI aB (.ci .i64 0) (.nl 3 tI)) <|
 .bRX (.bS0 55 aA) (aK aJ 1 (.Z 0)) <|
 .bRX (.cmp .lss .i64) (.bRY tI tI (.p1 tI aB (.Z 1)) (.Z 2)) <|
 .ite (.Z 3) (
  .call 0 (.bRY aJ tI (.Z 0) (.p1 tI aB (.Z 1))) <|
  .ite (.Z 4) (
   .bRX (.lit 3 tI 1) (.p1 tI aB (.Z 1)) <|
   .bRX (.bS3 3 tI 8) (.bRY aB aB (aP aH 1 (.Z 1)) (.Z 5)) <|
   .bRX (.ar .add .i64) (.bRY tI tI (.p1 tI aB (.Z 1)) (.ci .i64 1)) <|
   .bRZ 0 (.bRY tI aB (.Z 7) (.Z 6))) (
   .bRX (.ar .add .i64) (.bRY tI tI (.p1 tI aB (.Z 1)) (.ci .i64 1)) <|
   .bRZ 0 (.bRY tI aB (.Z 5) (aP aH 1 (.Z 1))))) (
  .ret (aP aH 1 (.Z 1)))
theorem aN8:bI Tryz.prog [kA] lG false 3000 ⟨[(2991,1001,[.dr 5,.dr 0,.tm 4 0,.on 3,.sl 2])],[]⟩ = .ok uG:=by kernel_rfl
theorem aMN (x:bE) (hx:okD aJ x) (hp:(fun x=>bM aJ x≤1000000000) x):uG.wp [kA] [⟨aJ,x⟩] [] (fun v=>v.as aB=(fun x=>fF x) x):=by
 have hp:bM aJ x≤1000000000:=hp
 have hz:=wV x
 have hl:List.length x.2.1≤bM (.slice 55 aA) x.2.1:=mI (e:=55) (t:=aA) x.2.1
 delta uG kA;refine cW ?_
 refine dB ?_
 refine cN (fun k=>((k:Int),aH2 x k)) (List.length x.2.1) rfl fun I μ k hk _ go=>?_
 dsimp only
 refine dB ?_
 have hw:=aH9 x k
 (repeat' first|intro _|(refine go _ ?_ ?_ ?_)|(refine go _ ?_ ?_)|(with_reducible apply And.intro))
 all_goals first|omega|(unfold maxLen;omega)|(rw[aH2,if_pos (by assumption)];rfl)|(rw[aH2,if_neg (by simp_all),List.append_nil];rfl)|(have e:k=List.length x.2.1:=(by omega);subst e;rfl)|skip
theorem aNK:Con.Holds Tryz.prog lG:=aS aV (aI aKE aQ) aN8 aMN
end
end Go.Proofs.YtabamggdmdednaaGreat
