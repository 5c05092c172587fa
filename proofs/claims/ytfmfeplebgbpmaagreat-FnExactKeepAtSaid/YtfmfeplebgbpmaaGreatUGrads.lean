/- UGrads: lemmas. No conditions. -/
import Derived.Test.YtfmfeplebgbpmaaGreatWStage
namespace Go.Proofs.YtfmfeplebgbpmaaGreat
open Go.ChangeShapes Go.WideShapes Go.ChangeAt Go.RowKit Go.Deep
set_option linter.unusedVariables false
set_option linter.unusedSimpArgs false
noncomputable section
set_option maxRecDepth 100000
def aTG:Con:=⟨335,aM,aM,[.val ⟨true,aM,[]⟩],[⟨true,aM,[0,2]⟩],false,none,
 ((fun x=>bC aM x<=1048576):(cP)->Prop),
 ((fun x=>x):(cP)->(cP))⟩
def bFY:T:=nC (iA 0) <| jB tI aA (kV 0) aZ
theorem bTV:Con.Holds Tryz.prog aTG:=tk ⟨[],[]⟩ bFY (aC aGO aH) fun(x:cP) hx hp=>by
 dsimp only [aTG] at hx hp⊢
 have e:bC aM x=0+(bC aA x.2):=rfl
 have hz:bC aM x<=1048576:=hp
 delta bFY aAK;refine dR ?_;try with_reducible exact True.intro
 (repeat' first|intro _|(with_reducible apply And.intro))
 all_goals first|omega|rfl|exact True.intro|skip
def aT5:Con:=⟨329,(.cMV aM tI),tI,[.val ⟨true,aM,[]⟩,.val ⟨false,tI,[]⟩],[⟨false,tI,[0]⟩],false,none,
 ((fun x=>0<=x.2):(cP×Int)->Prop),
 ((fun x=>szR x.2 (bC aM x.1)):(cP×Int)->(Int))⟩
def bF0:T:=oK 0 aA (xQ aM 1 aM) (iX aM) aZ 2 <| cF 1
theorem bTN:Con.Holds Tryz.prog aT5:=tk ⟨[],[]⟩ bF0 (aC aH1 aH) fun(x:cP×Int) hx hp=>by
 dsimp only [aT5] at hx hp⊢
 obtain⟨x,l⟩:=x
 have e:bC aM x=0+(bC aA x.2):=rfl
 have hl:0<=l:=hp
 have hz:=fun m:Nat=>bY l m
 delta bF0 aA4;refine dR ?_
 refine dQ ?_
 have hfin:=bY l (bC aM x)
 rw[e] at hfin⊢
 generalize bC aA x.2=s1 at *
 clear hz e
 obtain⟨a0,b0⟩|⟨a0,b0⟩:=bY l s1
 rotate_left
 ·rw[b0];(repeat' first|intro _|(with_reducible apply And.intro))<;>first|omega|(refine @Eq.trans Int _ _ _ ?_ rfl;omega)|exact True.intro
 rw[b0]
 generalize hl0:l - (s1:Int)=l0 at *
 (repeat' first|intro _|(with_reducible apply And.intro))
 all_goals first|omega|(refine @Eq.trans Int _ _ _ ?_ rfl;omega)|exact True.intro|skip
def aU5:Con:=⟨338,(.cMV aM aM),.bool,[.val ⟨true,aM,[]⟩,.val ⟨true,aM,[]⟩],[⟨false,.bool,[0]⟩],false,none,
 ((fun x=>x.1=x.2):(cP×cP)->Prop),
 ((fun _=>true):(cP×cP)->(Bool))⟩
def bF1:T:=dW (dT tI aA aM aM) (eI aM aM 1) 1 <| fN 0 (iP aM 1 aM aM) (fA aM aM 2) <| dU 2 3 aJA
theorem bVX:Con.Holds Tryz.prog aU5:=tk ⟨[],[]⟩ bF1 (aC aHD aH) fun(x:cP×cP) hx hp=>by
 dsimp only [aU5] at hx hp⊢
 obtain⟨a,b⟩:=x
 obtain rfl:a=b:=hp
 delta bF1 aA3;refine dR ?_
 (refine dQ ?_;try with_reducible exact True.intro)
 (repeat' first|intro _|(with_reducible apply And.intro))
 all_goals first|rfl|trivial|exact absurd (bq7 _) (by assumption)|(exfalso;simp_all;done)|skip
def aOI:Con:=⟨272,(.slice 339 aM),(.slice 249 aM),[.val ⟨false,(.slice 339 aM),[]⟩],[⟨false,(.slice 249 aM),[2]⟩],false,none,
 ((fun x=>bC (.slice 249 aM) x<=1048576):(List cP)->Prop),
 ((fun x=>x):(List cP)->(List cP))⟩
def bBL:T:=gL 339 aM bJ <| aEP 249 aM 32 1 <| gW aD bQ bM 339 aM bJ <| oJ bQ 3 4 5 (cW 339 aM aHL bJ bQ 3 <| nU 6 <| cW 249 aM bQ (nL 3) bQ 3 <| sZ 249 aM (bLW 249 aM tI aM) (kM (nL 3) (cB bQ 3) 7) <| eJ bQ 3 0 bQ cI cU) (nL 3)
theorem bPQ:Con.Holds Tryz.prog aOI:=tk ⟨[(2991,1003,iZ 7 5++[.tm 4 0,.sl 1])],[(2983,3006,[20],[])]⟩ bBL (aC bTV aH) fun(x:List cP) hx hp=>by
 dsimp only [aOI] at hx hp⊢
 have hz:bC (.slice 249 aM) x<=1048576:=hp
 have hpl:List.length x<=1048576:=Nat.le_trans (rT (e:=249) (t:=aM) x) hz
 have hm:∀k (h:k<List.length x),bC aM ((x:List (Ty.D aM))[k])<=1048576:=fun k h=>Nat.le_trans (yJ (e:=249) (t:=aM) (List.getElem_mem h)) hz
 delta bBL aTG;refine dR ?_
 refine dQ ?_
 refine fun _=>⟨by unfold repC;exact⟨by omega,by omega,by omega⟩,fun _=>eY (fun k=>((k:Int),List.take k x++List.replicate (List.length x - k) (aK aM))) (List.length x) rfl fun I μ k hk _ go=>?_⟩
 try dsimp only
 refine dQ ?_
 have hl:(List.take k x).length+(List.replicate (List.length x - k) (aK aM)).length=List.length x:=by rw[List.length_take,List.length_replicate];omega
 refine fun _=>⟨fun hlt=>?_,fun hge=>?_⟩
 ·have hk':k<List.length x:=by omega
  have hm':=hm k hk'
  rw[aP hk']
  (repeat' first|intro _|(refine go2 _ ?_ ?_ ?_)|(refine go2 _ ?_ ?_)|(refine go _ ?_ ?_ ?_)|(refine go _ ?_ ?_)|(with_reducible apply And.intro))
  all_goals first|omega|exact hm'|exact pk (aFJ hk')|skip
 ·have:k=List.length x:=by omega
  subst this
  rw[Nat.sub_self,List.replicate_zero,List.append_nil,List.take_length]
def aOY:Con:=⟨262,(.cMV (.slice 339 aM) tI),tI,[.val ⟨false,(.slice 339 aM),[]⟩,.val ⟨false,tI,[]⟩],[⟨false,tI,[0]⟩],false,none,
 ((fun x=>0<=x.2):((List cP)×Int)->Prop),
 ((fun x=>szR x.2 (bC (.slice 249 aM) x.1)):((List cP)×Int)->(Int))⟩
def bBO:T:=gL 339 aM (fQ aHL) <| lR mY (iX aHL) 1 <| aGJ bM 3 <| gW aU tI bM 339 aM (fQ aHL) <| gB nZ 5 6 (bZ 339 aM aHL (fQ aHL) nZ <| oK 0 aM cY qZ cM 9 <| aCX nZ 0 tI cI cM) qZ
theorem bRX:Con.Holds Tryz.prog aOY:=tk ⟨[(2986,2004,iZ 11 6++[.tm 5 0,.tm 1 0])],[]⟩ bBO (aC bTN aH) fun(x:(List cP)×Int) hx hp=>by
 dsimp only [aOY] at hx hp⊢
 obtain⟨x,l⟩:=x
 have hl:0<=l:=hp
 have e:bC (.slice 249 aM) x=List.length x+((x:List (Ty.D aM)).map (bC aM)).sum:=rfl
 have hm:=rS (show List.length x<=maxLen from hx.1.1)
 have hx2:l<=9223372036854775807:=hx.2.2
 have hfin:=bY l (bC (.slice 249 aM) x)
 have hs:=fun k=>aUA (bC aM) (x:List (Ty.D aM)) k
 delta bBO aT5;refine dR ?_
 refine dQ ?_
 rw[e] at hfin⊢
 (repeat' first|intro _|(with_reducible apply And.intro))
 all_goals first|omega|(refine @Eq.trans Int _ _ _ ?_ rfl;omega)|skip
 refine aC6 (fun k=>((k:Int),l - (List.length x:Int) - (((List.take k x).map (bC aM)).sum:Nat))) (fun k=>((List.length x+((List.take k x).map (bC aM)).sum:Nat):Int)<=l) (List.length x) (Prod.ext rfl (by show _=_ - ((0:Nat):Int);omega)) (by show((List.length x+0:Nat):Int)<=l;omega) fun I μ k hk hG _ go=>?_
 try dsimp only
 refine dQ ?_
 have hsk:=hs k
 by_cases hk':k<List.length x
 ·rw[aP hk']
  have en:((List.take (k+1) x).map (bC aM)).sum=((List.take k x).map (bC aM)).sum+bC aM ((x:List (Ty.D aM))[k]):=gN (bC aM) x k hk'
  have B0:=hs (k+1)
  have hc:=bY (l - (List.length x:Int) - (((List.take k x).map (bC aM)).sum:Nat)) (bC aM ((x:List (Ty.D aM))[k]))
  rw[en] at B0 go
  clear en hs e
  generalize bC aM ((x:List (Ty.D aM))[k])=s at *
  generalize ((List.take k x).map (bC aM)).sum=q at *
  generalize ((x:List (Ty.D aM)).map (bC aM)).sum=tot at *
  generalize szR (l - (List.length x:Int) - (q:Nat)) s=z at *
  (repeat' first|intro _|(refine go _ ?_ ?_ ?_)|(refine go _ ?_ ?_)|(with_reducible apply And.intro))
  all_goals first|omega|(show((k:Int)+1,z)=(((k+1:Nat):Int),l - (List.length x:Int) - ((q+s:Nat):Int));exact pk7 (by omega) (by omega))|(refine @Eq.trans Int _ _ _ ?_ rfl;omega)|skip
 ·have:k=List.length x:=by omega
  subst this
  rw[List.take_length] at *
  (repeat' first|intro _|(refine go _ ?_ ?_ ?_)|(refine go _ ?_ ?_)|(with_reducible apply And.intro))
  all_goals first|omega|(refine @Eq.trans Int _ _ _ ?_ rfl;omega)|skip
def aPE:Con:=⟨275,(.cMV (.slice 249 aM) (.slice 249 aM)),.bool,[.val ⟨false,(.slice 249 aM),[]⟩,.val ⟨false,(.slice 249 aM),[]⟩],[⟨false,.bool,[0]⟩],false,none,
 ((fun x=>x.1=x.2):((List cP)×(List cP))->Prop),
 ((fun _=>true):((List cP)×(List cP))->(Bool))⟩
def aZR:T:=pS aM (bS bQ bQ) <| pS aM (kE bQ bQ) <| dW aZ bM 3 <| jY 249 aM (bS bQ bQ) <| gB dY 5 6 (cH 249 aM bQ (bS bQ bQ) 4 <| cH 249 aM bQ (kE bQ bQ) 4 <| eQ 0 aM aM cY cM <| tL 9 10 dY 0 cO) bD
theorem bQ5:Con.Holds Tryz.prog aPE:=tk ⟨[(2988,2004,iZ 10 6++[.tm 5 0])],[]⟩ aZR (aC bVX aH) fun(x:(List cP)×(List cP)) hx hp=>by
 dsimp only [aPE] at hx hp⊢
 obtain⟨a,b⟩:=x
 obtain rfl:a=b:=hp
 have hl:=rS (show List.length a<=maxLen from hx.1.1)
 delta aZR aU5;refine dR ?_
 refine dQ ?_
 refine fun _ _=>⟨fun h=>absurd trivial h,fun _=>eY (fun k=>(k:Int)) (List.length a) rfl fun I μ k hk _ go=>?_⟩
 try dsimp only
 refine dQ ?_
 refine fun _=>⟨fun hlt=>?_,fun hge=>trivial⟩
 have hk':k<List.length a:=by omega
 (repeat' first|intro _|(refine go2 _ ?_ ?_ ?_)|(refine go2 _ ?_ ?_)|(refine go _ ?_ ?_ ?_)|(refine go _ ?_ ?_)|(with_reducible apply And.intro))
 all_goals first|omega|rfl|trivial|exact absurd (bq7 _) (by assumption)|(exfalso;simp_all;done)|skip
def aOF:Con:=⟨174,bAN,aD,[.val ⟨true,bAN,[]⟩],[⟨true,aD,[0,2]⟩],false,none,
 ((fun x=>bC aD x<=1048576):(bE)->Prop),
 ((fun x=>x):(bE)->(bE))⟩
def bBF:T:=nC (eT aHL 0) <| jB tI bQ (cB aHL 0) aZ
theorem bQW:Con.Holds Tryz.prog aOF:=tk ⟨[],[]⟩ bBF (aC bPQ aH) fun(x:bE) hx hp=>by
 dsimp only [aOF] at hx hp⊢
 have e:bC aD x=0+(bC (.slice 249 aM) x.2):=rfl
 have hz:bC aD x<=1048576:=hp
 delta bBF aOI;refine dR ?_;try with_reducible exact True.intro
 (repeat' first|intro _|(with_reducible apply And.intro))
 all_goals first|omega|rfl|exact True.intro|skip
def aO6:Con:=⟨169,(.cMV bAN tI),tI,[.val ⟨true,bAN,[]⟩,.val ⟨false,tI,[]⟩],[⟨false,tI,[0]⟩],false,none,
 ((fun x=>0<=x.2):(bE×Int)->Prop),
 ((fun x=>szR x.2 (bC aD x.1)):(bE×Int)->(Int))⟩
def aZP:T:=oK 0 aHL (xQ rM 1 rM) (iX rM) aZ 2 <| cF 1
theorem bRV:Con.Holds Tryz.prog aO6:=tk ⟨[],[]⟩ aZP (aC bRX aH) fun(x:bE×Int) hx hp=>by
 dsimp only [aO6] at hx hp⊢
 obtain⟨x,l⟩:=x
 have e:bC aD x=0+(bC (.slice 249 aM) x.2):=rfl
 have hl:0<=l:=hp
 have hz:=fun m:Nat=>bY l m
 delta aZP aOY;refine dR ?_
 refine dQ ?_
 have hfin:=bY l (bC aD x)
 rw[e] at hfin⊢
 generalize bC (.slice 249 aM) x.2=s1 at *
 clear hz e
 obtain⟨a0,b0⟩|⟨a0,b0⟩:=bY l s1
 rotate_left
 ·rw[b0];(repeat' first|intro _|(with_reducible apply And.intro))<;>first|omega|(refine @Eq.trans Int _ _ _ ?_ rfl;omega)|exact True.intro
 rw[b0]
 generalize hl0:l - (s1:Int)=l0 at *
 (repeat' first|intro _|(with_reducible apply And.intro))
 all_goals first|omega|(refine @Eq.trans Int _ _ _ ?_ rfl;omega)|exact True.intro|skip
def aNT:Con:=⟨179,(.cMV aD aD),.bool,[.val ⟨true,aD,[]⟩,.val ⟨true,aD,[]⟩],[⟨false,.bool,[0]⟩],false,none,
 ((fun x=>x.1=x.2):(bE×bE)->Prop),
 ((fun _=>true):(bE×bE)->(Bool))⟩
def bAC:T:=dW (dT tI bQ aD aD) (eI aD aD 1) 1 <| eQ 0 bQ bQ (iP aD 1 aD aD) (fA aD aD 2) <| dU 2 3 aJA
theorem bRE:Con.Holds Tryz.prog aNT:=tk ⟨[],[]⟩ bAC (aC bQ5 aH) fun(x:bE×bE) hx hp=>by
 dsimp only [aNT] at hx hp⊢
 obtain⟨a,b⟩:=x
 obtain rfl:a=b:=hp
 delta bAC aPE;refine dR ?_
 (refine dQ ?_;try with_reducible exact True.intro)
 (repeat' first|intro _|(with_reducible apply And.intro))
 all_goals first|rfl|trivial|exact absurd (bq7 _) (by assumption)|(exfalso;simp_all;done)|skip
def aKX:Con:=⟨80,(.slice 228 bAN),aI,[.val ⟨false,(.slice 228 bAN),[]⟩],[⟨false,aI,[2]⟩],false,none,
 ((fun x=>bC aI x<=1048576):(List bE)->Prop),
 ((fun x=>x):(List bE)->(List bE))⟩
def aVC:T:=gL 228 rM bJ <| aEP 147 aD 32 1 <| gW (fM aI) aI bM 228 rM bJ <| oJ aI 3 4 5 (cW 228 rM tA bJ aI 3 <| nU 6 <| cW 147 aD aI (eT aI 3) aI 3 <| sZ 147 aD (aBL aI aD) (kM (eT aI 3) (cB aI 3) 7) <| eJ aI 3 0 aI cI cU) (eT aI 3)
theorem bN4:Con.Holds Tryz.prog aKX:=tk ⟨[(2991,1003,iZ 7 5++[.tm 4 0,.sl 1])],[(2983,3006,[20],[])]⟩ aVC (aC bQW aH) fun(x:List bE) hx hp=>by
 dsimp only [aKX] at hx hp⊢
 have hz:bC aI x<=1048576:=hp
 have hpl:List.length x<=1048576:=Nat.le_trans (rT (e:=147) (t:=aD) x) hz
 have hm:∀k (h:k<List.length x),bC aD ((x:List (Ty.D aD))[k])<=1048576:=fun k h=>Nat.le_trans (yJ (e:=147) (t:=aD) (List.getElem_mem h)) hz
 delta aVC aOF;refine dR ?_
 refine dQ ?_
 refine fun _=>⟨by unfold repC;exact⟨by omega,by omega,by omega⟩,fun _=>eY (fun k=>((k:Int),List.take k x++List.replicate (List.length x - k) (aK aD))) (List.length x) rfl fun I μ k hk _ go=>?_⟩
 try dsimp only
 refine dQ ?_
 have hl:(List.take k x).length+(List.replicate (List.length x - k) (aK aD)).length=List.length x:=by rw[List.length_take,List.length_replicate];omega
 refine fun _=>⟨fun hlt=>?_,fun hge=>?_⟩
 ·have hk':k<List.length x:=by omega
  have hm':=hm k hk'
  rw[aP hk']
  (repeat' first|intro _|(refine go2 _ ?_ ?_ ?_)|(refine go2 _ ?_ ?_)|(refine go _ ?_ ?_ ?_)|(refine go _ ?_ ?_)|(with_reducible apply And.intro))
  all_goals first|omega|exact hm'|exact pk (aFJ hk')|skip
 ·have:k=List.length x:=by omega
  subst this
  rw[Nat.sub_self,List.replicate_zero,List.append_nil,List.take_length]
def aLT:Con:=⟨75,(.cMV (.slice 228 bAN) tI),tI,[.val ⟨false,(.slice 228 bAN),[]⟩,.val ⟨false,tI,[]⟩],[⟨false,tI,[0]⟩],false,none,
 ((fun x=>0<=x.2):((List bE)×Int)->Prop),
 ((fun x=>szR x.2 (bC aI x.1)):((List bE)×Int)->(Int))⟩
def aV4:T:=gL 228 rM (fQ tA) <| lR mY (iX tA) 1 <| aGJ bM 3 <| gW aU tI bM 228 rM (fQ tA) <| gB nZ 5 6 (bZ 228 rM tA (fQ tA) nZ <| oK 0 rM cY qZ cM 9 <| aCX nZ 0 tI cI cM) qZ
theorem bN2:Con.Holds Tryz.prog aLT:=tk ⟨[(2986,2004,iZ 11 6++[.tm 5 0,.tm 1 0])],[]⟩ aV4 (aC bRV aH) fun(x:(List bE)×Int) hx hp=>by
 dsimp only [aLT] at hx hp⊢
 obtain⟨x,l⟩:=x
 have hl:0<=l:=hp
 have e:bC aI x=List.length x+((x:List (Ty.D aD)).map (bC aD)).sum:=rfl
 have hm:=rS (show List.length x<=maxLen from hx.1.1)
 have hx2:l<=9223372036854775807:=hx.2.2
 have hfin:=bY l (bC aI x)
 have hs:=fun k=>aUA (bC aD) (x:List (Ty.D aD)) k
 delta aV4 aO6;refine dR ?_
 refine dQ ?_
 rw[e] at hfin⊢
 (repeat' first|intro _|(with_reducible apply And.intro))
 all_goals first|omega|(refine @Eq.trans Int _ _ _ ?_ rfl;omega)|skip
 refine aC6 (fun k=>((k:Int),l - (List.length x:Int) - (((List.take k x).map (bC aD)).sum:Nat))) (fun k=>((List.length x+((List.take k x).map (bC aD)).sum:Nat):Int)<=l) (List.length x) (Prod.ext rfl (by show _=_ - ((0:Nat):Int);omega)) (by show((List.length x+0:Nat):Int)<=l;omega) fun I μ k hk hG _ go=>?_
 try dsimp only
 refine dQ ?_
 have hsk:=hs k
 by_cases hk':k<List.length x
 ·rw[aP hk']
  have en:((List.take (k+1) x).map (bC aD)).sum=((List.take k x).map (bC aD)).sum+bC aD ((x:List (Ty.D aD))[k]):=gN (bC aD) x k hk'
  have B0:=hs (k+1)
  have hc:=bY (l - (List.length x:Int) - (((List.take k x).map (bC aD)).sum:Nat)) (bC aD ((x:List (Ty.D aD))[k]))
  rw[en] at B0 go
  clear en hs e
  generalize bC aD ((x:List (Ty.D aD))[k])=s at *
  generalize ((List.take k x).map (bC aD)).sum=q at *
  generalize ((x:List (Ty.D aD)).map (bC aD)).sum=tot at *
  generalize szR (l - (List.length x:Int) - (q:Nat)) s=z at *
  (repeat' first|intro _|(refine go _ ?_ ?_ ?_)|(refine go _ ?_ ?_)|(with_reducible apply And.intro))
  all_goals first|omega|(show((k:Int)+1,z)=(((k+1:Nat):Int),l - (List.length x:Int) - ((q+s:Nat):Int));exact pk7 (by omega) (by omega))|(refine @Eq.trans Int _ _ _ ?_ rfl;omega)|skip
 ·have:k=List.length x:=by omega
  subst this
  rw[List.take_length] at *
  (repeat' first|intro _|(refine go _ ?_ ?_ ?_)|(refine go _ ?_ ?_)|(with_reducible apply And.intro))
  all_goals first|omega|(refine @Eq.trans Int _ _ _ ?_ rfl;omega)|skip
def aKV:Con:=⟨85,(.cMV aI aI),.bool,[.val ⟨false,aI,[]⟩,.val ⟨false,aI,[]⟩],[⟨false,.bool,[0]⟩],false,none,
 ((fun x=>x.1=x.2):((List bE)×(List bE))->Prop),
 ((fun _=>true):((List bE)×(List bE))->(Bool))⟩
def aWH:T:=gL 147 aD (bS aI aI) <| gL 147 aD (kE aI aI) <| dW aZ bM 3 <| jY 147 aD (bS aI aI) <| gB dY 5 6 (cH 147 aD aI (bS aI aI) 4 <| cH 147 aD aI (kE aI aI) 4 <| eQ 0 aD aD cY cM <| tL 9 10 dY 0 cO) bD
theorem bNB:Con.Holds Tryz.prog aKV:=tk ⟨[(2988,2004,iZ 10 6++[.tm 5 0])],[]⟩ aWH (aC bRE aH) fun(x:(List bE)×(List bE)) hx hp=>by
 dsimp only [aKV] at hx hp⊢
 obtain⟨a,b⟩:=x
 obtain rfl:a=b:=hp
 have hl:=rS (show List.length a<=maxLen from hx.1.1)
 delta aWH aNT;refine dR ?_
 refine dQ ?_
 refine fun _ _=>⟨fun h=>absurd trivial h,fun _=>eY (fun k=>(k:Int)) (List.length a) rfl fun I μ k hk _ go=>?_⟩
 try dsimp only
 refine dQ ?_
 refine fun _=>⟨fun hlt=>?_,fun hge=>trivial⟩
 have hk':k<List.length a:=by omega
 (repeat' first|intro _|(refine go2 _ ?_ ?_ ?_)|(refine go2 _ ?_ ?_)|(refine go _ ?_ ?_ ?_)|(refine go _ ?_ ?_)|(with_reducible apply And.intro))
 all_goals first|omega|rfl|trivial|exact absurd (bq7 _) (by assumption)|(exfalso;simp_all;done)|skip
end
set_option maxRecDepth 100000
noncomputable def bFI:Con:=⟨12,bXR,aE,[.val ⟨true,bXR,[]⟩],[⟨true,aE,[2,2,2,2]⟩],false,none,
 ((fun x=>bC aE x<=1048576):(aW)->Prop),
 ((fun x=>x):(aW)->(aW))⟩
def bEV:T:=eK 0 (bS uG (aB8 224 iY 228 rM tA)) 1 (eI uG (aB8 224 iY 228 rM tA) 1) <| eK 2 (eI uG (aB8 224 iY 228 rM tA) 2) 2 (fA uG (aB8 224 iY 228 rM tA) 3) <| uR aE [aZ,bM,eG,dY]
set_option maxHeartbeats 4000000 in
theorem bUO:Con.Holds Tryz.prog bFI:=tk ⟨[],[]⟩ bEV (aC bRI (aC bNQ (aC bN4 aH))) fun(x:aW) hx hp=>by
 dsimp only [bFI] at hx hp⊢
 have e:bC aE x=bC aO x.1+(bC (.slice 142 aB) x.2.1+(bC aI x.2.2.1+(bC aI x.2.2.2))):=rfl
 have hz:bC aE x<=1048576:=hp
 delta bEV aOQ aMQ aKX;refine dR ?_;try with_reducible exact True.intro
 (repeat' first|intro _|(with_reducible apply And.intro))
 all_goals first|omega|rfl|exact True.intro|skip
noncomputable def bFW:Con:=⟨9,(.cMV bXR tI),tI,[.val ⟨true,bXR,[]⟩,.val ⟨false,tI,[]⟩],[⟨false,tI,[0]⟩],false,none,
 ((fun x=>0<=x.2):(aW×Int)->Prop),
 ((fun x=>szR x.2 (bC aE x.1)):(aW×Int)->(Int))⟩
def bEA:T:=oK 0 uG (aB7 uG (aB8 224 iY 228 rM tA) (.cMV uG (aB8 224 iY 228 rM tA))) (iX (.cMV uG (aB8 224 iY 228 rM tA))) aZ 2 <| oK 1 (aNW 224 (uA aU bK jO kR tW)) (gS (.cMV uG (aB8 224 iY 228 rM tA)) 1 (.cMV uG (aB8 224 iY 228 rM tA)) 0) aZ eG 4 <| oK 2 tA (gS (.cMV uG (aB8 224 iY 228 rM tA)) 2 (.cMV uG (aB8 224 iY 228 rM tA)) 0) eG fF 6 <| oK 2 tA (xQ (.cMV uG (aB8 224 iY 228 rM tA)) 3 (.cMV uG (aB8 224 iY 228 rM tA))) fF cY 8 <| cF 7
set_option maxHeartbeats 4000000 in
theorem bHC:Con.Holds Tryz.prog bFW:=tk ⟨[],[]⟩ bEA (aC bR3 (aC bOC (aC bN2 aH))) fun(x:aW×Int) hx hp=>by
 dsimp only [bFW] at hx hp⊢
 obtain⟨x,l⟩:=x
 have e:bC aE x=bC aO x.1+(bC (.slice 142 aB) x.2.1+(bC aI x.2.2.1+(bC aI x.2.2.2))):=rfl
 have hl:0<=l:=hp
 have hz:=fun m:Nat=>bY l m
 delta bEA aNI aM2 aLT;refine dR ?_
 refine dQ ?_
 have hfin:=bY l (bC aE x)
 rw[e] at hfin⊢
 generalize bC aO x.1=s0 at *
 generalize bC (.slice 142 aB) x.2.1=s1 at *
 generalize bC aI x.2.2.1=s2 at *
 generalize bC aI x.2.2.2=s3 at *
 clear hz e
 obtain⟨a0,b0⟩|⟨a0,b0⟩:=bY l s0
 rotate_left
 ·rw[b0];(repeat' first|intro _|(with_reducible apply And.intro))<;>first|omega|(refine @Eq.trans Int _ _ _ ?_ rfl;omega)|exact True.intro
 rw[b0]
 generalize hl0:l - (s0:Int)=l0 at *
 obtain⟨a1,b1⟩|⟨a1,b1⟩:=bY l0 s1
 rotate_left
 ·rw[b1];(repeat' first|intro _|(with_reducible apply And.intro))<;>first|omega|(refine @Eq.trans Int _ _ _ ?_ rfl;omega)|exact True.intro
 rw[b1]
 generalize A0:l0 - (s1:Int)=l1 at *
 obtain⟨a2,b2⟩|⟨a2,b2⟩:=bY l1 s2
 rotate_left
 ·rw[b2];(repeat' first|intro _|(with_reducible apply And.intro))<;>first|omega|(refine @Eq.trans Int _ _ _ ?_ rfl;omega)|exact True.intro
 rw[b2]
 generalize hl2:l1 - (s2:Int)=l2 at *
 obtain⟨a3,b3⟩|⟨a3,b3⟩:=bY l2 s3
 rotate_left
 ·rw[b3];(repeat' first|intro _|(with_reducible apply And.intro))<;>first|omega|(refine @Eq.trans Int _ _ _ ?_ rfl;omega)|exact True.intro
 rw[b3]
 generalize Cl:l2 - (s3:Int)=l3 at *
 (repeat' first|intro _|(with_reducible apply And.intro))
 all_goals first|omega|(refine @Eq.trans Int _ _ _ ?_ rfl;omega)|exact True.intro|skip
noncomputable def bD1:Con:=⟨15,(.cMV aE aE),.bool,[.val ⟨true,aE,[]⟩,.val ⟨true,aE,[]⟩],[⟨false,.bool,[0]⟩],false,none,
 ((fun x=>x.1=x.2):(aW×aW)->Prop),
 ((fun _=>true):(aW×aW)->(Bool))⟩
def bF8:T:=eQ 0 aO aO (dT aO eD aE aE) (eI aE aE 1) <| dU 1 2 <| eQ 1 bV bV (eV aE 1 aE aE) (eI aE aE 2) <| dU 3 4 <| eQ 2 aI aI (eV aE 2 aE aE) (eI aE aE 3) <| dU 5 6 <| eQ 2 aI aI (iP aE 3 aE aE) (fA aE aE 4) <| dU 7 8 aJA
set_option maxHeartbeats 4000000 in
theorem bUJ:Con.Holds Tryz.prog bD1:=tk ⟨[],[]⟩ bF8 (aC bRJ (aC bME (aC bNB aH))) fun(x:aW×aW) hx hp=>by
 dsimp only [bD1] at hx hp⊢
 obtain⟨a,b⟩:=x
 obtain rfl:a=b:=hp
 delta bF8 aQ8 aL5 aKV;refine dR ?_
 (refine dQ ?_;try with_reducible exact True.intro)
 (repeat' first|intro _|(with_reducible apply And.intro))
 all_goals first|rfl|trivial|exact absurd (bq7 _) (by assumption)|(exfalso;simp_all;done)|skip
theorem cKK {w:World} {cs:List Value} {x0:Ty.D (.slice 138 aL)} {x1:Ty.D (.slice 142 aB)} {x2:Ty.D (.slice 147 aD)} {x3:Ty.D (.slice 147 aD)} (h:rd aE w cs (x0,(x1,(x2,x3)))) :
  ∃p0 n0 q0 p1 n1 q1 p2 n2 q2 p3 n3 q3,cs=[.slice p0 n0 q0,.slice p1 n1 q1,.slice p2 n2 q2,.slice p3 n3 q3]/\tC (Ty.n aL) (rd aL w) w p0 n0 q0 x0/\tC (Ty.n aB) (rd aB w) w p1 n1 q1 x1/\tC (Ty.n aD) (rd aD w) w p2 n2 q2 x2/\tC (Ty.n aD) (rd aD w) w p3 n3 q3 x3:=by
 obtain⟨_,_,hcs,⟨p0,n0,q0,rfl,s0⟩,⟨_,_,rfl,⟨p1,n1,q1,rfl,s1⟩,⟨_,_,rfl,⟨p2,n2,q2,rfl,s2⟩,⟨p3,n3,q3,rfl,s3⟩⟩⟩⟩:=h
 exact⟨_,_,_,_,_,_,_,_,_,_,_,_,hcs,s0,s1,s2,s3⟩
theorem aMX (cs:Array Value) (d:aE.D) (w:World) (h:rd aE w cs.toList d) (hz:bC aE d<=1048576) :
  Calls Tryz.prog 12 #[.agg cs] w (bVM aE w d):=by
 have h9:=cLW bUO rfl cs d w
 exact h9 h hz
theorem cA3 (ca:Array Value) (d:aE.D) (left:Int) (w:World) (ha:rd aE w ca.toList d) (h0:0<=left) (h2:left<=9223372036854775807) (h:((bC aE d:Nat):Int)<=left) :
  Calls Tryz.prog 9 #[.agg ca,.int .i64 left] w (bLG (.int .i64 (left - (bC aE d:Nat))) w):=by
 have:=cFP bHC ca d left w ha h0 h2 h0
 rwa [bX1 h] at this
theorem bZG (ca:Array Value) (d:aE.D) (left:Int) (w:World) (ha:rd aE w ca.toList d) (h0:0<=left) (h2:left<=9223372036854775807) (h:¬((bC aE d:Nat):Int)<=left) :
  Calls Tryz.prog 9 #[.agg ca,.int .i64 left] w (bLG (.int .i64 (-1)) w):=by
 have:=cFP bHC ca d left w ha h0 h2 h0
 rwa [bX2 h] at this
theorem bU3 (ca cb:Array Value) (d:aE.D) (w:World) (ha:rd aE w ca.toList d) (hb:rd aE w cb.toList d) :
  Calls Tryz.prog 15 #[.agg ca,.agg cb] w (bLG (.bool true) w):=by
 have h9:=cK2 bUJ ca cb d w
 exact h9 ha hb rfl
noncomputable section
set_option maxRecDepth 100000
def aFR:Con:=⟨155,tI,.str,[.val ⟨false,tI,[]⟩],[⟨false,.str,[0]⟩],false,none,
 ((fun x=>0<=x/\x<=1000000000000):(Int)->Prop),
 ((fun _=>aK .str):(Int)->(ByteArray))⟩
def aWA:T:=aBJ .leq bJ aN 1 (.cs ⟨#[109,48]⟩) <| .loop (.cMV .str tI) (.cMX .str tI iQ bJ) <| vH .gtr (bLU 2) aN 3 (mL aDA (bLU 2) 10 <| lR jT (fX 48) 4 <| aGX .i64 .u8 5 <| kO 5 jV 6 <| aEQ (.b2s 5) 7 <| xU .sadd .str cM (bW7 2) <| cBP (.quo .i64) (bLU 2) (fX 10) 0 (.cMX .str tI cU cI)) <| xU .sadd .str (.cs ⟨#[109]⟩) (bW7 2) aD7
theorem aMT:Rl aFR (fun x r=>r.size<=2000000000000:(Int)->(ByteArray)->Prop):=rk false ⟨[(2988,2002,[.dr 5,.dr 4,.tm 3 0,.tm 0 0])],[]⟩ aWA aH fun(x:Int) hx hp=>by
 dsimp only [aFR] at hx hp⊢
 have hp':0<=x/\x<=1000000000000:=hp
 delta aWA;refine dR ?_
 refine dQ ?_
 refine⟨fun _=>by decide,fun h0=>?_⟩
 refine⟨fun s=>((ByteArray.size s.1:Nat):Int)+s.2<=x/\@LE.le Int _ 0 s.2,fun s=>(s.2:Int).toNat,⟨by show((0:Nat):Int)+x<=x;omega,hp'.1⟩,fun s hs hI=>?_⟩
 obtain⟨u,k⟩:=s
 change Int at k
 change ByteArray at u
 obtain⟨e1,e2⟩:=hI
 change ((u.size:Nat):Int)+k<=x at e1
 change 0<=k at e2
 have t1:0<=k.tmod 10/\k.tmod 10<10:=⟨Int.tmod_nonneg 10 e2,Int.tmod_lt_of_pos k (by omega)⟩
 have t2:0<=k.tdiv 10:=Int.tdiv_nonneg e2 (by omega)
 have t3:0<k->k.tdiv 10<=k - 1:=fun h=>by rw[Int.tdiv_eq_ediv_of_nonneg e2];omega
 have ob:∀z:Int,(jG [z]).size=1:=fun z=>rfl
 have om:(⟨#[109]⟩:ByteArray).size=1:=rfl
 try dsimp only
 (refine dQ ?_;try with_reducible exact True.intro)
 (repeat' first|intro _|(with_reducible apply And.intro))
 all_goals first|omega|((try simp only[jH,ob,om]);(try unfold maxLen);omega)|skip
def kZ:(Int)->(ByteArray):=Classical.choose aMT
def oV:Con:={ aFR with fn:=kZ }
theorem aWN:Con.Holds Tryz.prog oV:=(Classical.choose_spec aMT).2
theorem bM3 (x:Int) (hx:okD tI x) (hp:(fun x=>0<=x/\x<=1000000000000) x):okD .str (kZ x)/\(fun x r=>r.size<=2000000000000:(Int)->(ByteArray)->Prop) x (kZ x):=Rl.q aMT hx hp
def aN1:Con:=⟨64,(.cMV (.slice 9 .str) tI),tI,[.val ⟨false,(.slice 9 .str),[]⟩,.val ⟨false,tI,[]⟩],[⟨false,tI,[0]⟩],false,none,
 ((fun x=>0<=x.2/\x.2+(x.1.length:Int)<=1000000000000/\∀i (hi:i<x.1.length),x.1[i]=kZ (x.2+(i:Int))):((List (ByteArray))×Int)->Prop),
 ((fun x=>x.2+(x.1.length:Int)):((List (ByteArray))×Int)->(Int))⟩
def aNC:T:=gW aU tI (iX jA) 9 .str (fQ jA) <| gB aJB 2 3 (bZ 9 .str jA (fQ jA) aJB <| nC aJ7 <| bT5 aMN 4 5 <| sY 6 aXF <| jW aJ7 <| aCX aJB 0 tI cM cY) aJ7
theorem bBS:Con.Holds Tryz.prog aN1:=tk ⟨[(2993,1001,[.tm 5 0,.tm 1 0])],[]⟩ aNC (aC aWN aH) fun(x:(List (ByteArray))×Int) hx hp=>by
 dsimp only [aN1] at hx hp⊢
 obtain⟨l,k⟩:=x
 obtain⟨h0,h1,h2⟩:0<=k/\k+(List.length l:Int)<=1000000000000/\∀i (hi:i<List.length l),(l:List ByteArray)[i]=kZ (k+(i:Int)):=hp
 delta aNC oV aFR;refine dR ?_
 refine dQ ?_
 refine eY (fun i=>((i:Int),k+(i:Int))) (List.length l) (Prod.ext rfl (Int.add_zero k).symm) fun I μ i hi _ go=>?_
 try dsimp only
 refine dQ ?_
 by_cases hi':i<List.length l
 ·have h3:=h2 i hi'
  rw[aP hi',h3]
  (repeat' first|intro _|(refine go _ ?_ ?_ ?_)|(refine go _ ?_ ?_)|(with_reducible apply And.intro))
  all_goals first|omega|(show((i:Int)+1,k+(i:Int)+1)=(((i+1:Nat):Int),k+((i+1:Nat):Int));exact Prod.ext (by show(i:Int)+1=((i+1:Nat):Int);omega) (by show k+(i:Int)+1=k+((i+1:Nat):Int);omega))|(exfalso;simp_all;done)|skip
 ·have:i=List.length l:=by omega
  subst this
  (repeat' first|intro _|(refine go _ ?_ ?_ ?_)|(refine go _ ?_ ?_)|(with_reducible apply And.intro))
  all_goals first|omega|rfl|skip
end
abbrev bKK:Ty:=.slice 9 .str
theorem cFI {w:World} {p:Option Addr} {len cap:Nat} {l:List ByteArray} (h:tC 1 (rd .str w) w p len cap l) (k:Nat) (hk:k<l.length) :
  ∃b off,p=some ⟨b,off,none⟩/\b<w.heap.size/\w.cell? ⟨b,off+k,none⟩=some (.string l[k])/\l[k].size<=maxLen:=by
 obtain⟨b,off,hp,hb,cs,hl,hc,rfl,hw⟩:=h.2.2.2.2 k hk
 exact⟨b,off,hp,hb,by simpa using hc 0 (by simp),hw⟩
theorem aJI (p q:Option Addr) (len cap len' cap':Nat) (l:List ByteArray) (w:World) (h:tC 1 (rd .str w) w p len cap l) (h':tC 1 (rd .str w) w q len' cap' l) :
  Calls Tryz.prog 62 #[.slice p len cap,.slice q len' cap'] w (bLG (.bool true) w):=by
 obtain rfl:=h.lens
 obtain rfl:=h'.lens
 have hmx:l.length<=maxLen:=by have:=h.2.1;have:=h.2.2.1;omega
 unfold maxLen at hmx
 go_enter Tryz.func62,Tryz.ntmps62
 go_wp2
 go_loopw [5] (fun i wr=>∃k:Nat,k<=l.length/\i = .int .i64 k/\Below w.heap.size w wr) (fun i _=>l.length - (intOf i).toNat)
 case atStart=>exact⟨0,by omega,rfl,Below.refl _ _⟩
 case round =>
  obtain⟨k,hk,rfl,hb⟩:=hrel
  by_cases hlt:k<l.length
  ·obtain⟨b,off,rfl,hlb,hc,-⟩:=cFI h k hlt
   obtain⟨b2,off2,rfl,D9,hc2,-⟩:=cFI h' k hlt
   have c1:wr.cell? ⟨b,off+k,none⟩=some (.string l[k]):=(hb.cell hlb).trans hc
   have c2:wr.cell? ⟨b2,off2+k,none⟩=some (.string l[k]):=(hb.cell D9).trans hc2
   clear h h' hc hc2
   go_wp2
   go_quiet (fail)
   go_wp2
   go_roundw
   case rel=>exact⟨k+1,by omega,by go_num,below_drewN hb _⟩
   case measure=>simp[intOf];omega
  ·clear h h'
   go_wp2
   go_ret
   exact⟨rfl,hb⟩
theorem bUB (x0:Int) (w:World) (h0:0<=x0) (h1:x0<=1000000000000) :
  Calls Tryz.prog 155 #[.int .i64 x0] w (fun e w'=>e = .returned (.string (kZ x0))/\(kZ x0).size<=maxLen/\Below w.heap.size w w'):=by
 have r0:(Lit.int .i64 x0).wf=true:=aAF ⟨by omega,by omega⟩
 have hA:iD w oV.ams [.int .i64 x0] (gA (oV.ams.map (·.mv.t)) (SV.as _ ⟨oV.argTy,x0⟩)):=by
  have e:SV.as (dI (oV.ams.map (·.mv.t))) ⟨oV.argTy,x0⟩=x0:=SV.as_self _ _
  rw[e]
  exact(iD.cons rfl rfl (show rd (.int .i64) w [.int .i64 x0] x0 from⟨rfl,r0⟩) iD.nil)
 have hok:okD tI x0:=kS.okD (kS.of_rd (show rd (.int .i64) w [.int .i64 x0] x0 from⟨rfl,r0⟩))
 have hz:=(bM3 x0 hok ⟨h0,h1⟩).1
 have hg:=aWN.givesL rfl (x:=x0) ⟨h0,h1⟩ hok hA
 have e:SV.as (dI (oV.rms.map (·.t))) ⟨oV.resTy,oV.fn x0⟩=kZ x0:=SV.as_self _ _
 rw[e] at hg
 refine hg.mono fun e w' hh=>?_
 clear hg
 obtain⟨rs,bl,he,ho,hn,hb,bel⟩:=hh
 obtain⟨r0,rs0,b0,bb0,rfl,rfl,k0,ho⟩:=aK9.inv ho
 obtain⟨rfl,rfl⟩:=ho
 have e0:=k0.str
 exact⟨he.trans (congrArg (fun l=>Ending.returned (bC0 l)) (congr (congrArg List.cons e0) rfl)),hz,bel⟩
noncomputable def bI4 (l:List ByteArray) (k:Int):List ByteArray:=(List.range l.length).map fun i:Nat=>kZ (k+(i:Int))
theorem bRU (l:List ByteArray) (k:Int):(bI4 l k).length=l.length:=by unfold bI4;simp
theorem bP2 {l:List ByteArray} {k:Int} {i:Nat} (h:i<(bI4 l k).length):(bI4 l k)[i]=kZ (k+(i:Int)):=by simp only[bI4,List.getElem_map,List.getElem_range]
theorem cI6 {l M:List ByteArray} {k:Int} (hM:M.length=l.length) (h:∀i (hi:i<M.length),i<l.length->M[i]=kZ (k+(i:Int))):M=bI4 l k:=by
 refine List.ext_getElem (by rw[hM,bRU]) fun i h1 h2=>?_
 rw[h i h1 (by omega),bP2]
theorem bGZ (p:Option Addr) (len cap:Nat) (k0:Int) (l:List ByteArray) (bl:List Nat) (w:World) (h:Un bKK w [.slice p len cap] l bl) (hnd:bl.Nodup) (h0:0<=k0) (h1:k0+l.length<=1000000000000) :
  Calls Tryz.prog 63 #[.slice p len cap,.int .i64 k0] w (fun e w'=>e = .returned (.int .i64 (k0+l.length))/\Un bKK w' [.slice p len cap] (bI4 l k0) bl/\Only bl w w'):=by
 obtain⟨rfl,hmx⟩:=aJT h
 unfold maxLen at hmx
 have L2:=aF5 _ _ _ _ _ h
 go_enter Tryz.func63,Tryz.ntmps63
 go_wp2
 go_loopw [1,5] (fun q i wr=>∃k:Nat,k<=l.length/\i = .int .i64 k/\q = .int .i64 (k0+k)/\Only bl w wr/\∃M:List ByteArray,M.length=l.length/\(∀i (hi:i<M.length),i<k->M[i]=kZ (k0+(i:Int)))/\Un bKK wr [.slice p l.length cap] M bl) (fun _ i _=>l.length - (intOf i).toNat)
 case atStart=>exact⟨0,by omega,rfl,by simp,Only.refl _ _,l,rfl,fun i hi h9=>absurd h9 (Nat.not_lt_zero _),h⟩
 case round =>
  obtain⟨k,hk,rfl,rfl,hb,M,hM,hQ,hf⟩:=hrel
  have HQ:=Lib.hid hQ;clear hQ
  clear h
  by_cases hlt:k<l.length
  ·have hbl:=aF5 _ _ _ _ _ hf
   go_wp2_with fail
   refine(bUB (k0+k) _ (by omega) (by omega)).mono ?_
   rintro e w3 ⟨rfl,ht,b3⟩
   obtain⟨t,et⟩:∃t,t=kZ (k0+k):=⟨_,rfl⟩
   rw[<-et] at ht⊢
   have ET:=Lib.hid et;clear et
   have hf3:Un bKK w3 [.slice p l.length cap] M bl:=Un.keep _ _ _ _ (fun b hbb=>b3.block b (hbl b hbb)) hf
   have M8:Only bl w w3:=hb.trans (Only.of_below b3 rfl)
   clear hf
   obtain⟨b,cap',c,bk,hv,Ga,-,hfz,hcl,hc,hR,-,-,-,-,hU⟩:=bLJ hf3 hnd k (by omega)
   simp only[Value.slice.injEq] at hv
   obtain⟨rfl,-,-⟩:=hv
   obtain⟨rfl,_,rfl⟩:=hR
   have c1:w3.cell? ⟨b,k,none⟩=some (.string M[k]):=by
    have:=hc 0 (by simp)
    simpa [Ty.n] using this
   have c2:=hfz k
   have HU:=Lib.hid (hU 0 (.string t) t (by simp) ⟨rfl,ht,rfl⟩)
   clear hU hc hfz
   go_wp2
   go_roundw
   case rel =>
    refine⟨k+1,by omega,by go_num,by go_num,M8.setCell Ga _,M.set k t,by rw[List.length_set];exact hM,fun i hi h9=>?_,?_⟩
    ·rw[List.getElem_set]
     split
     ·rename_i h8;rw[<-h8];exact ET.out
     ·exact HQ.out i (by rw[List.length_set] at hi;exact hi) (by omega)
    have h2:=HU.out
    simpa [Ty.n] using h2
   case measure=>simp[intOf];omega
  ·go_wp2
   go_ret
   obtain rfl:k=l.length:=by omega
   have e9:=cI6 hM HQ.out
   rw[e9] at hf
   exact⟨rfl,hf,hb⟩
theorem aMY (p:Option Addr) (len cap:Nat) (k0:Int) (l:List ByteArray) (w:World) (h:tC 1 (rd .str w) w p len cap (bI4 l k0)) (h0:0<=k0) (h1:k0+l.length<=1000000000000) :
  Calls Tryz.prog 64 #[.slice p len cap,.int .i64 k0] w (bLG (.int .i64 (k0+l.length)) w):=by
 have hl:=bRU l k0
 have:=cJR (t:=.str) bBS p len cap (bI4 l k0) k0 w h h0 (by omega) ⟨h0,by show k0+((bI4 l k0).length:Int)<=_;omega,fun i hi=>bP2 hi⟩
 dsimp only at this
 rwa [hl] at this
noncomputable def bXV (x:aW×(List Int×Int)):List ByteArray:=aOV x.1 x.2.1 x.2.2
theorem cBY (d:aW) (l:List Int) (x:Int) (hz0:((bC aE d:Nat):Int)<=1048576) (hz1:((bC aA l:Nat):Int)<=1048576):bC aE d<=100000000/\bC aE d<=100000000:=⟨by omega,by omega⟩
theorem cEF (d:aW) (l:List Int) (x:Int) (hz0:((bC aE d:Nat):Int)<=1048576) (hz1:((bC aA l:Nat):Int)<=1048576):((bXV (d,l,x)).length:Int)<=1000000000:=by
 have h:(aOV d l x).length<=2001:=by
  unfold aOV
  split
  ·have:=aRF d l x (min l.length 2000);omega
  ·exact Nat.zero_le _
 show((aOV d l x).length:Int)<=_
 omega
theorem bSO (d0:Ty.D aE) (l1:List (Ty.D pN)) (x2:Int) (h2:(Lit.int .i64 x2).wf=true) (hz0:((bC aE d0:Nat):Int)<=(1048576:Int)) (hz1:((bC aA l1:Nat):Int)<=(1048576:Int)) :
  ∃(R0:List (Ty.D .str)),(∀(cs0:Array Value) (p1:Option Addr) (c1:Nat) (w:World),rd aE w cs0.toList d0->tC (Ty.n pN) (rd pN w) w p1 (List.length l1) c1 l1->Calls Tryz.prog 60 #[.agg cs0,.slice p1 (List.length l1) c1,.int .i64 x2] w (fun e w'=>∃p0 c0,e = .returned (.slice p0 (List.length R0) c0)/\FrR bKK w.heap.size w'.heap.size w' [.slice p0 (List.length R0) c0] R0/\Below w.heap.size w w')) /\
   (∀(cs0:Array Value) (p1:Option Addr) (c1:Nat) (w:World),rd aE w cs0.toList d0->tC (Ty.n pN) (rd pN w) w p1 (List.length l1) c1 l1->Calls Tryz.prog 35 #[.agg cs0,.slice p1 (List.length l1) c1,.int .i64 x2] w (fun e w'=>∃p0 c0,e = .returned (.slice p0 (List.length R0) c0)/\FrA bKK w.heap.size w'.heap.size w' [.slice p0 (List.length R0) c0] R0/\Below w.heap.size w w'))/\(List.length R0:Int)<=1000000000:=by
 obtain⟨Lm,Ln⟩:=cBY d0 l1 x2 hz0 hz1
 refine⟨(bXV (d0,l1,x2)),fun cs0 p1 c1 w r0 r1=>?_,fun cs0 p1 c1 w r0 r1=>?_,cEF d0 l1 x2 hz0 hz1⟩
 ·have hA:iD w tB.ams [.agg cs0,.slice p1 (List.length l1) c1,.int .i64 x2] (gA (tB.ams.map (·.mv.t)) (SV.as _ ⟨tB.argTy,(d0,l1,x2)⟩)):=by
   have e:SV.as (dI (tB.ams.map (·.mv.t))) ⟨tB.argTy,(d0,l1,x2)⟩=(d0,l1,x2):=SV.as_self _ _
   rw[e]
   exact(iD.cons rfl (by simp[mkV,Value.cells]) r0 (iD.cons rfl rfl (tC.toRd (e:=3) r1) (iD.cons rfl rfl (show rd (.int .i64) w [.int .i64 x2] x2 from⟨rfl,h2⟩) iD.nil)))
  have hg:=bUE.givesL rfl (x:=(d0,l1,x2)) Lm ⟨kS.okD (kS.of_rd r0),kS.okD (kS.of_rd (tC.toRd (e:=3) r1)),kS.okD (kS.of_rd (show rd (.int .i64) w [.int .i64 x2] x2 from⟨rfl,h2⟩))⟩ hA
  have e:SV.as (dI (tB.rms.map (·.t))) ⟨tB.resTy,tB.fn (d0,l1,x2)⟩=bXV (d0,l1,x2):=SV.as_self _ _
  rw[e] at hg
  refine hg.mono fun e w' hh=>?_
  clear hg
  obtain⟨rs,bl,he,ho,hn,hb,bel⟩:=hh
  obtain⟨r0,rs0,b0,bb0,rfl,rfl,k0,ho⟩:=aK9.inv ho
  obtain⟨rfl,rfl⟩:=ho
  obtain⟨q0,qc0,e0,f0⟩:=k0.slR
  exact⟨q0,qc0,he.trans (congrArg (fun l=>Ending.returned (bC0 l)) (congr (congrArg List.cons e0) rfl)),f0,bel⟩
 ·have hA:iD w tM.ams [.agg cs0,.slice p1 (List.length l1) c1,.int .i64 x2] (gA (tM.ams.map (·.mv.t)) (SV.as _ ⟨tM.argTy,(d0,l1,x2)⟩)):=by
   have e:SV.as (dI (tM.ams.map (·.mv.t))) ⟨tM.argTy,(d0,l1,x2)⟩=(d0,l1,x2):=SV.as_self _ _
   rw[e]
   exact(iD.cons rfl (by simp[mkV,Value.cells]) r0 (iD.cons rfl rfl (tC.toRd (e:=3) r1) (iD.cons rfl rfl (show rd (.int .i64) w [.int .i64 x2] x2 from⟨rfl,h2⟩) iD.nil)))
  have hg:=bT3.givesL rfl (x:=(d0,l1,x2)) Ln ⟨kS.okD (kS.of_rd r0),kS.okD (kS.of_rd (tC.toRd (e:=3) r1)),kS.okD (kS.of_rd (show rd (.int .i64) w [.int .i64 x2] x2 from⟨rfl,h2⟩))⟩ hA
  have e:SV.as (dI (tM.rms.map (·.t))) ⟨tM.resTy,tM.fn (d0,l1,x2)⟩=bXV (d0,l1,x2):=SV.as_self _ _
  rw[e] at hg
  refine hg.mono fun e w' hh=>?_
  clear hg
  obtain⟨rs,bl,he,ho,hn,hb,bel⟩:=hh
  obtain⟨r0,rs0,b0,bb0,rfl,rfl,k0,ho⟩:=aK9.inv ho
  obtain⟨rfl,rfl⟩:=ho
  obtain⟨q0,qc0,e0,f0⟩:=k0.slA rfl (hn.sublist (List.sublist_append_left _ _)) (fun b h=>hb b ((List.sublist_append_left _ _).subset h))
  exact⟨q0,qc0,he.trans (congrArg (fun l=>Ending.returned (bC0 l)) (congr (congrArg List.cons e0) rfl)),f0,bel⟩
def aVO:Ty->List Bool->Ty
 | .cMV a _,false::π=>aVO a π
 | .cMV _ b,true::π=>aVO b π
 | t,_=>t
def cFR:(t:Ty)->(π:List Bool)->t.D->(aVO t π).D
 | .cMV a _,false::π,x=>cFR a π x.1
 | .cMV _ b,true::π,x=>cFR b π x.2
 | .cMV _ _,[],x=>x
 | .int _,_,x=>x
 | .bool,_,x=>x
 | .str,_,x=>x
 | .slice _ _,_,x=>x
def aMM:(t:Ty)->(π:List Bool)->t.D->(aVO t π).D->t.D
 | .cMV a _,false::π,x,v=>(aMM a π x.1 v,x.2)
 | .cMV _ b,true::π,x,v=>(x.1,aMM b π x.2 v)
 | .cMV _ _,[],_,v=>v
 | .int _,_,_,v=>v
 | .bool,_,_,v=>v
 | .str,_,_,v=>v
 | .slice _ _,_,_,v=>v
def bH2:Ty->List Bool->Nat
 | .cMV a _,false::π=>bH2 a π
 | .cMV a b,true::π=>a.n+bH2 b π
 | _,_=>0
def cLZ (t:Ty) (π:List Bool) (w:World) (c:List Value) (d:t.D) (bl:List Nat):Prop :=
 ∃c1 cu c2 b1 bu b2,c=c1++(cu++c2)/\c1.length=bH2 t π/\bl=b1++(bu++b2)/\Un (aVO t π) w cu (cFR t π d) bu /\
  ∀w' cu' v',(∀q,q∈b1\/q∈b2->w'.heap[q]?=w.heap[q]?)->Un (aVO t π) w' cu' v' bu->Un t w' (c1++(cu'++c2)) (aMM t π d v') bl
theorem bCB:(t:Ty)->(π:List Bool)->(w:World)->(c:List Value)->(d:t.D)->(bl:List Nat)->Un t w c d bl->cLZ t π w c d bl
 | .cMV a b,false::π,w,c,d,bl,h=>by
  obtain⟨x1,x2,y1,y2,rfl,rfl,h1,h2⟩:=h
  obtain⟨c1,cu,c2,b1,bu,b2,rfl,hl,rfl,hu,hk⟩:=bCB a π w x1 d.1 y1 h1
  refine⟨c1,cu,c2++x2,b1,bu,b2++y2,by simp,hl,by simp,hu,fun w' cu' v' hw hv=>?_⟩
  refine⟨c1++(cu'++c2),x2,b1++(bu++b2),y2,by simp,rfl,hk w' cu' v' (fun q hq=>hw q ?_) hv,Un.keep _ _ _ _ (fun q hq=>hw q ?_) h2⟩
  ·rcases hq with hq|hq
   ·exact .inl hq
   ·exact .inr (by simp[hq])
  ·exact .inr (by simp[hq])
 | .cMV a b,true::π,w,c,d,bl,h=>by
  obtain⟨x1,x2,y1,y2,rfl,rfl,h1,h2⟩:=h
  obtain⟨c1,cu,c2,b1,bu,b2,rfl,hl,rfl,hu,hk⟩:=bCB b π w x2 d.2 y2 h2
  refine⟨x1++c1,cu,c2,y1++b1,bu,b2,by simp,by rw[List.length_append,Un.length h1,hl];rfl,by simp,hu,fun w' cu' v' hw hv=>?_⟩
  refine⟨x1,c1++(cu'++c2),y1,b1++(bu++b2),by simp,by simp,Un.keep _ _ _ _ (fun q hq=>hw q ?_) h1,hk w' cu' v' (fun q hq=>hw q ?_) hv⟩
  ·exact .inl (by simp[hq])
  ·rcases hq with hq|hq
   ·exact .inl (by simp[hq])
   ·exact .inr hq
 | .cMV a b,[],w,c,d,bl,h=>⟨[],c,[],[],bl,[],by simp,rfl,by simp,h,fun w' cu' v' _ hv=>by rw[List.nil_append,List.append_nil];exact hv⟩
 | .int k,π,w,c,d,bl,h=>⟨[],c,[],[],bl,[],by simp,rfl,by simp,h,fun w' cu' v' _ hv=>by rw[List.nil_append,List.append_nil];exact hv⟩
 | .bool,π,w,c,d,bl,h=>⟨[],c,[],[],bl,[],by simp,rfl,by simp,h,fun w' cu' v' _ hv=>by rw[List.nil_append,List.append_nil];exact hv⟩
 | .str,π,w,c,d,bl,h=>⟨[],c,[],[],bl,[],by simp,rfl,by simp,h,fun w' cu' v' _ hv=>by rw[List.nil_append,List.append_nil];exact hv⟩
 | .slice e t,π,w,c,d,bl,h=>⟨[],c,[],[],bl,[],by simp,rfl,by simp,h,fun w' cu' v' _ hv=>by rw[List.nil_append,List.append_nil];exact hv⟩
theorem bL1 {b1 bu b2:List Nat} (h:(b1++(bu++b2)).Nodup):bu.Nodup/\∀q,q∈b1\/q∈b2->q ∉ bu:=by
 simp only[List.nodup_append,List.mem_append] at h
 obtain⟨h1,⟨h2,h3,h4⟩,h5⟩:=h
 exact⟨h2,fun q hq hb=>hq.elim (fun h=>h5 q h q (.inl hb) rfl) (fun h=>h4 q hb q h rfl)⟩
section
variable {t:Ty} {e:TypeId} {w:World} {v:Value} {M:List t.D} {bl:List Nat} {x:t.D} {k:Nat}
theorem jP (h:Un (.slice e t) w [v] (M.set k x) bl) (hnd:bl.Nodup) (hk:k<M.length) (π:List Bool) :
  ∃b cap cu bu,v = .slice (some ⟨b,0,none⟩) M.length cap/\b∈bl/\(∀j,w.frozen? ⟨b,j,none⟩=false)/\(∀j (hj:j<cu.length),w.cell? ⟨b,k * t.n+(bH2 t π+j),none⟩=some cu[j]) /\
   Un (aVO t π) w cu (cFR t π x) bu/\bu.Nodup/\(∀q∈bu,q∈bl) /\
   (∀w' v',(∀q,q ∉ bu->q<w.heap.size->w'.heap[q]?=w.heap[q]?)->Un (aVO t π) w' cu v' bu->Un (.slice e t) w' [v] (M.set k (aMM t π x v')) bl) /\
   (∀u v',cu.length=1->Un (aVO t π) w [u] v' bu->Un (.slice e t) (w.setCell ⟨b,k * t.n+bH2 t π,none⟩ u) [v] (M.set k (aMM t π x v')) bl):=by
 have hk':k<(M.set k x).length:=by rw[List.length_set];exact hk
 obtain⟨b,cap,c,bk,hv,hb,hz,hfz,hcl,hc,hR,hsub,hnb,hno,hU,hV⟩:=bLJ h hnd k hk'
 rw[List.getElem_set_self] at hR
 have hlt:=aF5 _ _ _ _ _ hR
 obtain⟨c1,cu,c2,b1,bu,b2,rfl,hl,rfl,hu,hp⟩:=bCB t π w c x bk hR
 obtain⟨n1,n2⟩:=bL1 hnb
 refine⟨b,cap,cu,bu,by rw[hv,List.length_set],hb,hfz,fun j hj=>?_,hu,n1,fun q hq=>hsub q (by simp[hq]),fun w' v' hw hv'=>?_,fun u v' h1 hv'=>?_⟩
 ·have h2:=hc (bH2 t π+j) (by simp only[List.length_append];omega)
  rw[h2]
  congr 1
  rw[List.getElem_append_right (by omega),List.getElem_append_left (by omega)]
  congr 1;omega
 ·have h3:=hU w' _ (fun q hq hz=>hw q (fun hm=>hq (by simp[hm])) hz) (hp w' cu v' (fun q hq=>hw q (n2 q hq) (hlt q (by rcases hq with hq|hq<;>simp[hq]))) hv')
  rwa [List.set_set] at h3
 ·obtain⟨z,rfl⟩:∃z,cu=[z]:=by
   match cu,h1 with
   | [z],_=>exact⟨z,rfl⟩
  have h3:=hV (bH2 t π) u _ (by simp only[List.length_append,List.length_cons];omega) (by
   have h4:=hp w [u] v' (fun _ _=>rfl) hv'
   rw[List.set_append_right _ _ (by omega),hl,Nat.sub_self]
   exact h4)
  rwa [List.set_set] at h3
end
section
variable {t:Ty} {w:World} {c:List Value} {d:t.D} {bl:List Nat}
theorem cMF (h:Un t w c d bl):rd t w c d:=kS.rd (fun b hb=>aF5 _ _ _ _ _ h b hb) (Un.rdg _ _ _ _ h)
theorem bNR (h:Un t w c d bl) (hnd:bl.Nodup) (π:List Bool):∃bu,Un (aVO t π) w ((c.drop (bH2 t π)).take (aVO t π).n) (cFR t π d) bu/\bu.Nodup/\(∀q∈bu,q∈bl) /\
  ∀w' v',(∀q,q ∉ bu->q<w.heap.size->w'.heap[q]?=w.heap[q]?)->Un (aVO t π) w' ((c.drop (bH2 t π)).take (aVO t π).n) v' bu->Un t w' c (aMM t π d v') bl:=by
 have hlt:=aF5 _ _ _ _ _ h
 obtain⟨c1,cu,c2,b1,bu,b2,rfl,hl,rfl,hu,hp⟩:=bCB t π w c d bl h
 obtain⟨n1,n2⟩:=bL1 hnd
 have e:((c1++(cu++c2)).drop (bH2 t π)).take (aVO t π).n=cu:=by
  rw[<-hl,List.drop_left,<-Un.length hu,List.take_left]
 rw[e]
 exact⟨bu,hu,n1,fun q hq=>by simp[hq],fun w' v' hw hv=>hp w' cu v' (fun q hq=>hw q (n2 q hq) (hlt q (by rcases hq with hq|hq<;>simp[hq]))) hv⟩
end
set_option maxHeartbeats 4000000 in
set_option maxRecDepth 100000 in
theorem bMQ (p:Option Addr) (len cap:Nat) (k0:Int) (l:List aL.D) (bl:List Nat) (w:World) (h:Un (.slice 138 aL) w [.slice p len cap] l bl) (hnd:bl.Nodup) (h0:0<=k0) (h1:k0+(cR (.slice 138 aL) l:Nat)<=1000000000000) :
  Calls Tryz.prog 71 #[.slice p len cap,.int .i64 k0] w (aWK (.slice 138 aL) w [.slice p len cap] (mk (.slice 138 aL) l k0) bl (k0+(cR (.slice 138 aL) l:Nat))):=by
 obtain⟨rfl,hmx⟩:=aJT h
 have HL:=Lib.hid (aB2 (e:=138) (t:=aL) l k0)
 rw[mP] at h1
 have hbl:=aF5 _ _ _ _ _ h
 unfold maxLen at hmx
 go_enter Tryz.func71,Tryz.ntmps71
 go_wp2
 go_loopw [1,5] (fun q i wr=>∃k:Nat,k<=l.length/\i = .int .i64 k/\(∃kk:Int,q = .int .i64 kk/\Hid (kk=k0+(((l.take k).map (cR aL)).sum:Nat))/\0<=kk/\kk<=1000000000000)/\Only bl w wr/\Hid (Un (.slice 138 aL) wr [.slice p l.length cap] ((mk (.slice 138 aL) l k0:List aL.D).take k++l.drop k) bl)) (fun _ i _=>l.length - (intOf i).toNat)
 case atStart=>exact⟨0,by omega,rfl,⟨_,rfl,by show _=_;simp,by omega,by omega⟩,Only.refl _ _,by show Un _ _ _ _ _;simpa using h⟩
 case round =>
  obtain⟨k,hk,rfl,⟨kk,rfl,hkk,Ch,hk1⟩,hb,hf⟩:=hrel
  clear h
  by_cases hlt:k<l.length
  ·obtain⟨M,hM⟩:∃M,M=(mk (.slice 138 aL) l k0:List aL.D).take k++l.drop k:=⟨_,rfl⟩
   have hkl:k<M.length:=by rw[hM];simp only[List.length_append,List.length_take,List.length_drop,HL.out];omega
   obtain⟨x,hx⟩:∃x,l[k]=x:=⟨_,rfl⟩
   have A5:M[k]=x:=by subst hM;rw[aFS _ _ _ hlt HL.out,hx]
   have Ab:∀y,(mk (.slice 138 aL) l k0:List aL.D)[k]'(by rw[HL.out];exact hlt)=y->M.set k y=(mk (.slice 138 aL) l k0:List aL.D).take (k+1)++l.drop (k+1):=fun y hy=>by subst hM;exact aFM _ _ _ hlt HL.out _ hy
   have hmk:=aPI (e:=138) (t:=aL) l k0 k hlt (by rw[HL.out];exact hlt)
   rw[hx,<-hkk.out] at hmk
   have hs1:=gN (cR aL) l k hlt
   have hs2:=sL (cR aL) l (k+1)
   rw[hx] at hs1
   have An:Un (.slice 138 aL) wr [.slice p l.length cap] (M.set k x) bl:=by have Ae:=hf.out;rw[<-hM] at Ae;rw[<-A5,List.set_getElem_self];exact Ae
   have Bm:kk+(cR aL x:Nat)<=1000000000000:=by have:=hkk.out;omega
   have HS1:=Lib.hid hs1;have HSET:=Lib.hid Ab;have HMK:=Lib.hid hmk
   clear hx hM hs1 hs2 Ab hmk hf A5
   obtain⟨x0,x1⟩:=x
   have Ao:cR aL (x0,x1)=cR aA x0+cR aA x1:=by first|rfl|(simp only[cR];omega)
   rw[Ao] at Bm
   clear Ao
   obtain⟨b0,cap0,cu0,bu0,hv0,Af,Ad,hc0,Aq,hn0,hs0,Au,A8⟩:=jP An hnd hkl [false]
   simp only[Value.slice.injEq,eW,Addr.mk.injEq,and_true] at hv0
   obtain⟨rfl,-,-⟩:=hv0
   obtain⟨p0,n0,q0,rfl⟩:=tR Aq
   have e0:wr.cell? ⟨b0,k * 2,none⟩=some (.slice p0 n0 q0):=hc0 0 Nat.zero_lt_one
   have HA0:=Lib.hid Au;clear Au A8 hc0 Ad
   go_wp2_with fail
   refine(rC _ _ _ _ x0 _ _ (by exact Aq) hn0 (by omega) (by have:=zI x0;omega)).mono ?_
   rintro e w0 ⟨rfl,rp0,on0⟩
   have hg0:=HA0.out w0 _ (fun q hq hz=>on0.block q hq hz) rp0
   have hb0:Only bl w w0:=Only.trans hb (on0.mono hs0)
   clear HA0 rp0 Aq e0
   obtain⟨b1,cap1,cu1,bu1,hv1,Cj,Am,hc1,Ap,Ah,hs1,A9,Bs⟩:=jP hg0 hnd hkl [true]
   simp only[Value.slice.injEq,eW,Addr.mk.injEq,and_true] at hv1
   obtain⟨hvb,-,-⟩:=hv1
   subst hvb
   obtain⟨p1,n1,q1,rfl⟩:=tR Ap
   have e1:w0.cell? ⟨b0,k * 2+1,none⟩=some (.slice p1 n1 q1):=hc1 0 Nat.zero_lt_one
   have HA1:=Lib.hid A9;clear A9 Bs hc1 Am
   go_wp2_with fail
   refine(rC _ _ _ _ x1 _ _ (by exact Ap) Ah (by omega) (by have:=zI x1;omega)).mono ?_
   rintro e w1 ⟨rfl,rp1,on1⟩
   have hg1:=HA1.out w1 _ (fun q hq hz=>on1.block q hq hz) rp1
   have hb1:Only bl w w1:=Only.trans hb0 (on1.mono hs1)
   clear HA1 rp1 Ap e1
   have HF:=Lib.hid hg1
   clear An hg0 hg1
   go_wp2
   go_roundw
   case rel =>
    refine⟨k+1,by omega,by go_num,⟨_,rfl,by show _=_;have:=HS1.out;have:=hkk.out;have Bp:cR aL (x0,x1)=cR aA x0+cR aA x1:=(by first|rfl|(simp only[cR];omega));omega,by omega,by omega⟩,hb1,?_⟩
    have h2:=HF.out
    rw[HSET.out _ (HMK.out.trans (by rfl))] at h2
    exact h2
   case measure=>simp[intOf];omega
  ·go_wp2
   go_ret
   obtain rfl:k=l.length:=by omega
   have hkk:=hkk.out
   rw[List.take_length] at hkk
   refine⟨aDQ (by rw[mP];exact hkk),?_,hb⟩
   have hf:=hf.out
   have e1:(mk (.slice 138 aL) l k0:List aL.D).take l.length++l.drop l.length=mk (.slice 138 aL) l k0:=by
    rw[List.drop_length,List.append_nil,List.take_of_length_le (by rw[HL.out];exact Nat.le_refl _)]
   rw[e1] at hf
   exact hf
set_option maxHeartbeats 4000000 in
set_option maxRecDepth 100000 in
theorem bNI (p:Option Addr) (len cap:Nat) (k0:Int) (l:List aM.D) (bl:List Nat) (w:World) (h:Un (.slice 249 aM) w [.slice p len cap] l bl) (hnd:bl.Nodup) (h0:0<=k0) (h1:k0+(cR (.slice 249 aM) l:Nat)<=1000000000000) :
  Calls Tryz.prog 182 #[.slice p len cap,.int .i64 k0] w (aWK (.slice 249 aM) w [.slice p len cap] (mk (.slice 249 aM) l k0) bl (k0+(cR (.slice 249 aM) l:Nat))):=by
 obtain⟨rfl,hmx⟩:=aJT h
 have HL:=Lib.hid (aB2 (e:=249) (t:=aM) l k0)
 rw[mP] at h1
 have hbl:=aF5 _ _ _ _ _ h
 unfold maxLen at hmx
 go_enter Tryz.func182,Tryz.ntmps182
 go_wp2
 go_loopw [1,5] (fun q i wr=>∃k:Nat,k<=l.length/\i = .int .i64 k/\(∃kk:Int,q = .int .i64 kk/\Hid (kk=k0+(((l.take k).map (cR aM)).sum:Nat))/\0<=kk/\kk<=1000000000000)/\Only bl w wr/\Hid (Un (.slice 249 aM) wr [.slice p l.length cap] ((mk (.slice 249 aM) l k0:List aM.D).take k++l.drop k) bl)) (fun _ i _=>l.length - (intOf i).toNat)
 case atStart=>exact⟨0,by omega,rfl,⟨_,rfl,by show _=_;simp,by omega,by omega⟩,Only.refl _ _,by show Un _ _ _ _ _;simpa using h⟩
 case round =>
  obtain⟨k,hk,rfl,⟨kk,rfl,hkk,Ch,hk1⟩,hb,hf⟩:=hrel
  clear h
  by_cases hlt:k<l.length
  ·obtain⟨M,hM⟩:∃M,M=(mk (.slice 249 aM) l k0:List aM.D).take k++l.drop k:=⟨_,rfl⟩
   have hkl:k<M.length:=by rw[hM];simp only[List.length_append,List.length_take,List.length_drop,HL.out];omega
   obtain⟨x,hx⟩:∃x,l[k]=x:=⟨_,rfl⟩
   have A5:M[k]=x:=by subst hM;rw[aFS _ _ _ hlt HL.out,hx]
   have Ab:∀y,(mk (.slice 249 aM) l k0:List aM.D)[k]'(by rw[HL.out];exact hlt)=y->M.set k y=(mk (.slice 249 aM) l k0:List aM.D).take (k+1)++l.drop (k+1):=fun y hy=>by subst hM;exact aFM _ _ _ hlt HL.out _ hy
   have hmk:=aPI (e:=249) (t:=aM) l k0 k hlt (by rw[HL.out];exact hlt)
   rw[hx,<-hkk.out] at hmk
   have hs1:=gN (cR aM) l k hlt
   have hs2:=sL (cR aM) l (k+1)
   rw[hx] at hs1
   have An:Un (.slice 249 aM) wr [.slice p l.length cap] (M.set k x) bl:=by have Ae:=hf.out;rw[<-hM] at Ae;rw[<-A5,List.set_getElem_self];exact Ae
   have Bm:kk+(cR aM x:Nat)<=1000000000000:=by have:=hkk.out;omega
   have HS1:=Lib.hid hs1;have HSET:=Lib.hid Ab;have HMK:=Lib.hid hmk
   clear hx hM hs1 hs2 Ab hmk hf A5
   obtain⟨x0,x1⟩:=x
   have Ao:cR aM (x0,x1)=1+cR aA x1:=by first|rfl|(simp only[cR];omega)
   rw[Ao] at Bm
   clear Ao
   obtain⟨b0,cap0,cu0,bu0,hv0,Af,Ad,hc0,Aq,hn0,hs0,Au,A8⟩:=jP An hnd hkl [false]
   simp only[Value.slice.injEq,eW,Addr.mk.injEq,and_true] at hv0
   obtain⟨rfl,-,-⟩:=hv0
   have hq0:Un pN wr cu0 x0 bu0:=Aq
   have hl0:cu0.length=1:=by rw[hq0.1];rfl
   have e0:∃u,wr.cell? ⟨b0,k * 2,none⟩=some u:=⟨_,hc0 0 (by rw[hl0];exact Nat.zero_lt_one)⟩
   obtain⟨u0,e0⟩:=e0
   have g0:wr.frozen? ⟨b0,k * 2,none⟩=false:=Ad _
   have hg0:Un (.slice 249 aM) (wr.setCell ⟨b0,k * 2,none⟩ (.int .i64 (kk))) [.slice (some ⟨b0,0,none⟩) l.length cap] (M.set k (aMM aM [false] _ (show Ty.D pN from(kk:Int)))) bl:=A8 (.int .i64 (kk)) _ hl0 ⟨rfl,aAF (show -9223372036854775808<=(kk:Int)/\(kk:Int)<=9223372036854775807 by omega),hq0.2.2⟩
   have hb0:Only bl w (wr.setCell ⟨b0,k * 2,none⟩ (.int .i64 (kk))):=Only.setCell hb Af _
   clear Au A8 hc0 Ad Aq hq0 hl0
   obtain⟨b1,cap1,cu1,bu1,hv1,Cj,Am,hc1,Ap,Ah,hs1,A9,Bs⟩:=jP hg0 hnd hkl [true]
   simp only[Value.slice.injEq,eW,Addr.mk.injEq,and_true] at hv1
   obtain⟨hvb,-,-⟩:=hv1
   subst hvb
   obtain⟨p1,n1,q1,rfl⟩:=tR Ap
   have e1:(wr.setCell ⟨b0,k * 2,none⟩ (.int .i64 (kk))).cell? ⟨b0,k * 2+1,none⟩=some (.slice p1 n1 q1):=hc1 0 Nat.zero_lt_one
   have HA1:=Lib.hid A9;clear A9 Bs hc1 Am
   go_wp2_with fail
   refine(rC _ _ _ _ x1 _ _ (by exact Ap) Ah (by omega) (by have:=zI x1;omega)).mono ?_
   rintro e w1 ⟨rfl,rp1,on1⟩
   have hg1:=HA1.out w1 _ (fun q hq hz=>on1.block q hq hz) rp1
   have hb1:Only bl w w1:=Only.trans hb0 (on1.mono hs1)
   clear HA1 rp1 Ap e1
   have HF:=Lib.hid hg1
   clear An hg0 hg1
   go_wp2
   go_roundw
   case rel =>
    refine⟨k+1,by omega,by go_num,⟨_,rfl,by show _=_;have:=HS1.out;have:=hkk.out;have Bp:cR aM (x0,x1)=1+cR aA x1:=(by first|rfl|(simp only[cR];omega));omega,by omega,by omega⟩,hb1,?_⟩
    have h2:=HF.out
    rw[HSET.out _ (HMK.out.trans (by rfl))] at h2
    exact h2
   case measure=>simp[intOf];omega
  ·go_wp2
   go_ret
   obtain rfl:k=l.length:=by omega
   have hkk:=hkk.out
   rw[List.take_length] at hkk
   refine⟨aDQ (by rw[mP];exact hkk),?_,hb⟩
   have hf:=hf.out
   have e1:(mk (.slice 249 aM) l k0:List aM.D).take l.length++l.drop l.length=mk (.slice 249 aM) l k0:=by
    rw[List.drop_length,List.append_nil,List.take_of_length_le (by rw[HL.out];exact Nat.le_refl _)]
   rw[e1] at hf
   exact hf
set_option maxHeartbeats 4000000 in
set_option maxRecDepth 100000 in
theorem aRZ (p:Option Addr) (len cap:Nat) (k0:Int) (l:List aD.D) (bl:List Nat) (w:World) (h:Un (.slice 147 aD) w [.slice p len cap] l bl) (hnd:bl.Nodup) (h0:0<=k0) (h1:k0+(cR (.slice 147 aD) l:Nat)<=1000000000000) :
  Calls Tryz.prog 88 #[.slice p len cap,.int .i64 k0] w (aWK (.slice 147 aD) w [.slice p len cap] (mk (.slice 147 aD) l k0) bl (k0+(cR (.slice 147 aD) l:Nat))):=by
 obtain⟨rfl,hmx⟩:=aJT h
 have HL:=Lib.hid (aB2 (e:=147) (t:=aD) l k0)
 rw[mP] at h1
 have hbl:=aF5 _ _ _ _ _ h
 unfold maxLen at hmx
 go_enter Tryz.func88,Tryz.ntmps88
 go_wp2
 go_loopw [1,5] (fun q i wr=>∃k:Nat,k<=l.length/\i = .int .i64 k/\(∃kk:Int,q = .int .i64 kk/\Hid (kk=k0+(((l.take k).map (cR aD)).sum:Nat))/\0<=kk/\kk<=1000000000000)/\Only bl w wr/\Hid (Un (.slice 147 aD) wr [.slice p l.length cap] ((mk (.slice 147 aD) l k0:List aD.D).take k++l.drop k) bl)) (fun _ i _=>l.length - (intOf i).toNat)
 case atStart=>exact⟨0,by omega,rfl,⟨_,rfl,by show _=_;simp,by omega,by omega⟩,Only.refl _ _,by show Un _ _ _ _ _;simpa using h⟩
 case round =>
  obtain⟨k,hk,rfl,⟨kk,rfl,hkk,Ch,hk1⟩,hb,hf⟩:=hrel
  clear h
  by_cases hlt:k<l.length
  ·obtain⟨M,hM⟩:∃M,M=(mk (.slice 147 aD) l k0:List aD.D).take k++l.drop k:=⟨_,rfl⟩
   have hkl:k<M.length:=by rw[hM];simp only[List.length_append,List.length_take,List.length_drop,HL.out];omega
   obtain⟨x,hx⟩:∃x,l[k]=x:=⟨_,rfl⟩
   have A5:M[k]=x:=by subst hM;rw[aFS _ _ _ hlt HL.out,hx]
   have Ab:∀y,(mk (.slice 147 aD) l k0:List aD.D)[k]'(by rw[HL.out];exact hlt)=y->M.set k y=(mk (.slice 147 aD) l k0:List aD.D).take (k+1)++l.drop (k+1):=fun y hy=>by subst hM;exact aFM _ _ _ hlt HL.out _ hy
   have hmk:=aPI (e:=147) (t:=aD) l k0 k hlt (by rw[HL.out];exact hlt)
   rw[hx,<-hkk.out] at hmk
   have hs1:=gN (cR aD) l k hlt
   have hs2:=sL (cR aD) l (k+1)
   rw[hx] at hs1
   have An:Un (.slice 147 aD) wr [.slice p l.length cap] (M.set k x) bl:=by have Ae:=hf.out;rw[<-hM] at Ae;rw[<-A5,List.set_getElem_self];exact Ae
   have Bm:kk+(cR aD x:Nat)<=1000000000000:=by have:=hkk.out;omega
   have HS1:=Lib.hid hs1;have HSET:=Lib.hid Ab;have HMK:=Lib.hid hmk
   clear hx hM hs1 hs2 Ab hmk hf A5
   obtain⟨x0,x1⟩:=x
   have Ao:cR aD (x0,x1)=1+cR (.slice 249 aM) x1:=by first|rfl|(simp only[cR];omega)
   rw[Ao] at Bm
   clear Ao
   obtain⟨b0,cap0,cu0,bu0,hv0,Af,Ad,hc0,Aq,hn0,hs0,Au,A8⟩:=jP An hnd hkl [false]
   simp only[Value.slice.injEq,eW,Addr.mk.injEq,and_true] at hv0
   obtain⟨rfl,-,-⟩:=hv0
   have hq0:Un pN wr cu0 x0 bu0:=Aq
   have hl0:cu0.length=1:=by rw[hq0.1];rfl
   have e0:∃u,wr.cell? ⟨b0,k * 2,none⟩=some u:=⟨_,hc0 0 (by rw[hl0];exact Nat.zero_lt_one)⟩
   obtain⟨u0,e0⟩:=e0
   have g0:wr.frozen? ⟨b0,k * 2,none⟩=false:=Ad _
   have hg0:Un (.slice 147 aD) (wr.setCell ⟨b0,k * 2,none⟩ (.int .i64 (kk))) [.slice (some ⟨b0,0,none⟩) l.length cap] (M.set k (aMM aD [false] _ (show Ty.D pN from(kk:Int)))) bl:=A8 (.int .i64 (kk)) _ hl0 ⟨rfl,aAF (show -9223372036854775808<=(kk:Int)/\(kk:Int)<=9223372036854775807 by omega),hq0.2.2⟩
   have hb0:Only bl w (wr.setCell ⟨b0,k * 2,none⟩ (.int .i64 (kk))):=Only.setCell hb Af _
   clear Au A8 hc0 Ad Aq hq0 hl0
   obtain⟨b1,cap1,cu1,bu1,hv1,Cj,Am,hc1,Ap,Ah,hs1,A9,Bs⟩:=jP hg0 hnd hkl [true]
   simp only[Value.slice.injEq,eW,Addr.mk.injEq,and_true] at hv1
   obtain⟨hvb,-,-⟩:=hv1
   subst hvb
   obtain⟨p1,n1,q1,rfl⟩:=tR Ap
   have e1:(wr.setCell ⟨b0,k * 2,none⟩ (.int .i64 (kk))).cell? ⟨b0,k * 2+1,none⟩=some (.slice p1 n1 q1):=hc1 0 Nat.zero_lt_one
   have HA1:=Lib.hid A9;clear A9 Bs hc1 Am
   go_wp2_with fail
   refine(bNI _ _ _ _ x1 _ _ (by exact Ap) Ah (by omega) (by omega)).mono ?_
   rintro e w1 ⟨rfl,rp1,on1⟩
   have hg1:=HA1.out w1 _ (fun q hq hz=>on1.block q hq hz) rp1
   have hb1:Only bl w w1:=Only.trans hb0 (on1.mono hs1)
   clear HA1 rp1 Ap e1
   have HF:=Lib.hid hg1
   clear An hg0 hg1
   go_wp2
   go_roundw
   case rel =>
    refine⟨k+1,by omega,by go_num,⟨_,rfl,by show _=_;have:=HS1.out;have:=hkk.out;have Bp:cR aD (x0,x1)=1+cR (.slice 249 aM) x1:=(by first|rfl|(simp only[cR];omega));omega,by omega,by omega⟩,hb1,?_⟩
    have h2:=HF.out
    rw[HSET.out _ (HMK.out.trans (by rfl))] at h2
    exact h2
   case measure=>simp[intOf];omega
  ·go_wp2
   go_ret
   obtain rfl:k=l.length:=by omega
   have hkk:=hkk.out
   rw[List.take_length] at hkk
   refine⟨aDQ (by rw[mP];exact hkk),?_,hb⟩
   have hf:=hf.out
   have e1:(mk (.slice 147 aD) l k0:List aD.D).take l.length++l.drop l.length=mk (.slice 147 aD) l k0:=by
    rw[List.drop_length,List.append_nil,List.take_of_length_le (by rw[HL.out];exact Nat.le_refl _)]
   rw[e1] at hf
   exact hf
set_option maxHeartbeats 4000000 in
set_option maxRecDepth 100000 in
theorem aOM (p:Option Addr) (len cap:Nat) (k0:Int) (l:List fD.D) (bl:List Nat) (w:World) (h:Un (.slice 253 fD) w [.slice p len cap] l bl) (hnd:bl.Nodup) (h0:0<=k0) (h1:k0+(cR (.slice 253 fD) l:Nat)<=1000000000000) :
  Calls Tryz.prog 166 #[.slice p len cap,.int .i64 k0] w (aWK (.slice 253 fD) w [.slice p len cap] (mk (.slice 253 fD) l k0) bl (k0+(cR (.slice 253 fD) l:Nat))):=by
 obtain⟨rfl,hmx⟩:=aJT h
 have HL:=Lib.hid (aB2 (e:=253) (t:=fD) l k0)
 rw[mP] at h1
 have hbl:=aF5 _ _ _ _ _ h
 unfold maxLen at hmx
 go_enter Tryz.func166,Tryz.ntmps166
 go_wp2
 go_loopw [1,5] (fun q i wr=>∃k:Nat,k<=l.length/\i = .int .i64 k/\(∃kk:Int,q = .int .i64 kk/\Hid (kk=k0+(((l.take k).map (cR fD)).sum:Nat))/\0<=kk/\kk<=1000000000000)/\Only bl w wr/\Hid (Un (.slice 253 fD) wr [.slice p l.length cap] ((mk (.slice 253 fD) l k0:List fD.D).take k++l.drop k) bl)) (fun _ i _=>l.length - (intOf i).toNat)
 case atStart=>exact⟨0,by omega,rfl,⟨_,rfl,by show _=_;simp,by omega,by omega⟩,Only.refl _ _,by show Un _ _ _ _ _;simpa using h⟩
 case round =>
  obtain⟨k,hk,rfl,⟨kk,rfl,hkk,Ch,hk1⟩,hb,hf⟩:=hrel
  clear h
  by_cases hlt:k<l.length
  ·obtain⟨M,hM⟩:∃M,M=(mk (.slice 253 fD) l k0:List fD.D).take k++l.drop k:=⟨_,rfl⟩
   have hkl:k<M.length:=by rw[hM];simp only[List.length_append,List.length_take,List.length_drop,HL.out];omega
   obtain⟨x,hx⟩:∃x,l[k]=x:=⟨_,rfl⟩
   have A5:M[k]=x:=by subst hM;rw[aFS _ _ _ hlt HL.out,hx]
   have Ab:∀y,(mk (.slice 253 fD) l k0:List fD.D)[k]'(by rw[HL.out];exact hlt)=y->M.set k y=(mk (.slice 253 fD) l k0:List fD.D).take (k+1)++l.drop (k+1):=fun y hy=>by subst hM;exact aFM _ _ _ hlt HL.out _ hy
   have hmk:=aPI (e:=253) (t:=fD) l k0 k hlt (by rw[HL.out];exact hlt)
   rw[hx,<-hkk.out] at hmk
   have hs1:=gN (cR fD) l k hlt
   have hs2:=sL (cR fD) l (k+1)
   rw[hx] at hs1
   have An:Un (.slice 253 fD) wr [.slice p l.length cap] (M.set k x) bl:=by have Ae:=hf.out;rw[<-hM] at Ae;rw[<-A5,List.set_getElem_self];exact Ae
   have Bm:kk+(cR fD x:Nat)<=1000000000000:=by have:=hkk.out;omega
   have HS1:=Lib.hid hs1;have HSET:=Lib.hid Ab;have HMK:=Lib.hid hmk
   clear hx hM hs1 hs2 Ab hmk hf A5
   obtain⟨x0,hx0⟩:∃y,y=x:=⟨_,rfl⟩
   subst hx0
   have Ao:cR fD x0=cR aA x0:=by first|rfl|(simp only[cR];omega)
   rw[Ao] at Bm
   clear Ao
   obtain⟨b0,cap0,cu0,bu0,hv0,Af,Ad,hc0,Aq,hn0,hs0,Au,A8⟩:=jP An hnd hkl []
   simp only[Value.slice.injEq,eW,Addr.mk.injEq,and_true] at hv0
   obtain⟨rfl,-,-⟩:=hv0
   obtain⟨p0,n0,q0,rfl⟩:=tR Aq
   have e0:wr.cell? ⟨b0,k,none⟩=some (.slice p0 n0 q0):=by have hh:=hc0 0 Nat.zero_lt_one;rw[show Ty.n fD=1 from rfl,Nat.mul_one,show bH2 fD []+0=0 from rfl,Nat.add_zero] at hh;exact hh
   have HA0:=Lib.hid Au;clear Au A8 hc0 Ad
   go_wp2_with fail
   refine(rC _ _ _ _ x0 _ _ (by exact Aq) hn0 (by omega) (by have:=zI x0;omega)).mono ?_
   rintro e w0 ⟨rfl,rp0,on0⟩
   have hg0:=HA0.out w0 _ (fun q hq hz=>on0.block q hq hz) rp0
   have hb0:Only bl w w0:=Only.trans hb (on0.mono hs0)
   clear HA0 rp0 Aq e0
   have HF:=Lib.hid hg0
   clear An hg0
   go_wp2
   go_roundw
   case rel =>
    refine⟨k+1,by omega,by go_num,⟨_,rfl,by show _=_;have:=HS1.out;have:=hkk.out;have Bp:cR fD x0=cR aA x0:=(by first|rfl|(simp only[cR];omega));omega,by omega,by omega⟩,hb0,?_⟩
    have h2:=HF.out
    rw[HSET.out _ (HMK.out.trans (by rfl))] at h2
    exact h2
   case measure=>simp[intOf];omega
  ·go_wp2
   go_ret
   obtain rfl:k=l.length:=by omega
   have hkk:=hkk.out
   rw[List.take_length] at hkk
   refine⟨aDQ (by rw[mP];exact hkk),?_,hb⟩
   have hf:=hf.out
   have e1:(mk (.slice 253 fD) l k0:List fD.D).take l.length++l.drop l.length=mk (.slice 253 fD) l k0:=by
    rw[List.drop_length,List.append_nil,List.take_of_length_le (by rw[HL.out];exact Nat.le_refl _)]
   rw[e1] at hf
   exact hf
end Go.Proofs.YtfmfeplebgbpmaaGreat
