/- CoreP: lemmas. No conditions. -/
import Derived.Test.YtfmfeplebgbpmaaGreatCoreR
namespace Go.Proofs.YtfmfeplebgbpmaaGreat
open Go.ChangeShapes Go.WideShapes Go.ChangeAt Go.RowKit Go.Deep
set_option linter.unusedVariables false
set_option linter.unusedSimpArgs false
set_option maxRecDepth 100000
theorem nY {s:aR} {m:Int} {t:List Int} (h:gY s=false\/kC s.2.2.2.2.2.1 m<0\/aRT s.2.2.1 (yO s m)=false\/dX (pP s m t).1 (eZ s.2.2.1)=false):s=zL s m t:=by
 unfold zL;rw[if_neg]
 unfold bBD
 simp only[Bool.and_eq_true,decide_eq_true_eq]
 rintro⟨h1,h2,h3,h4⟩
 rcases h with h|h|h|h
 ·rw[h] at h1;cases h1
 ·omega
 ·rw[h] at h3;cases h3
 ·rw[h] at h4;cases h4
theorem aHU {s:aR} {m:Int} {t:List Int} (h1:gY s=true) (h2:0<=kC s.2.2.2.2.2.1 m) (h3:aRT s.2.2.1 (yO s m)=true) (h4:dX (pP s m t).1 (eZ s.2.2.1)=true):bP3 s m t=zL s m t:=by
 unfold zL;rw[if_pos]
 unfold bBD
 simp only[Bool.and_eq_true,decide_eq_true_eq]
 exact⟨h1,h2,h3,h4⟩
theorem cDT {s:aR} {m:Int} (h:s.2.2.2.2.1=true):yO s m=s.2.2.2.2.2.2.1:=if_pos h
theorem cDO {s:aR} {m:Int} (h:s.2.2.2.2.1=false):yO s m=(s.2.2.2.2.2.1.getD (kC s.2.2.2.2.2.1 m).toNat (aK aJ)).2:=if_neg (by rw[h];simp)
theorem bLV {s:aR} {m:Int} {t:List Int} (h:s.2.2.2.1=true):pP s m t=wT pJ (List.getD (yO s m) s.2.2.1.length (aK aA)) t:=if_pos h
theorem bNN {s:aR} {m:Int} {t:List Int} (h:s.2.2.2.1=false):s.2.2.2.2.2.2.2.2.2.1=(pP s m t).1:=by unfold pP;rw[if_neg (by rw[h];simp)]
theorem bOJ {s:aR} {m:Int} {t:List Int} (h:s.2.2.2.1=false):(pP s m t).2=false:=by unfold pP;rw[if_neg (by rw[h];simp)]
theorem aPW {m:List fP} {r:cT} (h:¬r.length=m.length+1\/aF3 m r m.length=false):aRT m r=false:=by
 unfold aRT
 rcases h with h|h
 ·rw[decide_eq_false h];rfl
 ·rw[h,Bool.and_false]
theorem aMS {m:List fP} {r:cT} (h:r.length=m.length+1) (h2:aF3 m r m.length=true):aRT m r=true:=by
 unfold aRT;rw[decide_eq_true h,h2];rfl
theorem aHZ {s:aR} {r:cT} {d:List Int} (l:Int) (b:Bool) (h:gY s=true):aAD ((aBA s.2.2.1 r d).1,l,b):=by
 have hm:=((bO _).1 ((cA s).1 h).1).2.1
 refine⟨?_,fun y hy=>Nat.le_trans (bHK _ _ _ _ _ y hy) (by decide)⟩
 show(lG _ _ _ _ _).1.length<=1000000000
 rw[aG1];omega
theorem aEB {s:aR} {m:Int} {t:List Int} {g:gI} (h:0<=kC s.2.2.2.2.2.1 m) (e:g=uE s.2.2.2.2.2.2.2.2.2.2.2 ((aBA s.2.2.1 (yO s m) (pP s m t).1).1,0,(pP s m t).2||(aBA s.2.2.1 (yO s m) (pP s m t).1).2.2)) :
  (s.1,s.2.1,s.2.2.1,s.2.2.2.1,s.2.2.2.2.1,List.drop 0 (List.take (kC s.2.2.2.2.2.1 m).toNat s.2.2.2.2.2.1)++List.drop (kC s.2.2.2.2.2.1 m+1).toNat (List.take (List.length s.2.2.2.2.2.1) s.2.2.2.2.2.1),([]:cT),s.2.2.2.2.2.2.2.1,s.2.2.2.2.2.2.2.2.1,([]:List Int),(aBA s.2.2.1 (yO s m) (pP s m t).1).2.1,g)=bP3 s m t:=by
 rw[List.take_length,show(kC s.2.2.2.2.2.1 m+1).toNat=(kC s.2.2.2.2.2.1 m).toNat+1 by omega,e];rfl
noncomputable def aKZ:Con:=⟨210,(.cMV aB aM),aB,[.val ⟨true,aB,[]⟩,.val ⟨false,tI,[]⟩,.val ⟨false,aA,[]⟩],[⟨true,aB,[0,1,1,0,0,1,1,1,1,1,1,1,0,0]⟩],false,none,
 ((fun x=>bC aB x.1<=1000000000):(aR×cP)->Prop),
 ((fun x=>zL x.1 x.2.1 x.2.2):(aR×cP)->(aR))⟩
def aUV:T:=uS 0 aB aM <| dF 1 aS (sB 5) (bTI aM 1) <| gH 2 (bS aB aM) 3 4 aZ <| aEH bM 5 aZ <| nS aJ aS dC 2 <| nS aJ aS dC 2 <| .ite (sB 4) (iE nW <| nX iH <| jW cM <| rO cU cI 11 aZ <| gQ 3 (aOZ aG tI) (kM nW iH 8) <| dL 12 13 aZ <| .ite (sB 3) (nV aA aF iH 8 <| nV aA aF iH 8 <| fN 4 fC (fA aB aM 2) <| uS 5 aB aM <| cD 6 17 <| dF 7 aA (jE 16) nJ <| dL 19 20 aZ <| gQ 8 aCW [nW,iH,jE 16] <| nF aA 1 16 (sX 9 aT aT [dO aB 11 1,oY aF aA 21,aN,bD] <| jW bM <| nS aJ aS dC 2 <| bZ 245 aJ aS dC aN <| rB aJ dC aD9 26 <| pW bM 23 <| pW aN 2 <| rB aJ dC aD9 30 <| mF (aD6 245 aJ) aS aS 29 31 <| fB [fS,fW,fT,fU,fV,aL2,qC,rL 7,jU,bA,dZ rY 21,qS]) <| sX 9 aT aT [dO aB 11 1,oY aF aA 21,aN,dO rY 2 21] <| jW bM <| nS aJ aS dC 2 <| bZ 245 aJ aS dC aN <| rB aJ dC aD9 26 <| pW bM 23 <| pW aN 2 <| rB aJ dC aD9 30 <| mF (aD6 245 aJ) aS aS 29 31 <| fB [fS,fW,fT,fU,fV,aL2,qC,rL 7,jU,bA,dZ rY 21,qS]) <| uS 5 aB aM <| cD 6 14 <| dF 7 aA iS fC <| dL 16 17 aZ <| gQ 8 aCW [nW,iH,iS] <| sX 9 aT aT [dO aB 11 1,oY aF aA 18,aN,dO rY 2 18] <| jW bM <| nS aJ aS dC 2 <| bZ 245 aJ aS dC aN <| rB aJ dC qJ 23 <| pW bM 20 <| pW aN 2 <| rB aJ dC qJ 27 <| mF (aD6 245 aJ) aS aS 26 28 <| fB [fS,fW,fT,fU,fV,aG9,qC,rL 7,jU,bA,dZ rY 18,kA]) <| iE nW <| nX (gG 7) <| jW cM <| rO cU cI 11 aZ <| gQ 3 (aOZ aG tI) (kM nW (gG 7) 8) <| dL 12 13 aZ <| .ite (sB 3) (nV aA aF (gG 7) 8 <| fN 4 dK (fA aB aM 2) <| uS 5 aB aM <| cD 6 16 <| dF 7 aA (jE 15) iR <| dL 18 19 aZ <| gQ 8 aCW [nW,gG 7,jE 15] <| nF aA 1 15 (sX 9 aT aT [dO aB 11 1,oY aF aA 20,aN,bD] <| jW bM <| nS aJ aS dC 2 <| bZ 245 aJ aS dC aN <| rB aJ dC qS 25 <| pW bM 22 <| pW aN 2 <| rB aJ dC qS 29 <| mF (aD6 245 aJ) aS aS 28 30 <| fB [fS,fW,fT,fU,fV,aEM,qC,rL 7,jU,bA,dZ rY 20,wX]) <| sX 9 aT aT [dO aB 11 1,oY aF aA 20,aN,dO rY 2 20] <| jW bM <| nS aJ aS dC 2 <| bZ 245 aJ aS dC aN <| rB aJ dC qS 25 <| pW bM 22 <| pW aN 2 <| rB aJ dC qS 29 <| mF (aD6 245 aJ) aS aS 28 30 <| fB [fS,fW,fT,fU,fV,aEM,qC,rL 7,jU,bA,dZ rY 20,wX]) <| uS 5 aB aM <| cD 6 14 <| dF 7 aA iS fC <| dL 16 17 aZ <| gQ 8 aCW [nW,gG 7,iS] <| sX 9 aT aT [dO aB 11 1,oY aF aA 18,aN,dO rY 2 18] <| jW bM <| nS aJ aS dC 2 <| bZ 245 aJ aS dC aN <| rB aJ dC qJ 23 <| pW bM 20 <| pW aN 2 <| rB aJ dC qJ 27 <| mF (aD6 245 aJ) aS aS 26 28 <| fB [fS,fW,fT,fU,fV,aG9,qC,rL 7,jU,bA,dZ rY 18,kA]
set_option maxHeartbeats 1000000 in
theorem bON:Con.Holds Tryz.prog aKZ:=tk ⟨[],[(2961,164021,[],[15,31]),(2951,420023,[103,108],[]),(2951,292023,[103,108],[]),(2961,132018,[],[15,18]),(2951,132020,[103,108],[]),(2961,160020,[],[31]),(2951,416022,[103,108],[]),(2951,288022,[103,108],[]),(2961,128018,[],[18]),(2951,128020,[103,108],[])]⟩ aUV (aC aDP (aC aIV (aC aEC (aC bDQ (aC bCU (aC aIB (aC aYH (aC vQ (aC bW5 (aC bMU aH)))))))))) fun(x:aR×cP) hx hp=>by
 dsimp only [aKZ] at hx hp⊢
 obtain⟨s,m,t⟩:=x
 delta aUV vR zK xG aMR aLA aAQ aJX sH aTO aM0;refine dR ?_
 refine dQ ?_
 refine⟨hp,fun _ _=>⟨fun h=>nY (.inl h),fun h1=>⟨fun h=>nY (.inr (.inl h)),fun h2=>?_⟩⟩⟩
 have hf2:kC s.2.2.2.2.2.1 m<(s.2.2.2.2.2.1.length:Int):=(aP9 s.2.2.2.2.2.1 m s.2.2.2.2.2.1.length).2
 have hm:=(cA s).1 h1
 have Eo:=(bO _).1 hm.1
 have hst:=(wQ (t:=aB) hp).2.2.2.2.2.1.1
 replace hst:List.length s.2.2.2.2.2.1<=1000000000:=hst
 have hgs:aAD s.2.2.2.2.2.2.2.2.2.2.2:=bSM (wQ (t:=aB) hp).2.2.2.2.2.2.2.2.2.2.2
 refine⟨by omega,fun _=>⟨by omega,fun _=>⟨fun hre=>?_,fun hre=>?_⟩⟩⟩
 ·rw[show s.2.2.2.2.2.2.1=yO s m from(cDT hre).symm]
  refine fun _ _=>⟨by omega,fun _=>⟨fun h=>nY (.inr (.inr (.inl (aPW (.inl (by omega)))))),fun hlen=>⟨⟨hm.1,by omega⟩,fun h=>nY (.inr (.inr (.inl (aPW (.inr h))))),fun hrow=>⟨fun Ai=>?_,fun Ai=>?_⟩⟩⟩⟩
  ·rw[show wT pJ (List.getD (yO s m) s.2.2.1.length (aK aA)) t=pP s m t from(bLV Ai).symm]
   (repeat' first|intro _|(with_reducible apply And.intro))
   all_goals first|omega|(unfold maxLen;omega)|exact nY (.inr (.inr (.inr (by assumption))))|exact⟨by omega,by omega⟩|exact hgs|exact aHZ _ _ h1|(simp only[List.length_append,List.length_drop,List.length_take];omega)|(simp only[List.length_append,List.length_drop,List.length_take];unfold maxLen;omega)|skip
   all_goals refine(aEB (by omega) ?_).trans (aHU h1 h2 (aMS (by omega) hrow) (by assumption))
   all_goals first|rfl|(rw[rV (by assumption)];done)|(rw[show(pP s m t).2=true by assumption,Bool.true_or];done)|(rw[show(pP s m t).2=false by assumption,Bool.false_or];done)|skip
  ·have hgg:s.2.2.2.2.2.2.2.2.2.1=(pP s m t).1:=bNN Ai
   have hg0:(pP s m t).2=false:=bOJ Ai
   rw[hgg]
   (repeat' first|intro _|(with_reducible apply And.intro))
   all_goals first|omega|(unfold maxLen;omega)|exact nY (.inr (.inr (.inr (by assumption))))|exact⟨by omega,by omega⟩|exact hgs|exact aHZ _ _ h1|(simp only[List.length_append,List.length_drop,List.length_take];omega)|(simp only[List.length_append,List.length_drop,List.length_take];unfold maxLen;omega)|skip
   all_goals refine(aEB (by omega) ?_).trans (aHU h1 h2 (aMS (by omega) hrow) (by assumption))
   all_goals first|rfl|(rw[rV (by assumption)];done)|(rw[show(pP s m t).2=true by assumption,Bool.true_or];done)|(rw[show(pP s m t).2=false by assumption,Bool.false_or];done)|skip
 ·rw[show(List.getD s.2.2.2.2.2.1 (kC s.2.2.2.2.2.1 m).toNat (aK aJ)).2=yO s m from(cDO hre).symm]
  refine fun _ _=>⟨by omega,fun _=>⟨fun h=>nY (.inr (.inr (.inl (aPW (.inl (by omega)))))),fun hlen=>⟨⟨hm.1,by omega⟩,fun h=>nY (.inr (.inr (.inl (aPW (.inr h))))),fun hrow=>⟨fun Ai=>?_,fun Ai=>?_⟩⟩⟩⟩
  ·rw[show wT pJ (List.getD (yO s m) s.2.2.1.length (aK aA)) t=pP s m t from(bLV Ai).symm]
   (repeat' first|intro _|(with_reducible apply And.intro))
   all_goals first|omega|(unfold maxLen;omega)|exact nY (.inr (.inr (.inr (by assumption))))|exact⟨by omega,by omega⟩|exact hgs|exact aHZ _ _ h1|(simp only[List.length_append,List.length_drop,List.length_take];omega)|(simp only[List.length_append,List.length_drop,List.length_take];unfold maxLen;omega)|skip
   all_goals refine(aEB (by omega) ?_).trans (aHU h1 h2 (aMS (by omega) hrow) (by assumption))
   all_goals first|rfl|(rw[rV (by assumption)];done)|(rw[show(pP s m t).2=true by assumption,Bool.true_or];done)|(rw[show(pP s m t).2=false by assumption,Bool.false_or];done)|skip
  ·have hgg:s.2.2.2.2.2.2.2.2.2.1=(pP s m t).1:=bNN Ai
   have hg0:(pP s m t).2=false:=bOJ Ai
   rw[hgg]
   (repeat' first|intro _|(with_reducible apply And.intro))
   all_goals first|omega|(unfold maxLen;omega)|exact nY (.inr (.inr (.inr (by assumption))))|exact⟨by omega,by omega⟩|exact hgs|exact aHZ _ _ h1|(simp only[List.length_append,List.length_drop,List.length_take];omega)|(simp only[List.length_append,List.length_drop,List.length_take];unfold maxLen;omega)|skip
   all_goals refine(aEB (by omega) ?_).trans (aHU h1 h2 (aMS (by omega) hrow) (by assumption))
   all_goals first|rfl|(rw[rV (by assumption)];done)|(rw[show(pP s m t).2=true by assumption,Bool.true_or];done)|(rw[show(pP s m t).2=false by assumption,Bool.false_or];done)|skip
noncomputable def aMK:Con:=⟨217,(.cMV aB aM),aB,[.val ⟨true,aB,[]⟩,.val ⟨false,tI,[]⟩,.val ⟨false,aA,[]⟩],[⟨true,aB,[0,0,0,0,0,0,0,0,0,0,0,0,0,0]⟩],true,none,
 ((fun x=>bC aB x.1<=1000000000):(aR×cP)->Prop),
 ((fun x=>zL x.1 x.2.1 x.2.2):(aR×cP)->(aR))⟩
def aWY:T:=uS 0 aB aM <| dF 1 aS (sB 5) (bTI aM 1) <| gH 2 (bS aB aM) 3 4 aZ <| aEH bM 5 aZ <| nS aJ aS (sB 5) 2 <| .ite (sB 4) (nX (sB 6) <| iE nW <| jW cM <| rO cY cU 10 aZ <| jY 243 bK nW <| cX cO 12 13 (nV aA aF (sB 6) 11 <| cD 3 14 <| dL 15 16 aZ <| nV aA aF (sB 6) 11 <| cK iR <| cH 243 bK aG nW 11 <| rO nJ (dZ bK 19) 20 aZ <| oM cO 0 21) <| .ite (sB 3) (iE nW <| nV aA aF (sB 6) 14 <| fN 4 fC (fA aB aM 2) <| cK (jE 16) <| iE nW <| kK nJ 243 bK aG nW 19 <| rO iR (qR 20) 21 aZ <| gH 3 (jE 16) 22 23 aZ <| gQ 5 aCW [nW,sB 6,jE 16] <| nF aA 1 16 (sX 6 aT aT [iP aB 11 aB aM,oY aF aA 24,aN,bD] <| jW bM <| nS aJ aS dC 2 <| bZ 245 aJ aS dC aN <| rB aJ dC tJ 29 <| pW bM 26 <| pW aN 2 <| rB aJ dC tJ 33 <| mF (aD6 245 aJ) aS aS 32 34 <| fB [fS,fW,fT,fU,fV,aEL,qC,rL 7,jU,bA,dZ rY 24,.Z 25]) <| sX 6 aT aT [iP aB 11 aB aM,oY aF aA 24,aN,dO rY 2 24] <| jW bM <| nS aJ aS dC 2 <| bZ 245 aJ aS dC aN <| rB aJ dC tJ 29 <| pW bM 26 <| pW aN 2 <| rB aJ dC tJ 33 <| mF (aD6 245 aJ) aS aS 32 34 <| fB [fS,fW,fT,fU,fV,aEL,qC,rL 7,jU,bA,dZ rY 24,.Z 25]) <| cK (sB 9) <| iE nW <| kK fC 243 bK aG nW 16 <| rO dK (qR 17) 18 aZ <| gH 3 (sB 9) 19 20 aZ <| gQ 5 aCW [nW,sB 6,sB 9] <| sX 6 aT aT [iP aB 11 aB aM,oY aF aA 21,aN,dO rY 2 21] <| jW bM <| nS aJ aS dC 2 <| bZ 245 aJ aS dC aN <| rB aJ dC aD9 26 <| pW bM 23 <| pW aN 2 <| rB aJ dC aD9 30 <| mF (aD6 245 aJ) aS aS 29 31 <| fB [fS,fW,fT,fU,fV,aL2,qC,rL 7,jU,bA,dZ rY 21,qS]) <| nX (gG 6) <| iE nW <| jW cM <| rO cY cU 10 aZ <| jY 243 bK nW <| cX cO 12 13 (nV aA aF (gG 6) 11 <| cD 3 14 <| dL 15 16 aZ <| nV aA aF (gG 6) 11 <| cK iR <| cH 243 bK aG nW 11 <| rO nJ (dZ bK 19) 20 aZ <| oM cO 0 21) <| .ite (sB 3) (iE nW <| nV aA aF (gG 6) 14 <| fN 4 fC (fA aB aM 2) <| cK (jE 16) <| iE nW <| kK nJ 243 bK aG nW 19 <| rO iR (qR 20) 21 aZ <| gH 3 (jE 16) 22 23 aZ <| gQ 5 aCW [nW,gG 6,jE 16] <| nF aA 1 16 (sX 6 aT aT [iP aB 11 aB aM,oY aF aA 24,aN,bD] <| jW bM <| nS aJ aS dC 2 <| bZ 245 aJ aS dC aN <| rB aJ dC tJ 29 <| pW bM 26 <| pW aN 2 <| rB aJ dC tJ 33 <| mF (aD6 245 aJ) aS aS 32 34 <| fB [fS,fW,fT,fU,fV,aEL,qC,rL 7,jU,bA,dZ rY 24,.Z 25]) <| sX 6 aT aT [iP aB 11 aB aM,oY aF aA 24,aN,dO rY 2 24] <| jW bM <| nS aJ aS dC 2 <| bZ 245 aJ aS dC aN <| rB aJ dC tJ 29 <| pW bM 26 <| pW aN 2 <| rB aJ dC tJ 33 <| mF (aD6 245 aJ) aS aS 32 34 <| fB [fS,fW,fT,fU,fV,aEL,qC,rL 7,jU,bA,dZ rY 24,.Z 25]) <| cK (sB 9) <| iE nW <| kK fC 243 bK aG nW 16 <| rO dK (qR 17) 18 aZ <| gH 3 (sB 9) 19 20 aZ <| gQ 5 aCW [nW,gG 6,sB 9] <| sX 6 aT aT [iP aB 11 aB aM,oY aF aA 21,aN,dO rY 2 21] <| jW bM <| nS aJ aS dC 2 <| bZ 245 aJ aS dC aN <| rB aJ dC aD9 26 <| pW bM 23 <| pW aN 2 <| rB aJ dC aD9 30 <| mF (aD6 245 aJ) aS aS 29 31 <| fB [fS,fW,fT,fU,fV,aL2,qC,rL 7,jU,bA,dZ rY 21,qS]
set_option maxHeartbeats 1000000 in
theorem bMK:Con.Holds Tryz.prog aMK:=tk ⟨[(2968,20011,iZ 51 33++iZ 31 19++[.dr 0,.dr 1,.tm 12 0]),(2968,16011,iZ 51 43++iZ 40 33++iZ 31 19++[.dr 0,.dr 1,.tm 12 0])],[(2947,292024,[],[31]),(2935,804026,[146,151],[]),(2935,548026,[146,151],[]),(2939,260023,[146,151],[]),(2947,288024,[],[31]),(2935,800026,[146,151],[]),(2935,544026,[146,151],[]),(2939,256023,[146,151],[])]⟩ aWY (aC aHY (aC aJE (aC aDU (aC nN (aC bEB (aC bTD (aC bNK aH))))))) fun(x:aR×cP) hx hp=>by
 dsimp only [aMK] at hx hp⊢
 obtain⟨s,m,t⟩:=x
 delta aWY aB3 zJ wY lQ aKS aUG aLY;refine dR ?_
 refine dQ ?_
 refine⟨hp,fun _ _=>⟨fun h=>nY (.inl h),fun h1=>⟨fun h=>nY (.inr (.inl h)),fun h2=>?_⟩⟩⟩
 have hf2:kC s.2.2.2.2.2.1 m<(s.2.2.2.2.2.1.length:Int):=(aP9 s.2.2.2.2.2.1 m s.2.2.2.2.2.1.length).2
 have hm:=(cA s).1 h1
 have Eo:=(bO _).1 hm.1
 have C4:(List.getD s.2.2.1 (s.2.2.1.length - 1) (aK bK)).2.2.1=eZ s.2.2.1:=by unfold eZ;rw[if_pos hm.1];rfl
 have hst:=(wQ (t:=aB) hp).2.2.2.2.2.1.1
 replace hst:List.length s.2.2.2.2.2.1<=1000000000:=hst
 have hgs:aAD s.2.2.2.2.2.2.2.2.2.2.2:=bSM (wQ (t:=aB) hp).2.2.2.2.2.2.2.2.2.2.2
 refine⟨by omega,fun _=>⟨fun hre=>?_,fun hre=>?_⟩⟩
 ·rw[show s.2.2.2.2.2.2.1=yO s m from(cDT hre).symm]
  refine fun _ _=>⟨by omega,fun _=>⟨fun h=>nY (.inr (.inr (.inl (aPW (.inl (by omega)))))),fun hlen=>?_⟩⟩
  refine aC6 (fun k=>(k:Int)) (fun k=>∀i,i<k->dX (List.getD (yO s m) i []) (lC s.2.2.1 i)=true) s.2.2.1.length rfl (fun i hi=>absurd hi (Nat.not_lt_zero _)) fun I μ k hk hG _ go=>?_
  try dsimp only
  refine dQ ?_
  intro _
  constructor
  ·intro hlt
   have hk':k<s.2.2.1.length:=by omega
   have esz:lC s.2.2.1 k=(List.getD s.2.2.1 k (aK bK)).2.1:=if_pos hk'
   have bad:¬dX (List.getD (yO s m) k []) (lC s.2.2.1 k)=true->s=zL s m t:=fun h=>nY (.inr (.inr (.inl (aPW (.inr (Bool.eq_false_iff.2 fun hh=>h ((vI _ _ _).1 hh k hk')))))))
   rw[cS,esz] at bad
   (repeat' first|intro _|(refine go _ ?_ ?_ ?_)|(refine go _ ?_ ?_)|(with_reducible apply And.intro))
   all_goals first|omega|exact bad (fun h=>Bool.noConfusion (h.1.symm.trans (by assumption:_=false)))|exact bad (fun h=>absurd h.2 (by assumption))|exact aHO hG ((cS _ _).2 ⟨by assumption,by rw[esz];assumption⟩) _ (by assumption)|rfl|skip
  ·intro hge
   have hk':k=s.2.2.1.length:=by omega
   subst hk'
   have hrow:aF3 s.2.2.1 (yO s m) s.2.2.1.length=true:=(vI _ _ _).2 hG
   clear go hG
   refine⟨fun Ai=>?_,fun Ai=>?_⟩
   ·rw[show wT pJ (List.getD (yO s m) s.2.2.1.length (aK aA)) t=pP s m t from(bLV Ai).symm]
    (repeat' first|intro _|(with_reducible apply And.intro))
    all_goals first|omega|exact nY (.inr (.inr (.inr (Bool.eq_false_iff.2 fun h=>absurd ((cS _ _).1 h).2 (by first|assumption|(rw[<-C4];assumption))))))|exact nY (.inr (.inr (.inr (aNZ (by assumption)).symm)))|exact⟨Eo.2.1,by omega⟩|(unfold maxLen;omega)|exact nY (.inr (.inr (.inr (by assumption))))|exact⟨by omega,by omega⟩|exact hgs|exact aHZ _ _ h1|(simp only[List.length_append,List.length_drop,List.length_take];omega)|(simp only[List.length_append,List.length_drop,List.length_take];unfold maxLen;omega)|skip
    all_goals refine(aEB (by omega) ?_).trans (aHU h1 h2 (aMS (by omega) hrow) ((cS _ _).2 ⟨by assumption,by rw[<-C4];assumption⟩))
    all_goals first|rfl|(rw[rV (by assumption)];done)|(rw[show(pP s m t).2=true by assumption,Bool.true_or];done)|(rw[show(pP s m t).2=false by assumption,Bool.false_or];done)|skip
   ·have hgg:s.2.2.2.2.2.2.2.2.2.1=(pP s m t).1:=bNN Ai
    have hg0:(pP s m t).2=false:=bOJ Ai
    rw[hgg]
    (repeat' first|intro _|(with_reducible apply And.intro))
    all_goals first|omega|exact nY (.inr (.inr (.inr (Bool.eq_false_iff.2 fun h=>absurd ((cS _ _).1 h).2 (by first|assumption|(rw[<-C4];assumption))))))|exact nY (.inr (.inr (.inr (aNZ (by assumption)).symm)))|exact⟨Eo.2.1,by omega⟩|(unfold maxLen;omega)|exact nY (.inr (.inr (.inr (by assumption))))|exact⟨by omega,by omega⟩|exact hgs|exact aHZ _ _ h1|(simp only[List.length_append,List.length_drop,List.length_take];omega)|(simp only[List.length_append,List.length_drop,List.length_take];unfold maxLen;omega)|skip
    all_goals refine(aEB (by omega) ?_).trans (aHU h1 h2 (aMS (by omega) hrow) ((cS _ _).2 ⟨by assumption,by rw[<-C4];assumption⟩))
    all_goals first|rfl|(rw[rV (by assumption)];done)|(rw[show(pP s m t).2=true by assumption,Bool.true_or];done)|(rw[show(pP s m t).2=false by assumption,Bool.false_or];done)|skip
 ·rw[show(List.getD s.2.2.2.2.2.1 (kC s.2.2.2.2.2.1 m).toNat (aK aJ)).2=yO s m from(cDO hre).symm]
  refine fun _ _=>⟨by omega,fun _=>⟨fun h=>nY (.inr (.inr (.inl (aPW (.inl (by omega)))))),fun hlen=>?_⟩⟩
  refine aC6 (fun k=>(k:Int)) (fun k=>∀i,i<k->dX (List.getD (yO s m) i []) (lC s.2.2.1 i)=true) s.2.2.1.length rfl (fun i hi=>absurd hi (Nat.not_lt_zero _)) fun I μ k hk hG _ go=>?_
  try dsimp only
  refine dQ ?_
  intro _
  constructor
  ·intro hlt
   have hk':k<s.2.2.1.length:=by omega
   have esz:lC s.2.2.1 k=(List.getD s.2.2.1 k (aK bK)).2.1:=if_pos hk'
   have bad:¬dX (List.getD (yO s m) k []) (lC s.2.2.1 k)=true->s=zL s m t:=fun h=>nY (.inr (.inr (.inl (aPW (.inr (Bool.eq_false_iff.2 fun hh=>h ((vI _ _ _).1 hh k hk')))))))
   rw[cS,esz] at bad
   (repeat' first|intro _|(refine go _ ?_ ?_ ?_)|(refine go _ ?_ ?_)|(with_reducible apply And.intro))
   all_goals first|omega|exact bad (fun h=>Bool.noConfusion (h.1.symm.trans (by assumption:_=false)))|exact bad (fun h=>absurd h.2 (by assumption))|exact aHO hG ((cS _ _).2 ⟨by assumption,by rw[esz];assumption⟩) _ (by assumption)|rfl|skip
  ·intro hge
   have hk':k=s.2.2.1.length:=by omega
   subst hk'
   have hrow:aF3 s.2.2.1 (yO s m) s.2.2.1.length=true:=(vI _ _ _).2 hG
   clear go hG
   refine⟨fun Ai=>?_,fun Ai=>?_⟩
   ·rw[show wT pJ (List.getD (yO s m) s.2.2.1.length (aK aA)) t=pP s m t from(bLV Ai).symm]
    (repeat' first|intro _|(with_reducible apply And.intro))
    all_goals first|omega|exact nY (.inr (.inr (.inr (Bool.eq_false_iff.2 fun h=>absurd ((cS _ _).1 h).2 (by first|assumption|(rw[<-C4];assumption))))))|exact nY (.inr (.inr (.inr (aNZ (by assumption)).symm)))|exact⟨Eo.2.1,by omega⟩|(unfold maxLen;omega)|exact nY (.inr (.inr (.inr (by assumption))))|exact⟨by omega,by omega⟩|exact hgs|exact aHZ _ _ h1|(simp only[List.length_append,List.length_drop,List.length_take];omega)|(simp only[List.length_append,List.length_drop,List.length_take];unfold maxLen;omega)|skip
    all_goals refine(aEB (by omega) ?_).trans (aHU h1 h2 (aMS (by omega) hrow) ((cS _ _).2 ⟨by assumption,by rw[<-C4];assumption⟩))
    all_goals first|rfl|(rw[rV (by assumption)];done)|(rw[show(pP s m t).2=true by assumption,Bool.true_or];done)|(rw[show(pP s m t).2=false by assumption,Bool.false_or];done)|skip
   ·have hgg:s.2.2.2.2.2.2.2.2.2.1=(pP s m t).1:=bNN Ai
    have hg0:(pP s m t).2=false:=bOJ Ai
    rw[hgg]
    (repeat' first|intro _|(with_reducible apply And.intro))
    all_goals first|omega|exact nY (.inr (.inr (.inr (Bool.eq_false_iff.2 fun h=>absurd ((cS _ _).1 h).2 (by first|assumption|(rw[<-C4];assumption))))))|exact nY (.inr (.inr (.inr (aNZ (by assumption)).symm)))|exact⟨Eo.2.1,by omega⟩|(unfold maxLen;omega)|exact nY (.inr (.inr (.inr (by assumption))))|exact⟨by omega,by omega⟩|exact hgs|exact aHZ _ _ h1|(simp only[List.length_append,List.length_drop,List.length_take];omega)|(simp only[List.length_append,List.length_drop,List.length_take];unfold maxLen;omega)|skip
    all_goals refine(aEB (by omega) ?_).trans (aHU h1 h2 (aMS (by omega) hrow) ((cS _ _).2 ⟨by assumption,by rw[<-C4];assumption⟩))
    all_goals first|rfl|(rw[rV (by assumption)];done)|(rw[show(pP s m t).2=true by assumption,Bool.true_or];done)|(rw[show(pP s m t).2=false by assumption,Bool.false_or];done)|skip
noncomputable section
set_option maxRecDepth 100000
def bB (p:aW) (s:Int):eP :=
 if 0<=s/\s<(p.2.1.length:Int)/\0<=(p.2.1.getD s.toNat (aK aB)).1/\(p.2.1.getD s.toNat (aK aB)).1<((p.2.1.getD s.toNat (aK aB)).2.1.length:Int) then(p.2.1.getD s.toNat (aK aB)).2.1.getD (p.2.1.getD s.toNat (aK aB)).1.toNat (0,0) else(0,0)
def aQA (q:bE):Bool:=decide ((q.2.length:Int)<q.1)
def cCX (p:aW):Bool:=p.2.1.all fun x=>decide ((x.2.1.length:Int) - 1<=x.1)
def jC (p:aW) (s:Int):Bool :=
 if nQ p=true/\0<=s/\s<(p.2.1.length:Int) then
  (if(bB p s).1=1 then decide (0<s)&&decide (0<(p.2.2.1.getD (s - 1).toNat (aK aD)).2.length)
  else if(bB p s).1=3 then decide (s<(p.2.1.length:Int) - 1)&&aQA (p.2.2.1.getD s.toNat (aK aD))
  else if(bB p s).1=4 then decide (s<(p.2.1.length:Int) - 1)&&decide (0<(p.2.2.2.getD s.toNat (aK aD)).2.length)
  else if(bB p s).1=7 then decide (0<s)&&aQA (p.2.2.2.getD (s - 1).toNat (aK aD))
  else if(bB p s).1=2 then true else if(bB p s).1=5 then true else if(bB p s).1=6 then true
  else if(bB p s).1=8 then cCX p else false)
 else false
def oD (p:aW) (s:Int):aR:=p.2.1.getD s.toNat (aK aB)
def bMZ (x:aR) (v:List Int):aR:=(x.1,x.2.1,x.2.2.1,x.2.2.2.1,x.2.2.2.2.1,x.2.2.2.2.2.1,x.2.2.2.2.2.2.1,v,x.2.2.2.2.2.2.2.2)
def bMW (x:aR) (v:List Int):aR:=(x.1,x.2.1,x.2.2.1,x.2.2.2.1,x.2.2.2.2.1,x.2.2.2.2.2.1,x.2.2.2.2.2.2.1,x.2.2.2.2.2.2.2.1,v,x.2.2.2.2.2.2.2.2.2)
def bO7 (x:aR) (v:List Int):aR:=(x.1,x.2.1,x.2.2.1,x.2.2.2.1,x.2.2.2.2.1,x.2.2.2.2.2.1,x.2.2.2.2.2.2.1,x.2.2.2.2.2.2.2.1,x.2.2.2.2.2.2.2.2.1,v,x.2.2.2.2.2.2.2.2.2.2)
def aIH (x:aR) (v:List Int):aR:=(x.1,x.2.1,x.2.2.1,x.2.2.2.1,x.2.2.2.2.1,x.2.2.2.2.2.1,x.2.2.2.2.2.2.1,x.2.2.2.2.2.2.2.1,x.2.2.2.2.2.2.2.2.1,x.2.2.2.2.2.2.2.2.2.1,v,x.2.2.2.2.2.2.2.2.2.2.2)
def uL (x:aR) (k:Int):aR:=(k,x.2)
def fH (p:aW) (s:Int):aR :=
 if(bB p s).1=1 then bMZ (oD p s) (aE1 (p.2.2.1.getD (s - 1).toNat (aK aD))).2.1.2
 else if(bB p s).1=2 then aF2 (oD p s) (bB p s).2 (if s=0 then(p.1.getD (bB p s).2.toNat (aK aL)).1 else(oD p s).2.2.2.2.2.2.2.1) (p.1.getD (bB p s).2.toNat (aK aL)).2
 else if(bB p s).1=3 then bMW (oD p s) []
 else if(bB p s).1=4 then bO7 (oD p s) (aE1 (p.2.2.2.getD s.toNat (aK aD))).2.1.2
 else if(bB p s).1=5 then aB6 (oD p s) (bB p s).2
 else if(bB p s).1=6 then(if s=0 then aIH (zL (oD p s) (bB p s).2 (p.1.getD (bB p s).2.toNat (aK aL)).2) [] else zL (oD p s) (bB p s).2 (p.1.getD (bB p s).2.toNat (aK aL)).2)
 else if(bB p s).1=7 then aIH (oD p s) []
 else oD p s
def nI (p:aW) (s:Int):List bE :=
 if(bB p s).1=1 then p.2.2.1.set (s - 1).toNat (aE1 (p.2.2.1.getD (s - 1).toNat (aK aD))).1
 else if(bB p s).1=3 then p.2.2.1.set s.toNat (aC5 (p.2.2.1.getD s.toNat (aK aD)) ((bB p s).2,(oD p s).2.2.2.2.2.2.2.2.1)).1
 else p.2.2.1
def nD (p:aW) (s:Int):List bE :=
 if(bB p s).1=4 then p.2.2.2.set s.toNat (aE1 (p.2.2.2.getD s.toNat (aK aD))).1
 else if(bB p s).1=7 then p.2.2.2.set (s - 1).toNat (aC5 (p.2.2.2.getD (s - 1).toNat (aK aD)) ((bB p s).2,(oD p s).2.2.2.2.2.2.2.2.2.2.1)).1
 else p.2.2.2
def gJ (p:aW) (s:Int):aW:=if jC p s=true then(p.1,p.2.1.set s.toNat (uL (fH p s) ((fH p s).1+1)),nI p s,nD p s) else p
def aCL (p:aW):List Int->aW
 | []=>p
 | s::l=>aCL (gJ p s) l
theorem aVR {b:List bT} {st:List aR} {a r:List bE} (h:bC aE (b,st,a,r)<=1000000000):List.length b<=1000000000/\bC aO b<=1000000000/\List.length st<=1000000000/\(∀x∈st,bC aB x<=1000000000) /\
  List.length a<=1000000000/\(∀x∈a,bC aD x<=1000000000)/\List.length r<=1000000000/\∀x∈r,bC aD x<=1000000000:=by
 have e:bC aE (b,st,a,r)=bC aO b+(bC (.slice 142 aB) st+(bC aI a+bC aI r)):=rfl
 have h1:List.length b<=bC aO b:=rT (e:=138) (t:=aL) b
 have h2:List.length st<=bC (.slice 142 aB) st:=rT (e:=142) (t:=aB) st
 have h3:List.length a<=bC aI a:=rT (e:=147) (t:=aD) a
 have h4:List.length r<=bC aI r:=rT (e:=147) (t:=aD) r
 refine⟨by omega,by omega,by omega,fun x hx=>?_,by omega,fun x hx=>?_,by omega,fun x hx=>?_⟩
 ·have:=yJ (e:=142) (t:=aB) hx;omega
 ·have:bC aD x<=bC aI a:=yJ (e:=147) (t:=aD) hx;omega
 ·have:bC aD x<=bC aI r:=yJ (e:=147) (t:=aD) hx;omega
theorem bY8 {p:aW} {s:Int} (h:¬(0<=s/\s<(p.2.1.length:Int)/\0<=(p.2.1.getD s.toNat (aK aB)).1/\(p.2.1.getD s.toNat (aK aB)).1<((p.2.1.getD s.toNat (aK aB)).2.1.length:Int))):(0,0)=bB p s:=(if_neg h).symm
theorem bDG {p:aW} {s:Int} (h1:0<=s) (h2:s<(p.2.1.length:Int)) (h3:0<=(p.2.1.getD s.toNat (aK aB)).1) (h4:(p.2.1.getD s.toNat (aK aB)).1<((p.2.1.getD s.toNat (aK aB)).2.1.length:Int)) :
 (p.2.1.getD s.toNat (aK aB)).2.1.getD (p.2.1.getD s.toNat (aK aB)).1.toNat (aK aU)=bB p s:=(if_pos ⟨h1,h2,h3,h4⟩).symm
def aVX (x:aR):Bool:=decide ((x.2.1.length:Int) - 1<=x.1)
theorem bWZ (p:aW):cCX p=p.2.1.all aVX:=rfl
theorem bPW {p:aW} {s:Int} (h:nQ p=false\/s<0\/(p.2.1.length:Int)<=s):false=jC p s:=by
 unfold jC;rw[if_neg]
 rintro⟨h1,h2,h3⟩
 rcases h with h|h|h
 ·rw[h] at h1;cases h1
 ·omega
 ·omega
theorem bTX {p:aW} {s:Int} (h1:nQ p=true) (h2:0<=s) (h3:s<(p.2.1.length:Int)) (k:(bB p s).1=1):jC p s=(decide (0<s)&&decide (0<(p.2.2.1.getD (s - 1).toNat (aK aD)).2.length)):=by
 unfold jC;rw[if_pos ⟨h1,h2,h3⟩,if_pos k]
theorem cD3 {p:aW} {s:Int} (h1:nQ p=true) (h2:0<=s) (h3:s<(p.2.1.length:Int)) (k:(bB p s).1=3):jC p s=(decide (s<(p.2.1.length:Int) - 1)&&aQA (p.2.2.1.getD s.toNat (aK aD))):=by
 unfold jC;rw[if_pos ⟨h1,h2,h3⟩,k];rfl
theorem bTZ {p:aW} {s:Int} (h1:nQ p=true) (h2:0<=s) (h3:s<(p.2.1.length:Int)) (k:(bB p s).1=4):jC p s=(decide (s<(p.2.1.length:Int) - 1)&&decide (0<(p.2.2.2.getD s.toNat (aK aD)).2.length)):=by
 unfold jC;rw[if_pos ⟨h1,h2,h3⟩,k];rfl
theorem cD1 {p:aW} {s:Int} (h1:nQ p=true) (h2:0<=s) (h3:s<(p.2.1.length:Int)) (k:(bB p s).1=7):jC p s=(decide (0<s)&&aQA (p.2.2.2.getD (s - 1).toNat (aK aD))):=by
 unfold jC;rw[if_pos ⟨h1,h2,h3⟩,k];rfl
theorem bO0 {p:aW} {s:Int} (h1:nQ p=true) (h2:0<=s) (h3:s<(p.2.1.length:Int)) (k:(bB p s).1=2\/(bB p s).1=5\/(bB p s).1=6):true=jC p s:=by
 unfold jC;rw[if_pos ⟨h1,h2,h3⟩]
 rcases k with k|k|k<;>rw[k]<;>rfl
theorem cKM {p:aW} {s:Int} (h1:nQ p=true) (h2:0<=s) (h3:s<(p.2.1.length:Int)) (k:(bB p s).1=8):jC p s=cCX p:=by
 unfold jC;rw[if_pos ⟨h1,h2,h3⟩,k];rfl
theorem cFW {n:Nat}:decide ((0:Int)<(n:Int))=decide (0<n):=by rw[Bool.eq_iff_iff,decide_eq_true_eq,decide_eq_true_eq];omega
theorem cKD {p:aW} {s:Int} (h:¬(bB p s).1=1/\¬(bB p s).1=2/\¬(bB p s).1=3/\¬(bB p s).1=4/\¬(bB p s).1=5/\¬(bB p s).1=6/\¬(bB p s).1=7/\¬(bB p s).1=8):false=jC p s:=by
 unfold jC;split
 ·rw[if_neg h.1,if_neg h.2.2.1,if_neg h.2.2.2.1,if_neg h.2.2.2.2.2.2.1,if_neg h.2.1,if_neg h.2.2.2.2.1,if_neg h.2.2.2.2.2.1,if_neg h.2.2.2.2.2.2.2]
 ·rfl
theorem cIR {p:aW} {s:Int} (h1:nQ p=true) (h2:0<=s) (h3:s<(p.2.1.length:Int)) (k:(bB p s).1=1) (h:s<=0):false=jC p s:=by rw[bTX h1 h2 h3 k,decide_eq_false (by omega)];rfl
theorem cJ5 {p:aW} {s:Int} (h1:nQ p=true) (h2:0<=s) (h3:s<(p.2.1.length:Int)) (k:(bB p s).1=1) (h:0<s):decide ((0:Int)<((p.2.2.1.getD (s - 1).toNat (aK aD)).2.length:Int))=jC p s:=by rw[bTX h1 h2 h3 k,decide_eq_true h,cFW,Bool.true_and]
theorem cIV {p:aW} {s:Int} (h1:nQ p=true) (h2:0<=s) (h3:s<(p.2.1.length:Int)) (k:(bB p s).1=3) (h:(p.2.1.length:Int) - 1<=s):false=jC p s:=by rw[cD3 h1 h2 h3 k,decide_eq_false (by omega)];rfl
theorem cJE {p:aW} {s:Int} (h1:nQ p=true) (h2:0<=s) (h3:s<(p.2.1.length:Int)) (k:(bB p s).1=3) (h:s<(p.2.1.length:Int) - 1):aQA (p.2.2.1.getD s.toNat (aK aD))=jC p s:=by rw[cD3 h1 h2 h3 k,decide_eq_true h,Bool.true_and]
theorem cIX {p:aW} {s:Int} (h1:nQ p=true) (h2:0<=s) (h3:s<(p.2.1.length:Int)) (k:(bB p s).1=4) (h:(p.2.1.length:Int) - 1<=s):false=jC p s:=by rw[bTZ h1 h2 h3 k,decide_eq_false (by omega)];rfl
theorem cJ8 {p:aW} {s:Int} (h1:nQ p=true) (h2:0<=s) (h3:s<(p.2.1.length:Int)) (k:(bB p s).1=4) (h:s<(p.2.1.length:Int) - 1):decide ((0:Int)<((p.2.2.2.getD s.toNat (aK aD)).2.length:Int))=jC p s:=by rw[bTZ h1 h2 h3 k,decide_eq_true h,cFW,Bool.true_and]
theorem cIU {p:aW} {s:Int} (h1:nQ p=true) (h2:0<=s) (h3:s<(p.2.1.length:Int)) (k:(bB p s).1=7) (h:s<=0):false=jC p s:=by rw[cD1 h1 h2 h3 k,decide_eq_false (by omega)];rfl
theorem cIQ {p:aW} {s:Int} (h1:nQ p=true) (h2:0<=s) (h3:s<(p.2.1.length:Int)) (k:(bB p s).1=7) (h:0<s):aQA (p.2.2.2.getD (s - 1).toNat (aK aD))=jC p s:=by rw[cD1 h1 h2 h3 k,decide_eq_true h,Bool.true_and]
theorem bM4 {α:Type} {f:α->Bool} {l:List α} {k:Nat} (h:(List.take k l).all f=true) (hk:l.length<=k):l.all f=true:=by rw[List.take_of_length_le hk] at h;exact h
def aFK:Con:=⟨82,aE,aE,[.val ⟨true,aE,[]⟩],[⟨true,aE,[2,2,2,2]⟩],false,none,
 ((fun x=>bC aE x<=1000000000):(aW)->Prop),
 ((fun x=>x):(aW)->(aW))⟩
def aUR:T:=uS 0 aO eD <| tN aB wB <| pX (fM bV) bV (.nl 142 aB) <| mH bV 3 2 4 (cW 142 aB bV wB bV 3 <| cD 1 5 <| kO 142 aB 6 <| eF (.cN2 142 aB 248) bV bV (eT bV 3) 7 <| eJ bV 3 0 bV cU cM) <| gL 147 aD (aBU 0) <| pX (fM aI) aI dN <| mH aI 6 5 7 (cW 147 aD aI (aBU 0) aI 6 <| cD 2 8 <| kO 147 aD 9 <| tH 147 aD aI aI (eT aI 6) 10 <| eJ aI 6 0 aI fE cO) <| gL 147 aD (jD 3 0) <| pX (fM aI) aI dN <| oJ aI 9 8 10 (cW 147 aD aI (jD 3 0) aI 9 <| cD 2 11 <| kO 147 aD 12 <| tH 147 aD aI aI (eT aI 9) 13 <| eJ aI 9 0 aI fC dK) (oH aE [aZ,eT bV 3,eT aI 6,eT aI 9])
theorem aWT:Con.Holds Tryz.prog aFK:=tk ⟨[(2991,1003,iZ 14 10++[.dr 0,.tm 17 0,.sl 13]),(2981,2006,[.dr 29]++iZ 18 15++[.tm 32 0,.sl 14]),(2971,4009,[.dr 44]++iZ 33 30++[.dr 1,.tm 47 0,.sl 15])],[(2981,3006,[24],[]),(2971,6009,[39],[]),(2961,12012,[54],[])]⟩ aUR (aC bI9 (aC aDP (aC aIP aH))) fun(x:aW) hx hp=>by
 dsimp only [aFK] at hx hp⊢
 obtain⟨b,st,a,r⟩:=x
 obtain⟨h1,G6,h2,Jg,h3,Jf,h4,Je⟩:=aVR hp
 delta aUR aJG vR zP;refine dR ?_
 refine⟨G6,fun _ _=>?_⟩
 refine eY (fun k=>((k:Int),List.take k st)) (List.length st) rfl fun I μ k hk _ go=>?_
 dsimp only
 (refine dQ ?_;try with_reducible exact True.intro)
 skip
 constructor
 ·intro hlt
  have hk':k<st.length:=by omega
  have hm:=Jg _ (List.getElem_mem hk')
  simp only[aP hk']
  (repeat' first|intro _|(refine go _ ?_ ?_ ?_)|(refine go _ ?_ ?_)|(with_reducible apply And.intro))
  all_goals first|omega|(with_reducible exact hm)|(with_reducible exact hm.1)|(with_reducible exact hm.2)|(unfold maxLen;omega)|(simp only[List.length_take];unfold maxLen;omega)|(simp only[List.length_take];omega)|(rw[oT hk'];rfl)
 intro hge _
 rw[show List.take k st=st from List.take_of_length_le (by omega)]
 clear go
 refine eY (fun k=>((k:Int),List.take k a)) (List.length a) rfl fun I μ k hk _ go=>?_
 dsimp only
 (refine dQ ?_;try with_reducible exact True.intro)
 skip
 constructor
 ·intro hlt
  have hk':k<a.length:=by omega
  have hm:=Jf _ (List.getElem_mem hk')
  simp only[aP hk']
  (repeat' first|intro _|(refine go _ ?_ ?_ ?_)|(refine go _ ?_ ?_)|(with_reducible apply And.intro))
  all_goals first|omega|(with_reducible exact hm)|(with_reducible exact hm.1)|(with_reducible exact hm.2)|(unfold maxLen;omega)|(simp only[List.length_take];unfold maxLen;omega)|(simp only[List.length_take];omega)|(rw[oT hk'];rfl)
 intro hge _
 rw[show List.take k a=a from List.take_of_length_le (by omega)]
 clear go
 refine eY (fun k=>((k:Int),List.take k r)) (List.length r) rfl fun I μ k hk _ go=>?_
 dsimp only
 (refine dQ ?_;try with_reducible exact True.intro)
 skip
 constructor
 ·intro hlt
  have hk':k<r.length:=by omega
  have hm:=Je _ (List.getElem_mem hk')
  simp only[aP hk']
  (repeat' first|intro _|(refine go _ ?_ ?_ ?_)|(refine go _ ?_ ?_)|(with_reducible apply And.intro))
  all_goals first|omega|(with_reducible exact hm)|(with_reducible exact hm.1)|(with_reducible exact hm.2)|(unfold maxLen;omega)|(simp only[List.length_take];unfold maxLen;omega)|(simp only[List.length_take];omega)|(rw[oT hk'];rfl)
 intro hge
 rw[show List.take k r=r from List.take_of_length_le (by omega)]
def aDW:Con:=⟨77,aE,aE,[.val ⟨true,aE,[]⟩],[⟨true,aE,[2,2,2,2]⟩],false,none,
 ((fun x=>bC aE x<=1000000000):(aW)->Prop),
 ((fun x=>x):(aW)->(aW))⟩
def bAF:T:=gW (fM aO) aO mZ 138 aL (bS aO eD) <| mH aO 1 2 3 (cW 138 aL aO (bS aO eD) aO 1 <| cW 138 aL aO (bS aO eD) aO 1 <| jM (yV 3 8) aA aA bA (aBG 4) <| jM (yV 3 8) aA aA bA (wK 5) <| eF (rZ 138 aL) aA aA cQ 7 <| eF (aIM 138 aL) aO aO (eT aO 1) 8 <| eJ aO 1 0 aO cI cU) <| gW (fM bV) bV (.nl 142 aB) 142 aB wB <| mH bV 4 5 6 (cW 142 aB bV wB bV 4 <| nU 7 <| kO 142 aB 8 <| eF (.cN2 142 aB 248) bV bV (eT bV 4) 9 <| eJ bV 4 0 bV cO cI) <| gW (fM aI) aI dN 147 aD (aBU 0) <| mH aI 7 8 9 (cW 147 aD aI (aBU 0) aI 7 <| cD 1 10 <| kO 147 aD 11 <| tH 147 aD aI aI (eT aI 7) 12 <| eJ aI 7 0 aI dK eM) <| gW (fM aI) aI dN 147 aD (jD 3 0) <| oJ aI 10 11 12 (cW 147 aD aI (jD 3 0) aI 10 <| cD 1 13 <| kO 147 aD 14 <| tH 147 aD aI aI (eT aI 10) 15 <| eJ aI 10 0 aI iR gM) (oH aE [eT aO 1,eT bV 4,eT aI 7,eT aI 10])
theorem aPT:Con.Holds Tryz.prog aDW:=tk ⟨[(2991,1001,[.dr 8,.dr 0,.tm 4 0,.sl 12]),(2981,2004,iZ 13 9++[.dr 4,.tm 5 0,.sl 13]),(2971,4007,iZ 42 38++[.dr 5,.tm 6 0,.sl 14]),(2961,8010,iZ 60 56++[.dr 6,.tm 7 0,.sl 15])],[(2983,3004,[33,25],[]),(2973,6007,[52],[]),(2963,12010,[70],[]),(2953,24013,[88],[])]⟩ bAF (aC aHY (aC aQ2 aH)) fun(x:aW) hx hp=>by
 dsimp only [aDW] at hx hp⊢
 obtain⟨b,st,a,r⟩:=x
 obtain⟨h1,G6,h2,Jg,h3,Jf,h4,Je⟩:=aVR hp
 have hb:∀x∈b,List.length x.1<=1000000000/\List.length x.2<=1000000000:=fun x hx=>⟨((wQ (t:=aO) G6).2 x hx).1.1,((wQ (t:=aO) G6).2 x hx).2.1⟩
 delta bAF aB3 aED;refine dR ?_
 refine eY (fun k=>((k:Int),List.take k b)) (List.length b) rfl fun I μ k hk _ go=>?_
 dsimp only
 refine dQ ?_
 intro _
 constructor
 ·intro hlt
  have hk':k<b.length:=by omega
  have hm:=hb _ (List.getElem_mem hk')
  simp only[aP hk']
  (repeat' first|intro _|(refine go _ ?_ ?_ ?_)|(refine go _ ?_ ?_)|(with_reducible apply And.intro))
  all_goals first|omega|(with_reducible exact hm)|(with_reducible exact hm.1)|(with_reducible exact hm.2)|(unfold maxLen;omega)|(simp only[List.length_take];unfold maxLen;omega)|(simp only[List.length_take];omega)|(rw[oT hk'];rfl)
 intro hge
 rw[show List.take k b=b from List.take_of_length_le (by omega)]
 clear go
 refine eY (fun k=>((k:Int),List.take k st)) (List.length st) rfl fun I μ k hk _ go=>?_
 dsimp only
 refine dQ ?_
 intro _
 constructor
 ·intro hlt
  have hk':k<st.length:=by omega
  have hm:=Jg _ (List.getElem_mem hk')
  simp only[aP hk']
  (repeat' first|intro _|(refine go _ ?_ ?_ ?_)|(refine go _ ?_ ?_)|(with_reducible apply And.intro))
  all_goals first|omega|(with_reducible exact hm)|(with_reducible exact hm.1)|(with_reducible exact hm.2)|(unfold maxLen;omega)|(simp only[List.length_take];unfold maxLen;omega)|(simp only[List.length_take];omega)|(rw[oT hk'];rfl)
 intro hge
 rw[show List.take k st=st from List.take_of_length_le (by omega)]
 clear go
 refine eY (fun k=>((k:Int),List.take k a)) (List.length a) rfl fun I μ k hk _ go=>?_
 dsimp only
 refine dQ ?_
 intro _
 constructor
 ·intro hlt
  have hk':k<a.length:=by omega
  have hm:=Jf _ (List.getElem_mem hk')
  simp only[aP hk']
  (repeat' first|intro _|(refine go _ ?_ ?_ ?_)|(refine go _ ?_ ?_)|(with_reducible apply And.intro))
  all_goals first|omega|(with_reducible exact hm)|(with_reducible exact hm.1)|(with_reducible exact hm.2)|(unfold maxLen;omega)|(simp only[List.length_take];unfold maxLen;omega)|(simp only[List.length_take];omega)|(rw[oT hk'];rfl)
 intro hge
 rw[show List.take k a=a from List.take_of_length_le (by omega)]
 clear go
 refine eY (fun k=>((k:Int),List.take k r)) (List.length r) rfl fun I μ k hk _ go=>?_
 dsimp only
 refine dQ ?_
 intro _
 constructor
 ·intro hlt
  have hk':k<r.length:=by omega
  have hm:=Je _ (List.getElem_mem hk')
  simp only[aP hk']
  (repeat' first|intro _|(refine go _ ?_ ?_ ?_)|(refine go _ ?_ ?_)|(with_reducible apply And.intro))
  all_goals first|omega|(with_reducible exact hm)|(with_reducible exact hm.1)|(with_reducible exact hm.2)|(unfold maxLen;omega)|(simp only[List.length_take];unfold maxLen;omega)|(simp only[List.length_take];omega)|(rw[oT hk'];rfl)
 intro hge
 rw[show List.take k r=r from List.take_of_length_le (by omega)]
def aUP:Con:=⟨205,(.cMV aE tI),aU,[.val ⟨true,aE,[]⟩,.val ⟨false,tI,[]⟩],[⟨true,aU,[0,0]⟩],false,none,
 ((fun _=>True):(aW×Int)->Prop),
 ((fun x=>bB x.1 x.2):(aW×Int)->(Int×Int))⟩
def bR2:T:=aEH bW 1 (wJ tI aN) <| tN aB (gS aE 1 aE 0) <| aBJ .geq bW bM 3 (wJ tI aN) <| qD (gS aE 1 aE 0) bW <| aEH (wP 4) 5 (wJ tI aN) <| wA aU (bN 1 4) <| aBJ .geq (wP 4) cQ 7 (wJ tI aN) <| cW 159 aU bI (bN 1 4) bZR 4 <| cF 8
theorem bPZ:Con.Holds Tryz.prog aUP:=tk ⟨[],[]⟩ bR2 aH fun(x:aW×Int) hx hp=>by
 dsimp only [aUP] at hx hp⊢
 obtain⟨p,s⟩:=x
 delta bR2;refine dR ?_
 (refine dQ ?_;try with_reducible exact True.intro)
 (repeat' first|intro _|(with_reducible apply And.intro))
 all_goals first|omega|exact bDG (by omega) (by omega) (by omega) (by omega)|exact bY8 (by omega)|skip
def aWD:Con:=⟨212,(.cMV aE tI),aU,[.val ⟨true,aE,[]⟩,.val ⟨false,tI,[]⟩],[⟨true,aU,[0,0]⟩],false,none,
 ((fun _=>True):(aW×Int)->Prop),
 ((fun x=>bB x.1 x.2):(aW×Int)->(Int×Int))⟩
def bPC:T:=tN aB (gS aE 1 aE 0) <| lL aZ <| gQ 0 iK (kM bW aN 2) <| dL 3 4 (wJ tI aN) <| qD (gS aE 1 aE 0) bW <| qD (gS aE 1 aE 0) bW <| wA aU (bN 1 6) <| lL cY <| gQ 0 iK (kM (wP 5) aN 8) <| dL 9 10 (wJ tI aN) <| qD (gS aE 1 aE 0) bW <| qD (gS aE 1 aE 0) bW <| cW 159 aU bI (bN 1 11) bZR 12 <| cF 13
theorem bSH:Con.Holds Tryz.prog aWD:=tk ⟨[],[]⟩ bPC (aC lV aH) fun(x:aW×Int) hx hp=>by
 dsimp only [aWD] at hx hp⊢
 obtain⟨p,s⟩:=x
 have hm:∀k,k<p.2.1.length->(p.2.1.getD k (aK aB)).2.1.length<=9223372036854775807:=fun k hk=>by rw[aP hk];exact(hx.1.2.1.2 _ (List.getElem_mem hk)).2.1.1
 have As:p.2.1.length<=9223372036854775807:=hx.1.2.1.1
 have hm2:=hm s.toNat
 delta bPC kI;refine dR ?_
 (refine dQ ?_;try with_reducible exact True.intro)
 (repeat' first|intro _|(with_reducible apply And.intro))
 all_goals first|omega|exact bDG (by omega) (by omega) (by omega) (by omega)|exact bY8 (by omega)|skip
def aQ0:Con:=⟨295,aD,.bool,[.val ⟨true,aD,[]⟩],[⟨false,.bool,[0]⟩],false,none,
 ((fun _=>True):(bE)->Prop),
 ((fun x=>aQA x):(bE)->(Bool))⟩
def bBP:T:=pS aM tY <| xA tI tI aZ (cB bQ 0) <| cF 2
theorem bSU:Con.Holds Tryz.prog aQ0:=tk ⟨[],[]⟩ bBP aH fun(x:bE) hx hp=>by
 dsimp only [aQ0] at hx hp⊢
 delta bBP;refine dR ?_
 exact fun _=>rfl
def aT2:Con:=⟨303,aE,.bool,[.val ⟨true,aE,[]⟩],[⟨false,.bool,[0]⟩],false,none,
 ((fun _=>True):(aW)->Prop),
 ((fun x=>cCX x):(aW)->(Bool))⟩
def bD2:T:=jY 142 aB wB <| gB aZ 2 3 (cH 142 aB bV wB 1 <| cH 142 aB bV wB 1 <| wA aU (bN 1 5) <| lL cQ <| bDX tI tI (wP 4) 7 <| sY 8 aX <| uZ aZ 0 cU) bD
theorem bVB:Con.Holds Tryz.prog aT2:=tk ⟨[(2993,1001,[.dr 0,.tm 3 0])],[]⟩ bD2 aH fun(x:aW) hx hp=>by
 dsimp only [aT2] at hx hp⊢
 have hm:∀k,k<x.2.1.length->(x.2.1.getD k (aK aB)).2.1.length<=9223372036854775807:=fun k hk=>by rw[aP hk];exact(hx.2.1.2 _ (List.getElem_mem hk)).2.1.1
 have As:x.2.1.length<=9223372036854775807:=hx.2.1.1
 delta bD2;refine dR ?_
 rw[bWZ]
 refine aC6 (fun k=>(k:Int)) (fun k=>(List.take k x.2.1).all aVX=true) (List.length x.2.1) rfl rfl fun I μ k hk hG _ go=>?_
 try dsimp only
 refine dQ ?_
 intro _
 constructor
 ·intro hlt
  have hk':k<x.2.1.length:=by omega
  have hm2:=hm k hk'
  have e:=xC aVX x.2.1 hk'
  have ng:∀P:Prop,aVX x.2.1[k]=false->false=x.2.1.all aVX:=fun _ h=>(aFB hk' h).symm
  rw[aP hk'] at hm2
  simp only[aP hk']
  (repeat' first|intro _|(refine go _ ?_ ?_ ?_)|(refine go _ ?_ ?_)|(with_reducible apply And.intro))
  all_goals first|omega|exact ng True (decide_eq_false (by omega))|(rw[e,hG,Bool.true_and];exact decide_eq_true (by omega))|rfl
 ·intro hge
  exact(bM4 hG (by omega)).symm
def aPZ:Con:=⟨204,(.cMV aE tI),.bool,[.val ⟨true,aE,[]⟩,.val ⟨false,tI,[]⟩],[⟨false,.bool,[0]⟩],false,none,
 ((fun _=>True):(aW×Int)->Prop),
 ((fun x=>jC x.1 x.2):(aW×Int)->(Bool))⟩
def aZX:T:=gH 0 (fQ aE) 1 2 aX <| aEH bW 3 aX <| tN aB (gS aE 1 aE 0) <| aBJ .geq bW dY 5 aX <| tN aB (gS aE 1 aE 0) <| lL cQ <| bDX tI tI bW 7 <| cD 1 0 <| nE (kL 9) bF 10 (aD8 bW aN 11 (kK bW 147 aD aI (gS aE 2 aE 0) 12 <| pS aM (nL 13) <| sS .gtr dK aN <| cF 15) aX) <| iL (kL 9) 3 11 (jL 8 (bZ 147 aD aI (gS aE 2 aE 0) bW <| cD 2 12 <| cF 13) aX) <| iL (kL 9) 4 12 (jL 8 (bZ 147 aD aI (xQ aE 3 aE) bW <| pS aM (nL 13) <| sS .gtr dK aN <| cF 15) aX) <| iL (kL 9) 7 13 (aD8 bW aN 14 (kK bW 147 aD aI (xQ aE 3 aE) 15 <| cD 2 16 <| cF 17) aX) <| uD (kL 9) aA2 14 bD <| uD (kL 9) aCV 15 bD <| uD (kL 9) uJ 16 bD <| rX .eql (kL 9) (fX 8) 17 (tN aB (gS aE 1 aE 0) <| zY aN <| gB kA 18 20 (cH 142 aB bV (gS aE 1 aE 0) 19 <| wA aU (bN 1 21) <| lL qS <| bDX tI tI (wP 21) 23 <| sY 24 aX <| oM kA 0 25) bD) aX
set_option maxHeartbeats 1000000 in
theorem bQO:Con.Holds Tryz.prog aPZ:=tk ⟨[(2958,3072019,[.dr 90,.dr 88,.dr 89,.dr 84]++iZ 87 85++[.dr 71,.dr 72,.dr 58,.dr 59,.dr 47,.dr 48,.dr 32,.dr 33]++iZ 31 28++[.dr 5]++iZ 27 8++[.dr 2,.dr 0,.dr 1,.tm 93 0])],[]⟩ aZX (aC aST (aC bPZ (aC bSU aH))) fun(x:aW×Int) hx hp=>by
 dsimp only [aPZ] at hx hp⊢
 obtain⟨p,s⟩:=x
 have hm:∀k,k<p.2.1.length->(p.2.1.getD k (aK aB)).2.1.length<=9223372036854775807:=fun k hk=>by rw[aP hk];exact(hx.1.2.1.2 _ (List.getElem_mem hk)).2.1.1
 have As:p.2.1.length<=9223372036854775807:=hx.1.2.1.1
 delta aZX aGQ aUP aQ0;refine dR ?_
 refine dQ ?_
 refine⟨fun h=>bPW (.inl h),fun h1=>⟨fun h=>bPW (.inr (.inl h)),fun h2 _=>⟨fun h=>bPW (.inr (.inr h)),fun h3 _=>⟨by omega,fun _ _=>?_⟩⟩⟩⟩
 have hp':=(kW.1 h1).1
 (repeat' first|intro _|(with_reducible apply And.intro))
 all_goals first|omega|exact bO0 h1 h2 h3 (.inl (by assumption))|exact bO0 h1 h2 h3 (.inr (.inl (by assumption)))|exact bO0 h1 h2 h3 (.inr (.inr (by assumption)))|exact cKD ⟨by assumption,by assumption,by assumption,by assumption,by assumption,by assumption,by assumption,by assumption⟩|exact cIR h1 h2 h3 (by assumption) (by omega)|exact cJ5 h1 h2 h3 (by assumption) (by omega)|exact cIV h1 h2 h3 (by assumption) (by omega)|exact cJE h1 h2 h3 (by assumption) (by omega)|exact cIX h1 h2 h3 (by assumption) (by omega)|exact cJ8 h1 h2 h3 (by assumption) (by omega)|exact cIU h1 h2 h3 (by assumption) (by omega)|exact cIQ h1 h2 h3 (by assumption) (by omega)|skip
 rw[cKM h1 h2 h3 (by assumption),bWZ]
 refine aC6 (fun k=>(k:Int)) (fun k=>(List.take k p.2.1).all aVX=true) (List.length p.2.1) rfl rfl fun I μ k hk hG _ go=>?_
 try dsimp only
 refine dQ ?_
 constructor
 ·intro hlt
  have hk':k<p.2.1.length:=by omega
  have hm2:=hm k hk'
  have e:=xC aVX p.2.1 hk'
  have ng:∀P:Prop,aVX p.2.1[k]=false->false=p.2.1.all aVX:=fun _ h=>(aFB hk' h).symm
  rw[aP hk'] at hm2
  simp only[aP hk']
  (repeat' first|intro _|(refine go _ ?_ ?_ ?_)|(refine go _ ?_ ?_)|(with_reducible apply And.intro))
  all_goals first|omega|exact ng True (decide_eq_false (by omega))|(rw[e,hG,Bool.true_and];exact decide_eq_true (by omega))|rfl
 ·intro hge
  exact(bM4 hG (by omega)).symm
def aPC:Con:=⟨211,(.cMV aE tI),.bool,[.val ⟨true,aE,[]⟩,.val ⟨false,tI,[]⟩],[⟨false,.bool,[0]⟩],false,none,
 ((fun _=>True):(aW×Int)->Prop),
 ((fun x=>jC x.1 x.2):(aW×Int)->(Bool))⟩
def aZJ:T:=gH 0 (fQ aE) 1 2 aX <| tN aB (gS aE 1 aE 0) <| lL eG <| gQ 1 iK (kM bW aN 4) <| dU 5 6 <| cD 2 0 <| nE (kL 7) bF 8 (aD8 bW aN 9 (kK bW 147 aD aI (gS aE 2 aE 0) 10 <| pS aM (nL 11) <| sS .gtr fE aN <| cF 13) aX) <| iL (kL 7) 3 9 (tN aB (gS aE 1 aE 0) <| lL cI <| gB bW 11 12 (bZ 147 aD aI (gS aE 2 aE 0) bW <| pS aM (nL 13) <| bZ 147 aD aI (gS aE 2 aE 0) bW <| xA tI tI dK (cB bQ 15) <| cF 16) aX) <| iL (kL 7) 4 10 (tN aB (gS aE 1 aE 0) <| lL cO <| gB bW 12 13 (bZ 147 aD aI (xQ aE 3 aE) bW <| pS aM (nL 14) <| sS .gtr fC aN <| cF 16) aX) <| iL (kL 7) 7 11 (aD8 bW aN 12 (lL bW <| kK bW 147 aD aI (xQ aE 3 aE) 13 <| pS aM (nL 15) <| cH 147 aD aI (xQ aE 3 aE) 14 <| xA tI tI gM (cB bQ 17) <| cF 18) aX) <| uD (kL 7) aA2 12 bD <| uD (kL 7) aCV 13 bD <| uD (kL 7) uJ 14 bD <| rX .eql (kL 7) (fX 8) 15 (.call 3 (fQ aE) <| cF 16) aX
set_option maxHeartbeats 1000000 in
theorem bSG:Con.Holds Tryz.prog aPC:=tk ⟨[],[]⟩ aZJ (aC aL1 (aC lV (aC bSH (aC bVB aH)))) fun(x:aW×Int) hx hp=>by
 dsimp only [aPC] at hx hp⊢
 obtain⟨p,s⟩:=x
 have As:p.2.1.length<=9223372036854775807:=hx.1.2.1.1
 delta aZJ aD1 kI aWD aT2;refine dR ?_
 refine dQ ?_
 refine⟨fun h=>bPW (.inl h),fun h1 _=>⟨by omega,fun _=>⟨fun h=>bPW (.inr (by omega)),fun hs _=>?_⟩⟩⟩
 have h2:0<=s:=hs.1
 have h3:s<(p.2.1.length:Int):=by omega
 have hp':=(kW.1 h1).1
 (repeat' first|intro _|(with_reducible apply And.intro))
 all_goals first|omega|exact bO0 h1 h2 h3 (.inl (by assumption))|exact bO0 h1 h2 h3 (.inr (.inl (by assumption)))|exact bO0 h1 h2 h3 (.inr (.inr (by assumption)))|exact cKD ⟨by assumption,by assumption,by assumption,by assumption,by assumption,by assumption,by assumption,by assumption⟩|exact cIR h1 h2 h3 (by assumption) (by omega)|exact cJ5 h1 h2 h3 (by assumption) (by omega)|exact cIV h1 h2 h3 (by assumption) (by omega)|exact cJE h1 h2 h3 (by assumption) (by omega)|exact cIX h1 h2 h3 (by assumption) (by omega)|exact cJ8 h1 h2 h3 (by assumption) (by omega)|exact cIU h1 h2 h3 (by assumption) (by omega)|exact cIQ h1 h2 h3 (by assumption) (by omega)|skip
 all_goals exact(cKM h1 h2 h3 (by assumption)).symm
end
theorem bJE (q:bE):(aE1 q).2.1.2.length<=6:=by
 unfold aE1;split
 ·rename_i h
  have h1:=(kW.1 h.1).2 0 h.2
  exact((dH _).1 ((oR _).1 h1).1).2.1
 ·exact Nat.zero_le _
theorem bWO (q:bE):bC aD (aE1 q).1<=bC aD q:=by
 unfold aE1;split
 ·show 0+bC (.slice 249 aM) (q.2.drop 1)<=0+bC (.slice 249 aM) q.2
  have:=aE7 (e:=249) (t:=aM) (List.drop_sublist 1 q.2)
  omega
 ·exact Nat.le_refl _
theorem bOQ (q:bE) (x:cP):bC aD (aC5 q x).1<=bC aD q+7:=by
 unfold aC5;split
 ·rename_i h
  show 0+bC (.slice 249 aM) (q.2++[x])<=0+bC (.slice 249 aM) q.2+7
  have h1:=((dH _).1 ((oR _).1 h.2.1).1).2.1
  have e1:bC aM x=0+bC aA x.2:=rfl
  have e2:=lX x.2
  rw[bVR,bW8];omega
 ·exact Nat.le_add_right _ _
theorem cHV (s:aR) (m:Int) (x t:List Int):bC aB (aF2 s m x t)<=bC aB s+100:=by
 unfold aF2;split
 ·rename_i h
  unfold bQQ at h
  simp only[Bool.and_eq_true] at h
  have hx:=aX5 h.2.1
  have hm:=((bO _).1 ((cA s).1 h.1).1).2.1
  have h6:=aJV s.2.2.1 x hx s.2.2.1.length
  have hl:=zT s.2.2.1 x s.2.2.1.length
  have hr:bC aF (rQ s.2.2.1 x s.2.2.1.length).1<=9+9 * 6:=bMX (by omega) h6
  have hk:bC aF (aN3 s.2.2.2.2.1 (rQ s.2.2.1 x s.2.2.1.length).1)<=bC aF (rQ s.2.2.1 x s.2.2.1.length).1:=by
   unfold aN3;split
   ·exact aE7 (List.take_sublist _ _)
   ·exact Nat.le_refl _
  have hy:(bI6 s x).length<=6:=aXY h6 _
  rw[oX,oX]
  have e1:=lX (bI6 s x)
  have e2:bC aJ3 (s.2.2.2.2.2.1++[(m,aN3 s.2.2.2.2.1 (rQ s.2.2.1 x s.2.2.1.length).1)])=bC aJ3 s.2.2.2.2.2.1+(1+(0+bC aF (aN3 s.2.2.2.2.1 (rQ s.2.2.1 x s.2.2.1.length).1))):=by
   rw[show bC aJ3 _=_ from bVR _ _,show bC aJ3 [(m,aN3 s.2.2.2.2.1 (rQ s.2.2.1 x s.2.2.1.length).1)]=_ from bW8 _];rfl
  unfold bIM
  dsimp only
  rw[e2]
  split<;>simp only[List.length_nil]<;>omega
 ·omega
theorem cEN (s:aR) (m:Int):bC aB (aB6 s m)<=bC aB s+100:=by
 unfold aB6;split
 ·rename_i h
  have hm:=((bO _).1 ((cA s).1 h.1).1).2.1
  have h4:=((cA s).1 h.1).2.2.2.1
  have hx:((s.2.2.2.2.2.1.getD (kC s.2.2.2.2.2.1 m).toNat (aK aJ)).2.getD 0 []).length<=6:=by
   by_cases hi:(kC s.2.2.2.2.2.1 m).toNat<s.2.2.2.2.2.1.length
   ·exact aX5 (aPQ h.1 hi).2
   ·rw[bWX (l:=s.2.2.2.2.2.1) (by omega)];exact Nat.zero_le _
  have h6:=aJV s.2.2.1 _ hx s.2.2.1.length
  have hl:=zT s.2.2.1 ((s.2.2.2.2.2.1.getD (kC s.2.2.2.2.2.1 m).toNat (aK aJ)).2.getD 0 []) s.2.2.1.length
  have hr:bC aF (rQ s.2.2.1 ((s.2.2.2.2.2.1.getD (kC s.2.2.2.2.2.1 m).toNat (aK aJ)).2.getD 0 []) s.2.2.1.length).1<=9+9 * 6:=bMX (by omega) h6
  rw[oX,oX]
  dsimp only
  omega
 ·omega
theorem cGL (s:aR) (m:Int) (t:List Int):bC aB (zL s m t)<=bC aB s+100:=by
 unfold zL;split
 ·rename_i h
  unfold bBD at h
  simp only[Bool.and_eq_true] at h
  have hd:(pP s m t).1.length<=6:=aX5 h.2.2.2
  have hb:(aBA s.2.2.1 (yO s m) (pP s m t).1).2.1.length<=6:=bTP _ _ _ _ hd _
  have hs:bC aJ3 (s.2.2.2.2.2.1.take (kC s.2.2.2.2.2.1 m).toNat++s.2.2.2.2.2.1.drop ((kC s.2.2.2.2.2.1 m).toNat+1))<=bC aJ3 s.2.2.2.2.2.1:=by
   refine aE7 ?_
   have h1:(s.2.2.2.2.2.1.drop ((kC s.2.2.2.2.2.1 m).toNat+1)).Sublist (s.2.2.2.2.2.1.drop (kC s.2.2.2.2.2.1 m).toNat):=by
    rw[<-List.drop_drop];exact List.drop_sublist _ _
   have h2:=(List.Sublist.refl (s.2.2.2.2.2.1.take (kC s.2.2.2.2.2.1 m).toNat)).append h1
   rwa [List.take_append_drop] at h2
  have hg:=bH3 (e:=253) s.2.2.2.2.2.2.2.2.2.2.2.1 (aBA s.2.2.1 (yO s m) (pP s m t).1).1
  rw[oX,oX]
  unfold bP3 uE
  dsimp only
  have hg':bC aF (iI s.2.2.2.2.2.2.2.2.2.2.2.1 (aBA s.2.2.1 (yO s m) (pP s m t).1).1)<=bC aF s.2.2.2.2.2.2.2.2.2.2.2.1:=hg
  simp only[List.length_nil]
  have e0:bC aF ([]:cT)=0:=rfl
  rw[e0]
  omega
 ·omega
theorem cGF (s:aR) (v:List Int) (h:v.length<=6):bC aB (bMZ s v)<=bC aB s+6:=by rw[oX,oX];unfold bMZ;dsimp only;omega
theorem cHM (s:aR) (v:List Int) (h:v.length<=6):bC aB (bMW s v)<=bC aB s+6:=by rw[oX,oX];unfold bMW;dsimp only;omega
theorem cIB (s:aR) (v:List Int) (h:v.length<=6):bC aB (bO7 s v)<=bC aB s+6:=by rw[oX,oX];unfold bO7;dsimp only;omega
theorem bQP (s:aR) (v:List Int) (h:v.length<=6):bC aB (aIH s v)<=bC aB s+6:=by rw[oX,oX];unfold aIH;dsimp only;omega
theorem bZO (p:aW) (s:Int):bC aB (fH p s)<=bC aB (oD p s)+110:=by
 unfold fH
 split
 ·have:=cGF (oD p s) _ (bJE (p.2.2.1.getD (s - 1).toNat (aK aD)));omega
 split
 ·have:=cHV (oD p s) (bB p s).2 (if s=0 then(p.1.getD (bB p s).2.toNat (aK aL)).1 else(oD p s).2.2.2.2.2.2.2.1) (p.1.getD (bB p s).2.toNat (aK aL)).2;omega
 split
 ·have:=cHM (oD p s) [] (Nat.zero_le _);omega
 split
 ·have:=cIB (oD p s) _ (bJE (p.2.2.2.getD s.toNat (aK aD)));omega
 split
 ·have:=cEN (oD p s) (bB p s).2;omega
 split
 ·have h1:=cGL (oD p s) (bB p s).2 (p.1.getD (bB p s).2.toNat (aK aL)).2
  have h2:=bQP (zL (oD p s) (bB p s).2 (p.1.getD (bB p s).2.toNat (aK aL)).2) [] (Nat.zero_le _)
  split<;>omega
 split
 ·have:=bQP (oD p s) [] (Nat.zero_le _);omega
 ·omega
theorem cEK (p:aW) (s:Int):bC aI (nI p s)<=bC aI p.2.2.1+7:=by
 unfold nI
 split
 ·exact aSW _ (aK aD) _ _ _ fun _=>Nat.le_trans (bWO _) (Nat.le_add_right _ _)
 split
 ·exact aSW _ (aK aD) _ _ _ fun _=>bOQ _ _
 ·omega
theorem cDM (p:aW) (s:Int):bC aI (nD p s)<=bC aI p.2.2.2+7:=by
 unfold nD
 split
 ·exact aSW _ (aK aD) _ _ _ fun _=>Nat.le_trans (bWO _) (Nat.le_add_right _ _)
 split
 ·exact aSW _ (aK aD) _ _ _ fun _=>bOQ _ _
 ·omega
theorem aJ2 (p:aW):bC aE p=bC aO p.1+(bC (.slice 142 aB) p.2.1+(bC aI p.2.2.1+bC aI p.2.2.2)):=rfl
theorem bRN (p:aW) (s:Int):bC aE (gJ p s)<=bC aE p+200:=by
 unfold gJ;split
 ·rw[aJ2,aJ2]
  dsimp only
  have h1:=cEK p s
  have h2:=cDM p s
  have h3:bC aB (uL (fH p s) ((fH p s).1+1))=bC aB (fH p s):=by rw[oX,oX];rfl
  have h4:=bZO p s
  have h5:=aSW (e:=142) (t:=aB) (uL (fH p s) ((fH p s).1+1)) (aK aB) 110 p.2.1 s.toNat fun _=>by rw[h3];exact h4
  omega
 ·omega
theorem bS6 (p:aW):(l m:List Int)->aCL p (l++m)=aCL (aCL p l) m
 | [],_=>rfl
 | s::l,m=>bS6 (gJ p s) l m
theorem cDE (p:aW) (l:List Int) (s:Int):aCL p (l++[s])=gJ (aCL p l) s:=bS6 p l [s]
theorem bXB (p:aW):(l:List Int)->bC aE (aCL p l)<=bC aE p+200 * l.length
 | []=>Nat.le_refl _
 | s::l=>by
  have h1:=bXB (gJ p s) l
  have h2:=bRN p s
  show bC aE (aCL (gJ p s) l)<=_
  rw[List.length_cons];omega
noncomputable section
def bRK (s:aR):Nat:=s.2.1.length - s.1.toNat
def cJ4 (p:aW):Int:=(((p.2.1.map bRK).sum:Nat):Int)
theorem bKR {α:Type} (f g:α->Nat):(l:List α)->(∀x∈l,f x<=g x)->(l.map f).sum<=(l.map g).sum
 | [],_=>Nat.le_refl _
 | a::l,h=>by
  have h1:=h a (by simp)
  have h2:=bKR f g l fun x hx=>h x (by simp[hx])
  simp only[List.map_cons,List.sum_cons];omega
end
set_option maxRecDepth 100000
theorem bY0 {p:aW} {s:Int} (h:jC p s=false):p=gJ p s:=by unfold gJ;rw[if_neg (by rw[h];simp)]
theorem aDF {p:aW} {s:Int} (h:jC p s=true):nQ p=true/\0<=s/\s<(p.2.1.length:Int):=by
 unfold jC at h;split at h
 ·assumption
 ·cases h
theorem aIA {p:aW} {s:Int} (h:jC p s=true):((bB p s).1=1->0<s)/\((bB p s).1=3->s<(p.2.1.length:Int) - 1)/\((bB p s).1=4->s<(p.2.1.length:Int) - 1)/\((bB p s).1=7->0<s)/\¬(bB p s).1=0:=by
 obtain⟨h1,h2,h3⟩:=aDF h
 refine⟨fun k=>?_,fun k=>?_,fun k=>?_,fun k=>?_,fun k=>?_⟩
 ·rw[bTX h1 h2 h3 k,Bool.and_eq_true,decide_eq_true_eq] at h;exact h.1
 ·rw[cD3 h1 h2 h3 k,Bool.and_eq_true,decide_eq_true_eq] at h;exact h.1
 ·rw[bTZ h1 h2 h3 k,Bool.and_eq_true,decide_eq_true_eq] at h;exact h.1
 ·rw[cD1 h1 h2 h3 k,Bool.and_eq_true,decide_eq_true_eq] at h;exact h.1
 ·rw[<-cKD (p:=p) (s:=s) (by omega)] at h;cases h
theorem cM5 {p:aW} {s:Int} (h:jC p s=true):0<=(bB p s).2/\(bB p s).2<(p.1.length:Int):=by
 obtain⟨h1,h2,h3⟩:=aDF h
 have hk:=(aIA h).2.2.2.2
 have hs:=(kW.1 h1).2.2.2 s.toNat (by omega)
 unfold bB at hk⊢
 split at hk
 ·rename_i hh
  rw[if_pos hh]
  exact hs.2.2 _ (by omega)
 ·exact absurd rfl hk
theorem bMN (s:aR) (m:Int) (x t:List Int):(aF2 s m x t).1=s.1:=by unfold aF2;split<;>rfl
theorem bG0 (s:aR) (m:Int):(aB6 s m).1=s.1:=by unfold aB6;split<;>rfl
theorem bC9 (s:aR) (m:Int) (t:List Int):(zL s m t).1=s.1:=by unfold zL;split<;>rfl
theorem cB7 {p:aW} {s:Int} (h:jC p s=true) (k:(bB p s).1=1):(p.1,List.set p.2.1 s.toNat (uL (bMZ (oD p s) (aE1 (p.2.2.1.getD (s - 1).toNat (aK aD))).2.1.2) ((oD p s).1+1)),List.set p.2.2.1 (s - 1).toNat (aE1 (p.2.2.1.getD (s - 1).toNat (aK aD))).1,p.2.2.2)=gJ p s:=by
 unfold gJ;rw[if_pos h];unfold fH nI nD;rw[k];rfl
theorem cEP {p:aW} {s:Int} (h:jC p s=true) (k:(bB p s).1=2) (h0:s=0) :
  (p.1,List.set p.2.1 s.toNat (uL (aF2 (oD p s) (bB p s).2 (p.1.getD (bB p s).2.toNat (aK aL)).1 (p.1.getD (bB p s).2.toNat (aK aL)).2) ((aF2 (oD p s) (bB p s).2 (p.1.getD (bB p s).2.toNat (aK aL)).1 (p.1.getD (bB p s).2.toNat (aK aL)).2).1+1)),p.2.2.1,p.2.2.2)=gJ p s:=by
 unfold gJ;rw[if_pos h];unfold fH nI nD;rw[k,if_pos h0];rfl
theorem bWM {p:aW} {s:Int} (h:jC p s=true) (k:(bB p s).1=2) (h0:¬s=0) :
  (p.1,List.set p.2.1 s.toNat (uL (aF2 (oD p s) (bB p s).2 (oD p s).2.2.2.2.2.2.2.1 (p.1.getD (bB p s).2.toNat (aK aL)).2) ((aF2 (oD p s) (bB p s).2 (oD p s).2.2.2.2.2.2.2.1 (p.1.getD (bB p s).2.toNat (aK aL)).2).1+1)),p.2.2.1,p.2.2.2)=gJ p s:=by
 unfold gJ;rw[if_pos h];unfold fH nI nD;rw[k,if_neg h0];rfl
theorem cEO {p:aW} {s:Int} (h:jC p s=true) (k:(bB p s).1=3):(p.1,List.set p.2.1 s.toNat (uL (bMW (oD p s) []) ((oD p s).1+1)),List.set p.2.2.1 s.toNat (aC5 (p.2.2.1.getD s.toNat (aK aD)) ((bB p s).2,(oD p s).2.2.2.2.2.2.2.2.1)).1,p.2.2.2)=gJ p s:=by
 unfold gJ;rw[if_pos h];unfold fH nI nD;rw[k];rfl
theorem cBM {p:aW} {s:Int} (h:jC p s=true) (k:(bB p s).1=4):(p.1,List.set p.2.1 s.toNat (uL (bO7 (oD p s) (aE1 (p.2.2.2.getD s.toNat (aK aD))).2.1.2) ((oD p s).1+1)),p.2.2.1,List.set p.2.2.2 s.toNat (aE1 (p.2.2.2.getD s.toNat (aK aD))).1)=gJ p s:=by
 unfold gJ;rw[if_pos h];unfold fH nI nD;rw[k];rfl
theorem cEY {p:aW} {s:Int} (h:jC p s=true) (k:(bB p s).1=5):(p.1,List.set p.2.1 s.toNat (uL (aB6 (oD p s) (bB p s).2) ((aB6 (oD p s) (bB p s).2).1+1)),p.2.2.1,p.2.2.2)=gJ p s:=by
 unfold gJ;rw[if_pos h];unfold fH nI nD;rw[k];rfl
theorem cDL {p:aW} {s:Int} (h:jC p s=true) (k:(bB p s).1=6) (h0:s=0) :
  (p.1,List.set p.2.1 s.toNat (uL (aIH (zL (oD p s) (bB p s).2 (p.1.getD (bB p s).2.toNat (aK aL)).2) []) ((zL (oD p s) (bB p s).2 (p.1.getD (bB p s).2.toNat (aK aL)).2).1+1)),p.2.2.1,p.2.2.2)=gJ p s:=by
 unfold gJ;rw[if_pos h];unfold fH nI nD;simp only[k,if_pos h0];rfl
theorem bX4 {p:aW} {s:Int} (h:jC p s=true) (k:(bB p s).1=6) (h0:¬s=0) :
  (p.1,List.set p.2.1 s.toNat (uL (zL (oD p s) (bB p s).2 (p.1.getD (bB p s).2.toNat (aK aL)).2) ((zL (oD p s) (bB p s).2 (p.1.getD (bB p s).2.toNat (aK aL)).2).1+1)),p.2.2.1,p.2.2.2)=gJ p s:=by
 unfold gJ;rw[if_pos h];unfold fH nI nD;simp only[k,if_neg h0];rfl
theorem cBC {p:aW} {s:Int} (h:jC p s=true) (k:(bB p s).1=7):(p.1,List.set p.2.1 s.toNat (uL (aIH (oD p s) []) ((oD p s).1+1)),p.2.2.1,List.set p.2.2.2 (s - 1).toNat (aC5 (p.2.2.2.getD (s - 1).toNat (aK aD)) ((bB p s).2,(oD p s).2.2.2.2.2.2.2.2.2.2.1)).1)=gJ p s:=by
 unfold gJ;rw[if_pos h];unfold fH nI nD;rw[k];rfl
theorem cCL {p:aW} {s:Int} (h:jC p s=true) (h1:¬(bB p s).1=1) (h2:¬(bB p s).1=2) (h3:¬(bB p s).1=3) (h4:¬(bB p s).1=4) (h5:¬(bB p s).1=5) (h6:¬(bB p s).1=6) (h7:¬(bB p s).1=7) :
  (p.1,List.set p.2.1 s.toNat (uL (oD p s) ((oD p s).1+1)),p.2.2.1,p.2.2.2)=gJ p s:=by
 unfold gJ;rw[if_pos h];unfold fH nI nD;simp only[if_neg h1,if_neg h2,if_neg h3,if_neg h4,if_neg h5,if_neg h6,if_neg h7]
noncomputable def aW2:Con:=⟨116,(.cMV aE tI),aE,[.val ⟨true,aE,[]⟩,.val ⟨false,tI,[]⟩],[⟨true,aE,[0,0,0,0]⟩],false,none,
 ((fun x=>bC aE x.1<=1000000000):(aW×Int)->Prop),
 ((fun x=>gJ x.1 x.2):(aW×Int)->(aW))⟩
def bP0:T:=nC (fQ aE) <| cD 1 0 <| dL 2 3 aZ <| qD gT bW <| qD gT bW <| cD 2 0 <| nE (kL 6) bF 7 (kK bW 147 aD aI zH 8 <| cH 147 aD aI zH 8 <| cD 3 10 <| kK bW 147 aD aI zH 12 <| sZ 147 aD (aBL aI aD) [zH,fE,oY aD aM 11] <| uN 5 gT bW <| qF aB tI aB [gT,bW,fC,bN 1 5,bN 2 5,bN 3 5,bN 4 5,bN 5 5,bN 6 5,prA aM 1 (dZ (aAE aD aM) 11),dO aB 8 5] <| uR aE [nT,iR,dK,jD 3 1]) <| iL (kL 6) 2 8 (nE bW aN 9 (bZ 138 aL aO nT aBM <| bZ 138 aL aO nT aBM <| bZ 138 aL aO nT aBM <| bZ 138 aL aO nT aBM <| gQ 4 qI [fF,aBM,aBG 11,wK 13] <| uN 14 gT bW <| qF aB tI aB [gT,bW,fC,mW aB 14] <| iG aE nT iR (jD 2 1)) <| bZ 138 aL aO nT aBM <| bZ 138 aL aO nT aBM <| gQ 4 qI [fF,aBM,bN 7 5,wK 11] <| uN 12 gT bW <| qF aB tI aB [gT,bW,eM,mW aB 12] <| iG aE nT fC (jD 2 1)) <| iL (kL 6) 3 9 (bZ 147 aD aI zH bW <| bZ 147 aD aI zH bW <| sX 5 aD aM [cO,aBM,bN 8 5] <| bZ 147 aD aI zH bW <| sZ 147 aD (aBL aI aD) [zH,bW,mM aD 12] <| uN 5 gT bW <| qF aB tI aB [gT,bW,fC,bN 1 5,bN 2 5,bN 3 5,bN 4 5,bN 5 5,bN 6 5,bN 7 5,bA,dO aB 9 5] <| uR aE [nT,iR,dK,jD 3 1]) <| iL (kL 6) 4 10 (bZ 147 aD aI (jD 3 1) bW <| bZ 147 aD aI (jD 3 1) bW <| cD 3 12 <| bZ 147 aD aI (jD 3 1) bW <| sZ 147 aD (aBL aI aD) [jD 3 1,bW,oY aD aM 13] <| uN 5 gT bW <| qF aB tI aB [gT,bW,gM,bN 1 5,bN 2 5,bN 3 5,bN 4 5,bN 5 5,bN 6 5,bN 7 5,bN 8 5,prA aM 1 (dZ (aAE aD aM) 13),dO aB 10 5] <| uR aE [nT,nJ,zH,fC]) <| iL (kL 6) 5 11 (dF 6 aB fF aBM <| uN 12 gT bW <| qF aB tI aB [gT,bW,eM,mW aB 12] <| iG aE nT fC (jD 2 1)) <| iL (kL 6) 6 12 (bZ 138 aL aO nT aBM <| bZ 138 aL aO nT aBM <| sX 7 aB aM [fF,aBM,wK 14] <| nE bW aN 16 (uN 15 gT bW <| qF aB tI aB [gT,bW,iR,bN 1 15,bN 2 15,bN 3 15,bN 4 15,bN 5 15,bN 6 15,bN 7 15,bN 8 15,bN 9 15,bA,dO aB 11 15] <| iG aE nT kA (jD 2 1)) <| uN 15 gT bW <| qF aB tI aB [gT,bW,iR,mW aB 15] <| iG aE nT kA (jD 2 1)) <| iL (kL 6) 7 13 (lL bW <| kK bW 147 aD aI (jD 3 1) 15 <| cH 147 aD aI (jD 3 1) 15 <| sX 5 aD aM [iR,aBM,bN 10 5] <| cH 147 aD aI (jD 3 1) 14 <| sZ 147 aD (aBL aI aD) [jD 3 1,dK,mM aD 18] <| uN 5 gT bW <| qF aB tI aB [gT,bW,wX,bN 1 5,bN 2 5,bN 3 5,bN 4 5,bN 5 5,bN 6 5,bN 7 5,bN 8 5,bN 9 5,bA,dO aB 11 5] <| uR aE [nT,aD9,zH,qJ]) <| uN 5 gT bW <| qF aB tI aB [gT,bW,dK,mW aB 5] <| iG aE nT gM (jD 2 1)
set_option maxHeartbeats 2000000 in
theorem bPT:Con.Holds Tryz.prog aW2:=tk ⟨[],[(2964,28016,[],[27,28,29,30,31,32,33,34,35]),(2964,20014,[],[27,28,29,30,31,32,33,34,35]),(2972,24010,[95],[]),(2966,24016,[],[28]),(2962,96014,[],[27,28,29,30,31,32,33,34,35]),(2954,448018,[],[36]),(2960,384014,[160],[]),(2954,384022,[],[28])]⟩ bP0 (aC aWT (aC bQO (aC bPZ (aC cHW (aC bOI (aC cCZ (aC bI7 (aC bON aH)))))))) fun(x:aW×Int) hx hp=>by
 dsimp only [aW2] at hx hp⊢
 obtain⟨p,s⟩:=x
 delta bP0 aFK aPZ aUP bOE aLZ bGS aJD aKZ;refine dR ?_
 refine dQ ?_
 refine⟨hp,fun _=>⟨fun h=>bY0 h,fun h=>?_⟩⟩
 obtain⟨z1,z1s,z2,z2m,z3,z3m,z4,z4m⟩:=aVR (b:=p.1) (st:=p.2.1) (a:=p.2.2.1) (r:=p.2.2.2) hp
 obtain⟨h1,h2,h3⟩:=aDF h
 have hk:=aIA h
 have hm:=cM5 h
 have hpo:=(kW.1 h1).1
 have hst:=(kW.1 h1).2.2.2 s.toNat (by omega)
 have zs:bC aB (List.getD p.2.1 s.toNat (aK aB))<=1000000000:=by rw[aP (show s.toNat<p.2.1.length by omega)];exact z2m _ (List.getElem_mem _)
 have za:∀k,k<p.2.2.1.length->bC aD (List.getD p.2.2.1 k (aK aD))<=1000000000:=fun k hk=>by rw[aP hk];exact z3m _ (List.getElem_mem _)
 have zr:∀k,k<p.2.2.2.length->bC aD (List.getD p.2.2.2 k (aK aD))<=1000000000:=fun k hk=>by rw[aP hk];exact z4m _ (List.getElem_mem _)
 have hpc:=((cA _).1 hst.1).2.1
 have hpl:List.length (List.getD p.2.1 s.toNat (aK aB)).2.1<=1000000000:=(wQ (t:=aB) zs).2.1.1
 (repeat' first|intro _|(with_reducible apply And.intro))
 all_goals first|omega|exact zs|exact za _ (by omega)|exact zr _ (by omega)|(rw[bMN];omega)|(rw[bG0];omega)|(rw[bC9];omega)|skip
 all_goals first|exact cB7 h (by assumption)|exact cEO h (by assumption)|exact cBM h (by assumption)|exact cEY h (by assumption)|exact cBC h (by assumption)|exact cEP h (by assumption) (by assumption)|exact bWM h (by assumption) (by assumption)|exact cDL h (by assumption) (by assumption)|exact bX4 h (by assumption) (by assumption)|exact cCL h (by assumption) (by assumption) (by assumption) (by assumption) (by assumption) (by assumption) (by assumption)|skip
noncomputable def aOU:Con:=⟨117,(.cMV aE tI),aE,[.val ⟨true,aE,[]⟩,.val ⟨false,tI,[]⟩],[⟨true,aE,[2,3,3,3]⟩],true,none,
 ((fun x=>bC aE x.1<=1000000000):(aW×Int)->Prop),
 ((fun x=>gJ x.1 x.2):(aW×Int)->(aW))⟩
def bOU:T:=nC (fQ aE) <| cD 1 0 <| dL 2 3 aZ <| cD 2 0 <| qD gT bW <| qD gT bW <| nE nZ bF 7 (kK bW 147 aD aI (gS aE 2 aE 0) 8 <| cD 3 9 <| kK bW 147 aD aI zH 11 <| sZ 147 aD (aBL aI aD) [zH,cO,oY aD aM 10] <| uN 6 gT bW <| qF aB tI aB [gT,bW,dK,bN 1 6,bN 2 6,bN 3 6,bN 4 6,bN 5 6,bN 6 6,prA aM 1 (dZ (aAE aD aM) 10),dO aB 8 6] <| uR aE [nT,gM,eM,jD 3 1]) <| iL nZ 2 8 (nE bW aN 9 (bZ 138 aL aO (aB7 aO eD aE) qZ <| bZ 138 aL aO (aB7 aO eD aE) qZ <| gQ 4 qI [cQ,qZ,aBG 10,wK 11] <| uN 12 gT bW <| qF aB tI aB [gT,bW,eM,mW aB 12] <| iG aE nT fC (jD 2 1)) <| bZ 138 aL aO (aB7 aO eD aE) qZ <| gQ 4 qI [cQ,qZ,bN 7 6,wK 10] <| uN 11 gT bW <| qF aB tI aB [gT,bW,fE,mW aB 11] <| iG aE nT dK (jD 2 1)) <| iL nZ 3 9 (bZ 147 aD aI (gS aE 2 aE 0) bW <| sX 5 aD aM [cI,qZ,bN 8 6] <| bZ 147 aD aI zH bW <| sZ 147 aD (aBL aI aD) [zH,bW,mM aD 11] <| uN 6 gT bW <| qF aB tI aB [gT,bW,dK,bN 1 6,bN 2 6,bN 3 6,bN 4 6,bN 5 6,bN 6 6,bN 7 6,bA,dO aB 9 6] <| uR aE [nT,gM,eM,jD 3 1]) <| iL nZ 4 10 (bZ 147 aD aI (xQ aE 3 aE) bW <| cD 3 11 <| bZ 147 aD aI (jD 3 1) bW <| sZ 147 aD (aBL aI aD) [jD 3 1,bW,oY aD aM 12] <| uN 6 gT bW <| qF aB tI aB [gT,bW,fC,bN 1 6,bN 2 6,bN 3 6,bN 4 6,bN 5 6,bN 6 6,bN 7 6,bN 8 6,prA aM 1 (dZ (aAE aD aM) 12),dO aB 10 6] <| uR aE [nT,iR,zH,dK]) <| iL nZ 5 11 (dF 6 aB cQ qZ <| uN 12 gT bW <| qF aB tI aB [gT,bW,eM,mW aB 12] <| iG aE nT fC (jD 2 1)) <| iL nZ 6 12 (bZ 138 aL aO (aB7 aO eD aE) qZ <| sX 7 aB aM [cQ,qZ,wK 13] <| nE bW aN 15 (uN 14 gT bW <| qF aB tI aB [gT,bW,gM,bN 1 14,bN 2 14,bN 3 14,bN 4 14,bN 5 14,bN 6 14,bN 7 14,bN 8 14,bN 9 14,bA,dO aB 11 14] <| iG aE nT nJ (jD 2 1)) <| uN 14 gT bW <| qF aB tI aB [gT,bW,gM,mW aB 14] <| iG aE nT nJ (jD 2 1)) <| iL nZ 7 13 (kK bW 147 aD aI (xQ aE 3 aE) 14 <| sX 5 aD aM [fC,qZ,bN 10 6] <| kK bW 147 aD aI (jD 3 1) 17 <| sZ 147 aD (aBL aI aD) [jD 3 1,iR,mM aD 16] <| uN 6 gT bW <| qF aB tI aB [gT,bW,qJ,bN 1 6,bN 2 6,bN 3 6,bN 4 6,bN 5 6,bN 6 6,bN 7 6,bN 8 6,bN 9 6,bA,dO aB 11 6] <| uR aE [nT,qS,zH,kA]) <| uN 6 gT bW <| qF aB tI aB [gT,bW,dK,mW aB 6] <| iG aE nT gM (jD 2 1)
set_option maxHeartbeats 2000000 in
theorem bD0:Con.Holds Tryz.prog aOU:=tk ⟨[],[(2970,24012,[],[29]),(2964,24015,[],[30]),(2962,96014,[],[27,28,29,30,31,32,33,34,35]),(2954,448017,[],[27]),(2958,384017,[],[29]),(2952,384021,[],[30])]⟩ bOU (aC aPT (aC bSG (aC bSH (aC cGR (aC bLY (aC cEH (aC bI2 (aC bMK aH)))))))) fun(x:aW×Int) hx hp=>by
 dsimp only [aOU] at hx hp⊢
 obtain⟨p,s⟩:=x
 delta bOU aDW aPC aWD bNJ aLR bDS aIN aMK;refine dR ?_
 refine dQ ?_
 refine⟨hp,fun _=>⟨fun h=>bY0 h,fun h=>?_⟩⟩
 obtain⟨z1,z1s,z2,z2m,z3,z3m,z4,z4m⟩:=aVR (b:=p.1) (st:=p.2.1) (a:=p.2.2.1) (r:=p.2.2.2) hp
 obtain⟨h1,h2,h3⟩:=aDF h
 have hk:=aIA h
 have hm:=cM5 h
 have hpo:=(kW.1 h1).1
 have hst:=(kW.1 h1).2.2.2 s.toNat (by omega)
 have zs:bC aB (List.getD p.2.1 s.toNat (aK aB))<=1000000000:=by rw[aP (show s.toNat<p.2.1.length by omega)];exact z2m _ (List.getElem_mem _)
 have za:∀k,k<p.2.2.1.length->bC aD (List.getD p.2.2.1 k (aK aD))<=1000000000:=fun k hk=>by rw[aP hk];exact z3m _ (List.getElem_mem _)
 have zr:∀k,k<p.2.2.2.length->bC aD (List.getD p.2.2.2 k (aK aD))<=1000000000:=fun k hk=>by rw[aP hk];exact z4m _ (List.getElem_mem _)
 have hpc:=((cA _).1 hst.1).2.1
 have hpl:List.length (List.getD p.2.1 s.toNat (aK aB)).2.1<=1000000000:=(wQ (t:=aB) zs).2.1.1
 (repeat' first|intro _|(with_reducible apply And.intro))
 all_goals first|omega|exact zs|exact za _ (by omega)|exact zr _ (by omega)|(rw[bMN];omega)|(rw[bG0];omega)|(rw[bC9];omega)|skip
 all_goals first|exact cB7 h (by assumption)|exact cEO h (by assumption)|exact cBM h (by assumption)|exact cEY h (by assumption)|exact cBC h (by assumption)|exact cEP h (by assumption) (by assumption)|exact bWM h (by assumption) (by assumption)|exact cDL h (by assumption) (by assumption)|exact bX4 h (by assumption) (by assumption)|exact cCL h (by assumption) (by assumption) (by assumption) (by assumption) (by assumption) (by assumption) (by assumption)|skip
end Go.Proofs.YtfmfeplebgbpmaaGreat
