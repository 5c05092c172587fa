/- CoreR: lemmas. No conditions. -/
import Derived.Test.YtfmfeplebgbpmaaGreatPipe4
namespace Go.Proofs.YtfmfeplebgbpmaaGreat
open Go.ChangeShapes Go.WideShapes Go.ChangeAt Go.RowKit Go.Deep
set_option linter.unusedVariables false
set_option linter.unusedSimpArgs false
set_option maxRecDepth 100000
theorem wQ:{t:Ty}->{d:t.D}->bC t d<=1000000000->cAU t d:=by
 intro t
 induction t with
 | int k=>intros;trivial
 | bool=>intros;trivial
 | str=>intros;trivial
 | cMV a b iha ihb =>
  intro d h
  have h':bC a d.1+bC b d.2<=1000000000:=h
  exact⟨iha (by omega),ihb (by omega)⟩
 | slice e t ih =>
  intro l h
  exact⟨Nat.le_trans (rT (e:=e) l) h,fun x hx=>ih (Nat.le_trans (yJ (e:=e) hx) h)⟩
noncomputable def aOS:Con:=⟨243,aG,aG,[.val ⟨false,aG,[]⟩],[⟨false,aG,[2]⟩],false,none,
 ((fun x=>bC aG x<=1000000000):(cC)->Prop),
 ((fun x=>x):(cC)->(cC))⟩
def aZW:T:=iE bJ <| pX (fM aG) aG aXQ <| oJ aG 2 1 3 (cW 243 bK aG bJ aG 2 <| nC (dO bK 3 4) <| vA (rZ 243 bK) bK [pZ aM 4,dZ bK 4,qR 4,fF] <| eF (aIM 243 bK) aG aG (eT aG 2) 6 <| eJ aG 2 0 aG cM cY) (eT aG 2)
theorem bPK:Con.Holds Tryz.prog aOS:=tk ⟨[(2991,1002,[.dr 6,.dr 0,.tm 9 0,.on 3,.sl 1])],[(2981,3005,[22],[])]⟩ aZW (aC qQ aH) fun(x:cC) hx hp=>by
 dsimp only [aOS] at hx hp⊢
 have hB:=wQ (t:=aG) hp
 delta aZW nK;refine dR ?_;try with_reducible exact True.intro
 (repeat' first|intro _|(with_reducible apply And.intro))
 all_goals first|omega|(unfold maxLen;omega)|skip
 refine eY (fun k=>((k:Int),List.take k x)) (List.length x) rfl fun I μ k hk _ go=>?_
 dsimp only
 refine dQ ?_
 by_cases hkn:k<List.length x
 ·have hm:=hB.2 _ (List.getElem_mem hkn)
  have hn:=hB.1
  rw[aP hkn]
  (repeat' first|intro _|(refine go _ ?_ ?_ ?_)|(refine go _ ?_ ?_)|(with_reducible apply And.intro))
  all_goals first|omega|exact hm.2.2.2.1|(simp only[List.length_take];unfold maxLen;omega)|(simp only[List.length_take];omega)|(rw[oT hkn];rfl)
 ·(repeat' first|intro _|(refine go _ ?_ ?_ ?_)|(refine go _ ?_ ?_)|(with_reducible apply And.intro))
  all_goals first|omega|(have e:k=List.length x:=(by omega);subst e;exact List.take_length)
noncomputable def aMF:Con:=⟨140,aG,aG,[.val ⟨false,aG,[]⟩],[⟨false,aG,[2]⟩],false,none,
 ((fun x=>bC aG x<=1000000000):(cC)->Prop),
 ((fun x=>x):(cC)->(cC))⟩
def bD6:T:=gW (fM aG) aG aXQ 243 bK bJ <| oJ aG 1 2 3 (cW 243 bK aG bJ aG 1 <| cW 243 bK aG bJ aG 1 <| jM (yV 3 8) aA aA bA (dO bK 3 5) <| vA (rZ 243 bK) bK [pZ aM 4,dZ bK 4,qR 4,cQ] <| eF (aIM 243 bK) aG aG (eT aG 1) 7 <| eJ aG 1 0 aG cU cM) (eT aG 1)
theorem bDF:Con.Holds Tryz.prog aMF:=tk ⟨[(2991,1001,[.dr 6,.tm 4 0,.on 3,.sl 1])],[(2979,3007,[],[4])]⟩ bD6 aH fun(x:cC) hx hp=>by
 dsimp only [aMF] at hx hp⊢
 have hB:=wQ (t:=aG) hp
 delta bD6;refine dR ?_;try with_reducible exact True.intro
 (repeat' first|intro _|(with_reducible apply And.intro))
 all_goals first|omega|(unfold maxLen;omega)|skip
 refine eY (fun k=>((k:Int),List.take k x)) (List.length x) rfl fun I μ k hk _ go=>?_
 dsimp only
 refine dQ ?_
 by_cases hkn:k<List.length x
 ·have hm:=hB.2 _ (List.getElem_mem hkn)
  have hn:=hB.1
  rw[aP hkn]
  (repeat' first|intro _|(refine go _ ?_ ?_ ?_)|(refine go _ ?_ ?_)|(with_reducible apply And.intro))
  all_goals first|omega|(have A7:=hm.2.2.2.1;omega)|(have A7:=hm.2.2.2.1;unfold maxLen;omega)|(simp only[List.length_take];unfold maxLen;omega)|(simp only[List.length_take];omega)|(rw[oT hkn];rfl)
 ·(repeat' first|intro _|(refine go _ ?_ ?_ ?_)|(refine go _ ?_ ?_)|(with_reducible apply And.intro))
  all_goals first|omega|(have e:k=List.length x:=(by omega);subst e;exact List.take_length)
noncomputable section
set_option maxRecDepth 100000
theorem bCJ {e:TypeId} {l:cT} (h:cAU (.slice e fD) l):List.length l<=1000000000/\∀y∈l,List.length y<=1000000000:=⟨h.1,fun y hy=>(h.2 y hy).1⟩
theorem bSM {g:gI} (h:cAU aT g):aAD g:=bCJ h.1
def bXM:cP:=aK aM
def aC5 (q:bE) (x:cP):bE×Bool:=if mR q=true/\aNE x=true/\(q.2.length:Int)<q.1 then((q.1,q.2++[x]),true) else(q,false)
def aE1 (q:bE):bE×(cP×Bool):=if mR q=true/\0<q.2.length then((q.1,q.2.drop 1),q.2.getD 0 bXM,true) else(q,bXM,false)
theorem pQ {q:bE} {x:cP} (h:mR q=false\/aNE x=false\/¬(q.2.length:Int)<q.1):(q,false)=aC5 q x:=by
 unfold aC5;rw[if_neg]
 rintro⟨h1,h2,h3⟩
 rcases h with h|h|h
 ·rw[h] at h1;cases h1
 ·rw[h] at h2;cases h2
 ·exact h h3
theorem aBE {q:bE} {x:cP} (h1:mR q=true) (h2:aNE x=true) (h3:(q.2.length:Int)<q.1):((q.1,q.2++[x]),true)=aC5 q x:=by unfold aC5;rw[if_pos ⟨h1,h2,h3⟩]
theorem aPX {q:bE} (h:mR q=false\/q.2.length=0):(q,(0,[]),false)=aE1 q:=by
 unfold aE1;rw[if_neg]
 ·rfl
 rintro⟨h1,h2⟩
 rcases h with h|h
 ·rw[h] at h1;cases h1
 ·omega
theorem aDK {q:bE} (h1:mR q=true) (h2:0<q.2.length):((q.1,q.2.drop 1),q.2.getD 0 bXM,true)=aE1 q:=by unfold aE1;rw[if_pos ⟨h1,h2⟩]
theorem aQ6 {x:cP} (h:tQ x.2=false\/x.1<0\/4<x.1):aNE x=false:=by
 refine Bool.eq_false_iff.2 fun hh=>?_
 rw[oR] at hh
 rcases h with h|h
 ·rw[h] at hh;cases hh.1
 ·omega
theorem bM5 {x:cP} (h:tQ x.2=true) (h2:0<=x.1) (h3:x.1<5):aNE x=true:=(oR _).2 ⟨h,h2,h3⟩
theorem aOO {x:cP} (h:aNE x=true):x.2.length<=6:=((dH _).1 ((oR _).1 h).1).2.1
theorem aR3 {q:bE} (h:mR q=true):(q.2.length:Int)<=q.1/\q.2.length<=5:=by have:=(kW.1 h).1;omega
theorem aI3 {q:bE} (h:mR q=true) (h2:0<q.2.length):(q.2.getD 0 (aK aM)).2.length<=6:=aOO ((kW.1 h).2 0 h2)
def aAZ (l:List eC) (m:Int):Nat->Int
 | 0=>-1
 | k+1=>if aAZ l m k = -1/\(l.getD k (aK aJ)).1=m then(k:Int) else aAZ l m k
def kC (l:List eC) (m:Int):Int:=aAZ l m l.length
theorem aP9 (l:List eC) (m:Int):(k:Nat)->-1<=aAZ l m k/\aAZ l m k<k
 | 0=>by unfold aAZ;omega
 | k+1=>by
  have:=aP9 l m k
  unfold aAZ;split<;>omega
theorem bCX {l : List eC} {m : Int} : {k n : Nat} -> k <= n -> aAZ l m k ≠ -1 -> aAZ l m n = aAZ l m k
  | k, 0, h, _ => by have : k = 0 := by omega
                     subst this; rfl
  | k, n + 1, h, hk => by
    rcases Nat.lt_or_eq_of_le h with h | rfl
    · have e := bCX (Nat.le_of_lt_succ h) hk
      rw [aAZ, if_neg (fun hh => hk (e ▸ hh.1)), e]
    · rfl
theorem aY1 {l:List eC} {m:Int} {k:Nat} (hk:k<l.length) (h:aAZ l m k = -1) (hm:(l.getD k (aK aJ)).1=m):(k:Int)=kC l m:=by
 have e:aAZ l m (k+1)=k:=by rw[aAZ,if_pos ⟨h,hm⟩]
 unfold kC
 rw[bCX (k:=k+1) hk (by omega),e]
theorem aXI {l:List eC} {m:Int} {k:Nat} (h:aAZ l m k = -1) (hm:¬(l.getD k (aK aJ)).1=m):aAZ l m (k+1) = -1:=by rw[aAZ,if_neg (fun hh=>hm hh.2),h]
def aJG:Con:=⟨175,aO,aO,[.val ⟨false,aO,[]⟩],[⟨false,aO,[2]⟩],false,none,
 ((fun x=>bC aO x<=1000000000):(iC)->Prop),
 ((fun x=>x):(iC)->(iC))⟩
def aS2:T:=vB aL bJ <| pX (fM aO) aO mZ <| oJ aO 2 1 3 (cW 138 aL aO bJ aO 2 <| eK 0 (aBG 4) 0 (wK 4) <| mF (rZ 138 aL) aA aA 5 6 <| eF (aIM 138 aL) aO aO (eT aO 2) 7 <| eJ aO 2 0 aO cU cM) (eT aO 2)
theorem bI9:Con.Holds Tryz.prog aJG:=tk ⟨[(2991,1002,[.dr 6,.dr 0,.tm 9 0,.on 3,.sl 1])],[(2981,3005,[19,16],[])]⟩ aS2 (aC qQ aH) fun(x:iC) hx hp=>by
 dsimp only [aJG] at hx hp⊢
 have hB:=wQ (t:=aO) hp
 delta aS2 nK;refine dR ?_;try with_reducible exact True.intro
 (repeat' first|intro _|(with_reducible apply And.intro))
 all_goals first|omega|(unfold maxLen;omega)|skip
 refine eY (fun k=>((k:Int),List.take k x)) (List.length x) rfl fun I μ k hk _ go=>?_
 dsimp only
 refine dQ ?_
 by_cases hkn:k<List.length x
 ·have hm:=hB.2 _ (List.getElem_mem hkn)
  have hn:=hB.1
  rw[aP hkn]
  (repeat' first|intro _|(refine go _ ?_ ?_ ?_)|(refine go _ ?_ ?_)|(with_reducible apply And.intro))
  all_goals first|omega|exact hm.1.1|exact hm.2.1|(simp only[List.length_take];unfold maxLen;omega)|(simp only[List.length_take];omega)|(rw[oT hkn];rfl)
 ·(repeat' first|intro _|(refine go _ ?_ ?_ ?_)|(refine go _ ?_ ?_)|(with_reducible apply And.intro))
  all_goals first|omega|(have e:k=List.length x:=(by omega);subst e;exact List.take_length)
def zP:Con:=⟨177,aD,aD,[.val ⟨true,aD,[]⟩],[⟨true,aD,[0,2]⟩],false,none,
 ((fun x=>bC aD x<=1000000000):(bE)->Prop),
 ((fun x=>x):(bE)->(bE))⟩
def aSF:T:=pS aM tY <| pX aD bQ (.nl 249 aM) <| mH bQ 2 1 3 (cW 249 aM bQ tY bQ 2 <| nC (iA 4) <| xB (rZ 249 aM) aA (kV 4) 5 <| tH 249 aM bQ bQ (nL 2) 6 <| eJ bQ 2 0 bQ cM cY) <| jB tI bQ (cB bQ 0) (nL 2)
theorem aIP:Con.Holds Tryz.prog zP:=tk ⟨[(2991,1002,iZ 9 6++[.dr 1,.dr 0,.tm 12 0,.sl 6])],[(2981,3005,[22],[])]⟩ aSF (aC qQ aH) fun(x:bE) hx hp=>by
 dsimp only [zP] at hx hp⊢
 obtain⟨c,l⟩:=x
 have hB:=(wQ (t:=aD) hp).2
 have hn:List.length l<=1000000000:=hB.1
 delta aSF nK;refine dR ?_;try with_reducible exact True.intro
 (repeat' first|intro _|(with_reducible apply And.intro))
 all_goals first|omega|(unfold maxLen;omega)|skip
 refine eY (fun k=>((k:Int),List.take k l)) (List.length l) rfl fun I μ k hk _ go=>?_
 dsimp only
 refine dQ ?_
 by_cases hkn:k<List.length l
 ·have hm:=hB.2 _ (List.getElem_mem hkn)
  have hn:=hB.1
  rw[aP hkn]
  (repeat' first|intro _|(refine go _ ?_ ?_ ?_)|(refine go _ ?_ ?_)|(with_reducible apply And.intro))
  all_goals first|omega|exact hm.2.1|(simp only[List.length_take];unfold maxLen;omega)|(simp only[List.length_take];omega)|(rw[oT hkn];rfl)
 ·(repeat' first|intro _|(refine go _ ?_ ?_ ?_)|(refine go _ ?_ ?_)|(with_reducible apply And.intro))
  all_goals first|omega|(have e:k=List.length l:=(by omega);subst e;exact congrArg (Prod.mk c) List.take_length)
def aED:Con:=⟨171,aD,aD,[.val ⟨true,aD,[]⟩],[⟨true,aD,[0,2]⟩],false,none,
 ((fun x=>bC aD x<=1000000000):(bE)->Prop),
 ((fun x=>x):(bE)->(bE))⟩
def bAO:T:=gW aD bQ (.nl 249 aM) 249 aM tY <| mH bQ 1 2 3 (cW 249 aM bQ tY bQ 1 <| cW 249 aM bQ tY bQ 1 <| jM (yV 3 8) aA aA bA (iA 5) <| xB (rZ 249 aM) aA (kV 4) 6 <| tH 249 aM bQ bQ (nL 1) 7 <| eJ bQ 1 0 bQ cU cM) <| jB tI bQ (cB bQ 0) (nL 1)
theorem aQ2:Con.Holds Tryz.prog aED:=tk ⟨[(2991,1001,[.dr 5,.dr 0,.tm 4 0,.on 3,.sl 4])],[(2983,3004,[27],[])]⟩ bAO aH fun(x:bE) hx hp=>by
 dsimp only [aED] at hx hp⊢
 obtain⟨c,l⟩:=x
 have hB:=(wQ (t:=aD) hp).2
 have hn:List.length l<=1000000000:=hB.1
 delta bAO;refine dR ?_;try with_reducible exact True.intro
 (repeat' first|intro _|(with_reducible apply And.intro))
 all_goals first|omega|(unfold maxLen;omega)|skip
 refine eY (fun k=>((k:Int),List.take k l)) (List.length l) rfl fun I μ k hk _ go=>?_
 dsimp only
 refine dQ ?_
 by_cases hkn:k<List.length l
 ·have hm:=hB.2 _ (List.getElem_mem hkn)
  have hn:=hB.1
  have A7:=hm.2.1
  rw[aP hkn]
  (repeat' first|intro _|(refine go _ ?_ ?_ ?_)|(refine go _ ?_ ?_)|(with_reducible apply And.intro))
  all_goals first|omega|(unfold maxLen;omega)|(simp only[List.length_take];unfold maxLen;omega)|(simp only[List.length_take];omega)|(rw[oT hkn];rfl)
 ·(repeat' first|intro _|(refine go _ ?_ ?_ ?_)|(refine go _ ?_ ?_)|(with_reducible apply And.intro))
  all_goals first|omega|(have e:k=List.length l:=(by omega);subst e;exact congrArg (Prod.mk c) List.take_length)
def bGS:Con:=⟨208,(.cMV aD aM),(.cMV aD .bool),[.val ⟨true,aD,[]⟩,.val ⟨true,aM,[]⟩],[⟨true,aD,[0,2]⟩,⟨false,.bool,[0]⟩],false,none,
 ((fun x=>bC aD x.1<=1000000000):(bE×cP)->Prop),
 ((fun x=>aC5 x.1 x.2):(bE×cP)->(bE×Bool))⟩
def bOY:T:=eK 0 (bS aD aM) 1 (bS aD aM) <| dL 2 3 (nA aD aZ) <| gH 2 (kE aD aM) 4 5 (nA aD aZ) <| pS aM (iP aD 1 aD aM) <| uD cQ (dT tI bQ aD aM) 7 (nA aD aZ) <| .call 3 (fA aD aM 2) <| xB (rZ 249 aM) aA (eI aD aM 1) 8 <| tH 249 aM bQ bQ (nL 1) 9 <| lW aD (aF0 bQ (cB bQ 1) cI) bD
theorem cCZ:Con.Holds Tryz.prog bGS:=tk ⟨[],[(2989,8008,[32],[])]⟩ bOY (aC aIP (aC aP8 (aC bFD (aC qQ aH)))) fun(x:bE×cP) hx hp=>by
 dsimp only [bGS] at hx hp⊢
 obtain⟨q,y⟩:=x
 have hB:=wQ (t:=aD) hp
 delta bOY zP aE4 aL0 nK;refine dR ?_
 refine⟨hp,fun _=>?_⟩
 (repeat' first|intro _|(with_reducible apply And.intro))
 all_goals simp only[dzx] at *
 all_goals try have Hf:=aR3 (by assumption)
 all_goals try have Hg:=aI3 (by assumption) (by omega)
 all_goals try have Hi:=aOO (by assumption)
 all_goals try have Hh:=(dH _).1 (by assumption)
 all_goals first|omega|(unfold maxLen;omega)|exact pQ (.inl (by assumption))|exact pQ (.inr (.inl (by assumption)))|exact pQ (.inr (.inr (by omega)))|exact aPX (.inl (by assumption))|exact aPX (.inr (by omega))|exact aBE (by assumption) (by assumption) (by omega)|exact aDK (by assumption) (by omega)|(rw[List.take_length];exact aDK (by assumption) (by omega))|exact pQ (.inr (.inl (aQ6 (.inl (by assumption)))))|exact pQ (.inr (.inl (aQ6 (.inr (by omega)))))|exact aBE (by assumption) (bM5 (by assumption) (by omega) (by omega)) (by omega)|skip
def zK:Con:=⟨297,(.cMV aS9 tI),tI,[.val ⟨false,aS9,[]⟩,.val ⟨false,tI,[]⟩],[⟨false,tI,[0]⟩],false,none,
 ((fun _=>True):((List eC)×Int)->Prop),
 ((fun x=>kC x.1 x.2):((List eC)×Int)->(Int))⟩
def aRU:T:=aBT aJ (fQ aS) <| zY aN <| gB bM 1 3 (nS aJ aS (fQ aS) 2 <| uD (cB aF 4) (iX aS) 5 bM <| uZ bM 0 cQ) aXF
theorem aIV:Con.Holds Tryz.prog zK:=tk ⟨[(2993,1002,[.dr 0,.tm 9 0])],[]⟩ aRU aH fun(x:(List eC)×Int) hx hp=>by
 dsimp only [zK] at hx hp⊢
 obtain⟨l,m⟩:=x
 have hm:l.length<=9223372036854775807:=hx.1.1
 delta aRU;refine dR ?_;try with_reducible exact True.intro
 (repeat' first|intro _|(with_reducible apply And.intro))
 all_goals first|omega|(unfold maxLen;omega)|skip
 refine aC6 (fun k=>(k:Int)) (fun k=>aAZ l m k = -1) (List.length l) rfl rfl fun I μ k hk hg _ go=>?_
 try dsimp only
 (refine dQ ?_;try with_reducible exact True.intro)
 (repeat' first|intro _|(refine go _ ?_ ?_ ?_)|(refine go _ ?_ ?_)|(with_reducible apply And.intro))
 all_goals first|omega|exact aY1 (by omega) hg (by assumption)|exact aXI hg (by assumption)|rfl|(have e:k=List.length l:=(by omega);subst e;exact hg.symm)
def zJ:Con:=⟨304,(.cMV aS9 tI),tI,[.val ⟨false,aS9,[]⟩,.val ⟨false,tI,[]⟩],[⟨false,tI,[0]⟩],false,none,
 ((fun _=>True):((List eC)×Int)->Prop),
 ((fun x=>kC x.1 x.2):((List eC)×Int)->(Int))⟩
def aRS:T:=jY 245 aJ (fQ aS) <| gB aZ 2 3 (nS aJ aS (fQ aS) 1 <| uD (cB aF 4) (iX aS) 5 aZ <| uZ aZ 0 cQ) aXF
theorem aJE:Con.Holds Tryz.prog zJ:=tk ⟨[(2993,1001,[.tm 5 0])],[]⟩ aRS aH fun(x:(List eC)×Int) hx hp=>by
 dsimp only [zJ] at hx hp⊢
 obtain⟨l,m⟩:=x
 have hm:l.length<=9223372036854775807:=hx.1.1
 delta aRS;refine dR ?_;try with_reducible exact True.intro
 (repeat' first|intro _|(with_reducible apply And.intro))
 all_goals first|omega|(unfold maxLen;omega)|skip
 refine aC6 (fun k=>(k:Int)) (fun k=>aAZ l m k = -1) (List.length l) rfl rfl fun I μ k hk hg _ go=>?_
 try dsimp only
 (refine dQ ?_;try with_reducible exact True.intro)
 (repeat' first|intro _|(refine go _ ?_ ?_ ?_)|(refine go _ ?_ ?_)|(with_reducible apply And.intro))
 all_goals first|omega|exact aY1 (by omega) hg (by assumption)|exact aXI hg (by assumption)|rfl|(have e:k=List.length l:=(by omega);subst e;exact hg.symm)
def bDS:Con:=⟨215,(.cMV aD aM),(.cMV aD .bool),[.val ⟨true,aD,[]⟩,.val ⟨true,aM,[]⟩],[⟨true,aD,[0,2]⟩,⟨false,.bool,[0]⟩],false,none,
 ((fun x=>bC aD x.1<=1000000000):(bE×cP)->Prop),
 ((fun x=>aC5 x.1 x.2):(bE×cP)->(bE×Bool))⟩
def bPU:T:=eK 0 (bS aD aM) 1 (bS aD aM) <| dL 2 3 (nA aD aZ) <| pS aM (iP aD 1 aD aM) <| aBJ .geq dY (dT tI bQ aD aM) 5 (nA aD aZ) <| gH 2 (fA aD aM 2) 6 7 (nA aD aZ) <| mI 3 iK (eI aD aM 1) aN 4 <| dL 8 9 (nA aD aZ) <| jM (yV 3 8) aA aA bA (fA aD aM 2) <| xB (rZ 249 aM) aA (eI aD aM 1) 10 <| tH 249 aM bQ bQ (nL 1) 11 <| lW aD (aF0 bQ (cB bQ 1) fE) bD
theorem cEH:Con.Holds Tryz.prog bDS:=tk ⟨[],[(2989,16010,[40],[])]⟩ bPU (aC aQ2 (aC aOC (aC nN (aC lV aH)))) fun(x:bE×cP) hx hp=>by
 dsimp only [bDS] at hx hp⊢
 obtain⟨q,y⟩:=x
 have hB:=wQ (t:=aD) hp
 delta bPU aED aDZ lQ kI;refine dR ?_
 refine⟨hp,fun _=>?_⟩
 (repeat' first|intro _|(with_reducible apply And.intro))
 all_goals simp only[dzx] at *
 all_goals try have Hf:=aR3 (by assumption)
 all_goals try have Hg:=aI3 (by assumption) (by omega)
 all_goals try have Hi:=aOO (by assumption)
 all_goals try have Hh:=(dH _).1 (by assumption)
 all_goals first|omega|(unfold maxLen;omega)|exact pQ (.inl (by assumption))|exact pQ (.inr (.inl (by assumption)))|exact pQ (.inr (.inr (by omega)))|exact aPX (.inl (by assumption))|exact aPX (.inr (by omega))|exact aBE (by assumption) (by assumption) (by omega)|exact aDK (by assumption) (by omega)|(rw[List.take_length];exact aDK (by assumption) (by omega))|exact pQ (.inr (.inl (aQ6 (.inl (by assumption)))))|exact pQ (.inr (.inl (aQ6 (.inr (by omega)))))|exact aBE (by assumption) (bM5 (by assumption) (by omega) (by omega)) (by omega)|skip
def bOE:Con:=⟨206,aD,(.cMV aD (.cMV aM .bool)),[.val ⟨true,aD,[]⟩],[⟨true,aD,[0,0]⟩,⟨true,aM,[0,0]⟩,⟨false,.bool,[0]⟩],false,none,
 ((fun x=>bC aD x<=1000000000):(bE)->Prop),
 ((fun x=>aE1 x):(bE)->(bE×(cP×Bool)))⟩
def bXD:T:=hZ <| cD 1 0 <| dL 2 3 (oH (aAE aD aM) [aZ,wJ aA bA,aX]) <| pS aM tY <| uD dY aN 5 (oH (aAE aD aM) [aZ,wJ aA bA,aX]) <| bZ 249 aM bQ (nL 1) aN <| bZ 249 aM bQ (nL 1) aN <| pS aM (nL 1) <| aTD 249 aM bQ (nL 1) bF 8 <| iG (aAE aD aM) (aF0 bQ (cB bQ 1) cU) cY bD
theorem cHW:Con.Holds Tryz.prog bOE:=tk ⟨[],[(2987,4008,[],[6])]⟩ bXD (aC aIP (aC aP8 aH)) fun(x:bE) hx hp=>by
 dsimp only [bOE] at hx hp⊢
 have hB:=wQ (t:=aD) hp
 delta bXD zP aE4;refine dR ?_
 refine⟨hp,fun _=>?_⟩
 (repeat' first|intro _|(with_reducible apply And.intro))
 all_goals simp only[dzx] at *
 all_goals try have Hf:=aR3 (by assumption)
 all_goals try have Hg:=aI3 (by assumption) (by omega)
 all_goals try have Hi:=aOO (by assumption)
 all_goals try have Hh:=(dH _).1 (by assumption)
 all_goals first|omega|(unfold maxLen;omega)|exact pQ (.inl (by assumption))|exact pQ (.inr (.inl (by assumption)))|exact pQ (.inr (.inr (by omega)))|exact aPX (.inl (by assumption))|exact aPX (.inr (by omega))|exact aBE (by assumption) (by assumption) (by omega)|exact aDK (by assumption) (by omega)|(rw[List.take_length];exact aDK (by assumption) (by omega))|exact pQ (.inr (.inl (aQ6 (.inl (by assumption)))))|exact pQ (.inr (.inl (aQ6 (.inr (by omega)))))|exact aBE (by assumption) (bM5 (by assumption) (by omega) (by omega)) (by omega)|skip
def bNJ:Con:=⟨213,aD,(.cMV aD (.cMV aM .bool)),[.val ⟨true,aD,[]⟩],[⟨true,aD,[0,0]⟩,⟨true,aM,[0,0]⟩,⟨false,.bool,[0]⟩],false,none,
 ((fun x=>bC aD x<=1000000000):(bE)->Prop),
 ((fun x=>aE1 x):(bE)->(bE×(cP×Bool)))⟩
def bX9:T:=hZ <| cD 1 0 <| dL 2 3 (oH (aAE aD aM) [aZ,wJ aA bA,aX]) <| pS aM tY <| uD dY aN 5 (oH (aAE aD aM) [aZ,wJ aA bA,aX]) <| bZ 249 aM bQ tY aN <| pS aM (nL 1) <| aTD 249 aM bQ (nL 1) bF 7 <| jM (yV 3 8) aA aA bA (iA 6) <| iG (aAE aD aM) (aF0 bQ (cB bQ 1) cM) (aF0 aA (kV 6) cU) bD
theorem cGR:Con.Holds Tryz.prog bNJ:=tk ⟨[],[(2987,4007,[],[6])]⟩ bX9 (aC aQ2 (aC aOC aH)) fun(x:bE) hx hp=>by
 dsimp only [bNJ] at hx hp⊢
 have hB:=wQ (t:=aD) hp
 delta bX9 aED aDZ;refine dR ?_
 refine⟨hp,fun _=>?_⟩
 (repeat' first|intro _|(with_reducible apply And.intro))
 all_goals simp only[dzx] at *
 all_goals try have Hf:=aR3 (by assumption)
 all_goals try have Hg:=aI3 (by assumption) (by omega)
 all_goals try have Hi:=aOO (by assumption)
 all_goals try have Hh:=(dH _).1 (by assumption)
 all_goals first|omega|(unfold maxLen;omega)|exact pQ (.inl (by assumption))|exact pQ (.inr (.inl (by assumption)))|exact pQ (.inr (.inr (by omega)))|exact aPX (.inl (by assumption))|exact aPX (.inr (by omega))|exact aBE (by assumption) (by assumption) (by omega)|exact aDK (by assumption) (by omega)|(rw[List.take_length];exact aDK (by assumption) (by omega))|exact pQ (.inr (.inl (aQ6 (.inl (by assumption)))))|exact pQ (.inr (.inl (aQ6 (.inr (by omega)))))|exact aBE (by assumption) (bM5 (by assumption) (by omega) (by omega)) (by omega)|skip
end
set_option maxRecDepth 100000
abbrev aJ3:Ty:=.slice 245 aJ
theorem oX (s:aR):bC aB s=bC bI s.2.1+(bC aG s.2.2.1+(bC aJ3 s.2.2.2.2.2.1+(bC aF s.2.2.2.2.2.2.1+(s.2.2.2.2.2.2.2.1.length+(s.2.2.2.2.2.2.2.2.1.length+(s.2.2.2.2.2.2.2.2.2.1.length+(s.2.2.2.2.2.2.2.2.2.2.1.length+bC aF s.2.2.2.2.2.2.2.2.2.2.2.1))))))):=by
 have e:bC aB s=0+(bC bI s.2.1+(bC aG s.2.2.1+(0+(0+(bC aJ3 s.2.2.2.2.2.1+(bC aF s.2.2.2.2.2.2.1+(bC aA s.2.2.2.2.2.2.2.1+(bC aA s.2.2.2.2.2.2.2.2.1+(bC aA s.2.2.2.2.2.2.2.2.2.1+(bC aA s.2.2.2.2.2.2.2.2.2.2.1+(bC aF s.2.2.2.2.2.2.2.2.2.2.2.1+(0+0)))))))))))):=rfl
 rw[lX,lX,lX,lX] at e
 omega
theorem cB3 {pc:Int} {plan:List eP} {ops:List fP} {last redo:Bool} {stash:List eC} {full:cT} {X Y G D:List Int} {sr:cT} {sl:Int} {ss:Bool} (h:bC aB (pc,plan,ops,last,redo,stash,full,X,Y,G,D,sr,sl,ss)<=1000000000) :
  List.length plan<=1000000000/\bC aG ops<=1000000000/\List.length stash<=1000000000/\(∀x∈stash,List.length x.2<=1000000000/\∀y∈x.2,List.length y<=1000000000)/\(List.length full<=1000000000/\∀y∈full,List.length y<=1000000000) /\
  List.length X<=1000000000/\List.length Y<=1000000000/\List.length G<=1000000000/\List.length D<=1000000000/\(List.length sr<=1000000000/\∀y∈sr,List.length y<=1000000000):=by
 have hz:=h
 rw[oX] at hz
 dsimp only at hz
 obtain⟨_,⟨Cp,_⟩,_,_,_,hst,hfull,⟨hX,_⟩,⟨hY,_⟩,⟨hG,_⟩,⟨hD,_⟩,Bu,_⟩:=wQ (t:=aB) h
 exact⟨Cp,by omega,hst.1,fun x hx=>bCJ (hst.2 x hx).2,bCJ hfull,hX,hY,hG,hD,bCJ Bu⟩
theorem bVR {e:TypeId} {t:Ty} (a b:List t.D):bC (.slice e t) (a++b)=bC (.slice e t) a+bC (.slice e t) b:=by
 rw[iN,iN,iN,List.map_append,List.sum_append,List.length_append];omega
theorem bW8 {e:TypeId} {t:Ty} (x:t.D):bC (.slice e t) [x]=1+bC t x:=by rw[iN];simp
theorem aSW {e:TypeId} {t:Ty} (x d:t.D) (c:Nat):(l:List t.D)->(i:Nat)->(i<l.length->bC t x<=bC t (l.getD i d)+c)->bC (.slice e t) (l.set i x)<=bC (.slice e t) l+c
 | [],i,_=>by simp only[List.set_nil];omega
 | a::l,0,h=>by
  have h1:bC t x<=bC t a+c:=h (Nat.zero_lt_succ _)
  rw[List.set_cons_zero,iN,iN]
  simp only[List.map_cons,List.sum_cons,List.length_cons];omega
 | a::l,i+1,h=>by
  have h1:=aSW (e:=e) x d c l i fun hi=>h (Nat.succ_lt_succ hi)
  rw[iN,iN] at h1
  rw[List.set_cons_succ,iN,iN]
  simp only[List.map_cons,List.sum_cons,List.length_cons];omega
theorem bMX {e:TypeId} {r:cT} {n c:Nat} (h1:r.length<=n) (h2:∀y∈r,List.length y<=c):bC (.slice e fD) r<=n+n * c:=by
 have h:=aTI (bC fD) c r fun y hy=>by have e1:=lX y;have e2:bC fD y=bC aA y:=rfl;have:=h2 y hy;omega
 have h3:r.length * c<=n * c:=Nat.mul_le_mul_right _ h1
 rw[iN];omega
theorem bJK {α:Type} {n:Nat} (g:Nat->α) (h:n<=6):(mp n g).length<=6:=by rw[kF];exact h
theorem aZA (f:Int->Int->Int×Bool) (a b:List Int):(wT f a b).1.length<=6:=by
 unfold wT;split
 ·exact bJK _ (vU (by assumption)).1
 ·exact Nat.zero_le _
theorem bHH (c:Int) (a:List Int):(aH5 c a).1.length<=6:=by
 unfold aH5;split
 ·rename_i h;exact bJK _ ((dH a).1 h.2).2.1
 ·exact Nat.zero_le _
theorem bOO (a:List Int):(aDR a).length<=6:=by
 unfold aDR;split
 ·rename_i h;exact bJK _ ((dH a).1 h).2.1
 ·exact Nat.zero_le _
theorem bNW (x d:List Int):(aDN x d).length<=6:=by
 unfold aDN;split
 ·exact bJK _ (vU (by assumption)).1
 ·exact Nat.zero_le _
theorem bSB (m:aNL) (x:List Int):(vK m x).1.length<=6:=by
 unfold vK;split
 ·rename_i h
  obtain⟨R,C,data,rfl,h1,h2,h3,h4,h5⟩:=yB h.1
  exact bJK _ (by show(R:Int).toNat<=6;omega)
 ·exact Nat.zero_le _
theorem bLO (m:aNL) (x:List Int):(qU m x).1.length<=6:=by
 unfold qU;split
 ·rename_i h
  obtain⟨R,C,data,rfl,h1,h2,h3,h4,h5⟩:=yB h.1
  exact bJK _ (by show(C:Int).toNat<=6;omega)
 ·exact Nat.zero_le _
theorem bVY (o:fP) (x:List Int):(aAX o x).1.length<=6:=by
 unfold aAX
 split
 ·exact Nat.zero_le _
 split
 ·exact bSB _ _
 split
 ·exact aZA _ _ _
 split
 ·exact bHH _ _
 split
 ·exact aZA _ _ _
 ·exact bOO _
theorem bVF (o:fP) (x d:List Int):(rG o x d).1.length<=6:=by
 unfold rG
 split
 ·exact Nat.zero_le _
 split
 ·exact bLO _ _
 split
 ·rename_i h _ _
  exact((dH d).1 ((cS _ _).1 (Decidable.not_not.1 h).2.2).1).2.1
 split
 ·exact bHH _ _
 split
 ·exact aZA _ _ _
 ·exact bNW _ _
theorem aJV (m:List fP) (x:List Int) (hx:x.length<=6):(k:Nat)->∀y∈(rQ m x k).1,List.length y<=6
 | 0,y,hy=>by
  obtain rfl:y=x:=by simpa [rQ] using hy
  exact hx
 | k+1,y,hy=>by
  rw[rQ,List.mem_append] at hy
  rcases hy with hy|hy
  ·exact aJV m x hx k y hy
  ·obtain rfl:y=_:=List.mem_singleton.1 hy
   exact bVY _ _
theorem bWX {α:Type} {l:List α} {i:Nat} {d:α} (h:l.length<=i):l.getD i d=d:=by rw[List.getD_eq_getElem?_getD,List.getElem?_eq_none h];rfl
theorem aXY {r:cT} (h:∀y∈r,List.length y<=6) (i:Nat):(r.getD i []).length<=6:=by
 by_cases hi:i<r.length
 ·rw[aP hi];exact h _ (List.getElem_mem hi)
 ·rw[bWX (by omega)];exact Nat.zero_le _
theorem bTP (m:List fP) (r:cT) (d:List Int) (n:Nat) (hd:d.length<=6):(k:Nat)->(lG m r d n k).2.1.length<=6
 | 0=>hd
 | k+1=>bVF _ _ _
theorem bH3 {e:TypeId}:(a b:cT)->bC (.slice e fD) (iI a b)<=bC (.slice e fD) a
 | [],b=>by simp[iI]
 | a::l,[]=>by simp[iI,iN]
 | a::l,b::m=>by
  have h:=bH3 (e:=e) l m
  have h1:bC fD (aA5 a b)<=bC fD a:=by
   have e1:=lX (aA5 a b)
   have e2:=lX a
   have e3:=aHJ a b
   have e4:bC fD (aA5 a b)=bC aA (aA5 a b):=rfl
   have e5:bC fD a=bC aA a:=rfl
   omega
  have e:iI (a::l) (b::m)=aA5 a b::iI l m:=rfl
  rw[iN,iN] at h
  rw[e,iN,iN]
  simp only[List.map_cons,List.sum_cons,List.length_cons];omega
def bQQ (s:aR) (m:Int) (x t:List Int):Bool:=gY s&&(dX x (kD s.2.2.1)&&(decide (kC s.2.2.2.2.2.1 m<0)&&(!s.2.2.2.1||dX t (eZ s.2.2.1))))
def bI6 (s:aR) (x:List Int):List Int:=(rQ s.2.2.1 x s.2.2.1.length).1.getD s.2.2.1.length []
def aN3 (redo:Bool) (r:cT):cT:=if redo=true then r.take 1 else r
def bIM (s:aR) (m:Int) (x t:List Int):aR :=
 (s.1,s.2.1,s.2.2.1,s.2.2.2.1,s.2.2.2.2.1,s.2.2.2.2.2.1++[(m,aN3 s.2.2.2.2.1 (rQ s.2.2.1 x s.2.2.1.length).1)],s.2.2.2.2.2.2.1,[],
  (if s.2.2.2.1=true then s.2.2.2.2.2.2.2.2.1 else bI6 s x),s.2.2.2.2.2.2.2.2.2.1,s.2.2.2.2.2.2.2.2.2.2.1,s.2.2.2.2.2.2.2.2.2.2.2.1,
  (if s.2.2.2.1=true then(kH s.2.2.2.2.2.2.2.2.2.2.2.2.1 (aO8 (bI6 s x) t).1).1 else s.2.2.2.2.2.2.2.2.2.2.2.2.1),
  (s.2.2.2.2.2.2.2.2.2.2.2.2.2||(rQ s.2.2.1 x s.2.2.1.length).2||(s.2.2.2.1&&((aO8 (bI6 s x) t).2||(kH s.2.2.2.2.2.2.2.2.2.2.2.2.1 (aO8 (bI6 s x) t).1).2))))
def aF2 (s:aR) (m:Int) (x t:List Int):aR:=if bQQ s m x t=true then bIM s m x t else s
def aB6 (s:aR) (m:Int):aR:=if gY s=true/\0<=kC s.2.2.2.2.2.1 m then
 (s.1,s.2.1,s.2.2.1,s.2.2.2.1,s.2.2.2.2.1,s.2.2.2.2.2.1,(rQ s.2.2.1 ((s.2.2.2.2.2.1.getD (kC s.2.2.2.2.2.1 m).toNat (aK aJ)).2.getD 0 []) s.2.2.1.length).1,s.2.2.2.2.2.2.2) else s
def yO (s:aR) (m:Int):cT:=if s.2.2.2.2.1=true then s.2.2.2.2.2.2.1 else(s.2.2.2.2.2.1.getD (kC s.2.2.2.2.2.1 m).toNat (aK aJ)).2
def pP (s:aR) (m:Int) (t:List Int):List Int×Bool:=if s.2.2.2.1=true then wT pJ ((yO s m).getD s.2.2.1.length []) t else(s.2.2.2.2.2.2.2.2.2.1,false)
def aRT (m:List fP) (r:cT):Bool:=decide (r.length=m.length+1)&&aF3 m r m.length
def bBD (s:aR) (m:Int) (t:List Int):Bool:=gY s&&(decide (0<=kC s.2.2.2.2.2.1 m)&&(aRT s.2.2.1 (yO s m)&&dX (pP s m t).1 (eZ s.2.2.1)))
def bP3 (s:aR) (m:Int) (t:List Int):aR :=
 (s.1,s.2.1,s.2.2.1,s.2.2.2.1,s.2.2.2.2.1,s.2.2.2.2.2.1.take (kC s.2.2.2.2.2.1 m).toNat++s.2.2.2.2.2.1.drop ((kC s.2.2.2.2.2.1 m).toNat+1),[],s.2.2.2.2.2.2.2.1,s.2.2.2.2.2.2.2.2.1,[],
  (aBA s.2.2.1 (yO s m) (pP s m t).1).2.1,uE s.2.2.2.2.2.2.2.2.2.2.2 ((aBA s.2.2.1 (yO s m) (pP s m t).1).1,0,(pP s m t).2||(aBA s.2.2.1 (yO s m) (pP s m t).1).2.2))
def zL (s:aR) (m:Int) (t:List Int):aR:=if bBD s m t=true then bP3 s m t else s
theorem aX5 {v:List Int} {n:Int} (h:dX v n=true):v.length<=6:=((dH _).1 ((cS _ _).1 h).1).2.1
theorem aJN {s:aR} {m:Int} {x t:List Int} (h:gY s=false\/dX x (kD s.2.2.1)=false\/0<=kC s.2.2.2.2.2.1 m\/(s.2.2.2.1=true/\dX t (eZ s.2.2.1)=false)):s=aF2 s m x t:=by
 unfold aF2;rw[if_neg]
 unfold bQQ
 simp only[Bool.and_eq_true,Bool.or_eq_true,decide_eq_true_eq,Bool.not_eq_true']
 rintro⟨h1,h2,h3,h4⟩
 rcases h with h|h|h|⟨h,h'⟩
 ·rw[h] at h1;cases h1
 ·rw[h] at h2;cases h2
 ·omega
 ·rw[h,h'] at h4;simp at h4
theorem bC7 {s:aR} {m:Int} {x t:List Int} (h1:gY s=true) (h2:dX x (kD s.2.2.1)=true) (h3:kC s.2.2.2.2.2.1 m<0) (h4:s.2.2.2.1=true->dX t (eZ s.2.2.1)=true):bIM s m x t=aF2 s m x t:=by
 unfold aF2;rw[if_pos]
 unfold bQQ
 simp only[Bool.and_eq_true,Bool.or_eq_true,decide_eq_true_eq,Bool.not_eq_true']
 refine⟨h1,h2,h3,?_⟩
 cases hh:s.2.2.2.1
 ·exact .inl rfl
 ·exact .inr (h4 hh)
theorem bCG {s:aR} {m:Int} {x t:List Int} {st:List eC} {l:Int} {b:Bool} (Ai:s.2.2.2.1=true) (e1:st=s.2.2.2.2.2.1++[(m,aN3 s.2.2.2.2.1 (rQ s.2.2.1 x s.2.2.1.length).1)])
  (e3:l=(kH s.2.2.2.2.2.2.2.2.2.2.2.2.1 (aO8 (List.getD (rQ s.2.2.1 x s.2.2.1.length).1 (List.length s.2.2.1) (aK aA)) t).1).1)
  (e4:b=(s.2.2.2.2.2.2.2.2.2.2.2.2.2||(rQ s.2.2.1 x s.2.2.1.length).2||((aO8 (List.getD (rQ s.2.2.1 x s.2.2.1.length).1 (List.length s.2.2.1) (aK aA)) t).2||(kH s.2.2.2.2.2.2.2.2.2.2.2.2.1 (aO8 (List.getD (rQ s.2.2.1 x s.2.2.1.length).1 (List.length s.2.2.1) (aK aA)) t).1).2))) :
  (s.1,s.2.1,s.2.2.1,s.2.2.2.1,s.2.2.2.2.1,st,s.2.2.2.2.2.2.1,([]:List Int),s.2.2.2.2.2.2.2.2.1,s.2.2.2.2.2.2.2.2.2.1,s.2.2.2.2.2.2.2.2.2.2.1,s.2.2.2.2.2.2.2.2.2.2.2.1,l,b)=bIM s m x t:=by
 subst e1 e3 e4;unfold bIM;rw[Ai];rfl
theorem bCM {s:aR} {m:Int} {x t:List Int} {st:List eC} {b:Bool} (Ai:s.2.2.2.1=false) (e1:st=s.2.2.2.2.2.1++[(m,aN3 s.2.2.2.2.1 (rQ s.2.2.1 x s.2.2.1.length).1)])
  (e4:b=(s.2.2.2.2.2.2.2.2.2.2.2.2.2||(rQ s.2.2.1 x s.2.2.1.length).2)) :
  (s.1,s.2.1,s.2.2.1,s.2.2.2.1,s.2.2.2.2.1,st,s.2.2.2.2.2.2.1,([]:List Int),(List.getD (rQ s.2.2.1 x s.2.2.1.length).1 (List.length s.2.2.1) (aK aA)),s.2.2.2.2.2.2.2.2.2.1,s.2.2.2.2.2.2.2.2.2.2.1,s.2.2.2.2.2.2.2.2.2.2.2.1,s.2.2.2.2.2.2.2.2.2.2.2.2.1,b)=bIM s m x t:=by
 subst e1 e4;unfold bIM;rw[Ai];simp;rfl
theorem bYL {a b c d:Bool} (h:a=true):true=(a||b||(c||d)):=by rw[h];rfl
theorem bXW {a b c d:Bool} (h:b=true):true=(a||b||(c||d)):=by rw[h];simp
theorem bXK {a b c d:Bool} (h:c=true):true=(a||b||(c||d)):=by rw[h];simp
theorem bYG {a b c d:Bool} (h1:a=false) (h2:b=false) (h3:c=false):d=(a||b||(c||d)):=by rw[h1,h2,h3];simp
theorem bM8 {r:cT} {b:Bool} (h:b=true):List.drop 0 (List.take 1 r)=aN3 b r:=by subst h;rfl
theorem bN9 {r:cT} {b:Bool} (h:b=false):r=aN3 b r:=by subst h;rfl
noncomputable def vR:Con:=⟨176,aB,aB,[.val ⟨true,aB,[]⟩],[⟨true,aB,[0,2,2,0,0,2,2,2,2,2,2,2,0,0]⟩],false,none,
 ((fun x=>bC aB x<=1000000000):(aR)->Prop),
 ((fun x=>x):(aR)->(aR))⟩
def aRW:T:=jM tK bI bI aJO yY <| nC nH <| aBT aJ rN <| pX (fM aS) aS aL7 <| mH aS 4 3 5 (cW 245 aJ aS rN aS 4 <| wI (gG 6) <| xB sC aF (cB aF 6) 7 <| sE aJ aS aS (eT aS 4) 8 <| eJ aS 4 0 aS cI cU) <| eK 1 (dP 6) 2 (dP 7) <| eK 2 (dP 8) 2 (dP 9) <| eK 2 (dP 10) 3 (fG aB 11) <| fB [wP 0,aZ,bM,dP 3,dP 4,eT aS 4,cQ,cY,cM,cU,cI,cO]
theorem aDP:Con.Holds Tryz.prog vR:=tk ⟨[(2991,1004,[.dr 20,.dr 19,.dr 14,.dr 11,.dr 8,.dr 18,.dr 16,.dr 13,.dr 10,.dr 7,.dr 17,.dr 15,.dr 12,.dr 9,.dr 6,.dr 0,.tm 23 0,.sl 24])],[(2981,3007,[33],[])]⟩ aRW (aC bPK (aC aKW (aC qQ (aC bI8 aH)))) fun(x:aR) hx hp=>by
 dsimp only [vR] at hx hp⊢
 obtain⟨pc,plan,ops,last,redo,stash,full,X,Y,G,D,sr,sl,ss⟩:=x
 obtain⟨Cp,Ho,hst,D2,⟨hfull,Bo⟩,hX,hY,hG,hD,⟨Bu,Cn⟩⟩:=cB3 hp
 delta aRW aOS aBH nK aJ8;refine dR ?_;try with_reducible exact True.intro
 (repeat' first|intro _|(with_reducible apply And.intro))
 all_goals first|omega|(unfold maxLen;omega)|(simp only[List.length_nil];omega)|(simp only[List.length_nil];unfold maxLen;omega)|skip
 refine eY (fun k=>((k:Int),List.take k stash)) (List.length stash) rfl fun I μ k hk _ go=>?_
 dsimp only
 refine dQ ?_
 by_cases hkn:k<List.length stash
 ·have hm:=D2 _ (List.getElem_mem hkn)
  rw[aP hkn]
  (repeat' first|intro _|(refine go _ ?_ ?_ ?_)|(refine go _ ?_ ?_)|(with_reducible apply And.intro))
  all_goals first|omega|exact hm.1|exact hm.2 _ (by assumption)|(simp only[List.length_take];unfold maxLen;omega)|(simp only[List.length_take];omega)|(rw[oT hkn];rfl)
 ·(repeat' first|intro _|(refine go _ ?_ ?_ ?_)|(refine go _ ?_ ?_)|(with_reducible apply And.intro))
  all_goals first|omega|(have e:k=List.length stash:=(by omega);subst e;first|exact Bo _ (by assumption)|exact Cn _ (by assumption)|exact⟨Bu,Cn⟩|omega|(unfold maxLen;omega)|(simp only[List.length_nil];omega)|(simp only[List.length_nil];unfold maxLen;omega)|(simp only[List.take_length,List.nil_append];done)|skip)|skip
noncomputable def aB3:Con:=⟨170,aB,aB,[.val ⟨true,aB,[]⟩],[⟨true,aB,[0,2,2,0,0,2,2,2,2,2,2,2,0,0]⟩],false,none,
 ((fun x=>bC aB x<=1000000000):(aR)->Prop),
 ((fun x=>x):(aR)->(aR))⟩
def bBH:T:=nC nH <| jM tK bI bI aJO yY <| gW (fM aS) aS aL7 245 aJ rN <| mH aS 3 4 5 (cW 245 aJ aS rN aS 3 <| cW 245 aJ aS rN aS 3 <| wI (gG 7) <| xB sC aF (cB aF 6) 8 <| sE aJ aS aS (eT aS 3) 9 <| eJ aS 3 0 aS cO cI) <| wI (dP 6) <| jM (yV 3 8) aA aA bA (dP 7) <| jM (yV 3 8) aA aA bA (dP 8) <| jM (yV 3 8) aA aA bA (dP 9) <| jM (yV 3 8) aA aA bA (dP 10) <| wI (dP 11) <| fB [wP 0,bM,aZ,dP 3,dP 4,eT aS 3,cQ,cY,cM,cU,cI,cO,fG aB 12]
theorem aHY:Con.Holds Tryz.prog aB3:=tk ⟨[(2985,1003,iZ 16 5++[.dr 0,.tm 4 0,.sl 24])],[(2977,3006,[38],[])]⟩ bBH (aC bDF (aC bQU aH)) fun(x:aR) hx hp=>by
 dsimp only [aB3] at hx hp⊢
 obtain⟨pc,plan,ops,last,redo,stash,full,X,Y,G,D,sr,sl,ss⟩:=x
 obtain⟨Cp,Ho,hst,D2,⟨hfull,Bo⟩,hX,hY,hG,hD,⟨Bu,Cn⟩⟩:=cB3 hp
 delta bBH aMF aPR;refine dR ?_;try with_reducible exact True.intro
 (repeat' first|intro _|(with_reducible apply And.intro))
 all_goals first|omega|(unfold maxLen;omega)|(simp only[List.length_nil];omega)|(simp only[List.length_nil];unfold maxLen;omega)|skip
 refine eY (fun k=>((k:Int),List.take k stash)) (List.length stash) rfl fun I μ k hk _ go=>?_
 dsimp only
 refine dQ ?_
 by_cases hkn:k<List.length stash
 ·have hm:=D2 _ (List.getElem_mem hkn)
  rw[aP hkn]
  (repeat' first|intro _|(refine go _ ?_ ?_ ?_)|(refine go _ ?_ ?_)|(with_reducible apply And.intro))
  all_goals first|omega|exact hm.1|exact hm.2 _ (by assumption)|(simp only[List.length_take];unfold maxLen;omega)|(simp only[List.length_take];omega)|(rw[oT hkn];rfl)
 ·(repeat' first|intro _|(refine go _ ?_ ?_ ?_)|(refine go _ ?_ ?_)|(with_reducible apply And.intro))
  all_goals first|omega|(have e:k=List.length stash:=(by omega);subst e;first|exact Bo _ (by assumption)|exact Cn _ (by assumption)|exact⟨Bu,Cn⟩|omega|(unfold maxLen;omega)|(simp only[List.length_nil];omega)|(simp only[List.length_nil];unfold maxLen;omega)|(simp only[List.take_length,List.nil_append];done)|skip)|skip
set_option maxRecDepth 100000
noncomputable def aLZ:Con:=⟨207,(.cMV aB (.cMV tI aL)),aB,[.val ⟨true,aB,[]⟩,.val ⟨false,tI,[]⟩,.val ⟨false,aA,[]⟩,.val ⟨false,aA,[]⟩],[⟨true,aB,[0,2,2,0,0,2,2,2,2,2,2,2,0,0]⟩],false,none,
 ((fun x=>bC aB x.1<=1000000000):(aR×(Int×bT))->Prop),
 ((fun x=>aF2 x.1 x.2.1 x.2.2.1 x.2.2.2):(aR×(Int×bT))->(aR))⟩
def aX1:T:=nC (lU aB tI aL 0) <| eK 1 (lU aB tI aL 0) 2 (lU aB tI aL 0) <| dL 3 4 aZ <| cD 3 2 <| dF 4 aA (rA qI 0) fF <| dL 6 7 aZ <| dF 5 aS (fK aB 5 aB tI aL 0) wM <| aBJ .geq cM aN 9 aZ <| .ite (fK aB 3 aB tI aL 0) (cD 6 2 <| dF 4 aA (fG qI 3) cI <| dL 11 12 aZ <| mT 7 aG bM (rA qI 0) <| iE (fK aB 2 aB tI aL 0) <| nV aA aF (wF 13) 14 <| nV aA aF (wF 13) 14 <| .ite (fK aB 4 aB tI aL 0) (aJQ 253 aA aF (xR (wF 13) bF) <| cD 8 17 <| xB sC aF wM 18 <| sE aJ aS aS dC 19 <| .ite (dO aB 13 1) (qP (fK aB 3 aB tI aL 0) 21 (cD 9 16 <| fB [fS,fW,fT,fU,fV,qJ,iH,bA,qS,iS,kB,jX,uK,bD]) <| fN 10 gM (fG qI 3) <| jK 11 uK (eL 22) <| fB [fS,fW,fT,fU,fV,qJ,iH,bA,jU,iS,kB,jX,eL 23,bD]) <| qP (fK aB 3 aB tI aL 0) 21 (cD 9 16 <| fB [fS,fW,fT,fU,fV,qJ,iH,bA,qS,iS,kB,jX,uK,gK aF 1 13]) <| fN 10 gM (fG qI 3) <| jK 11 uK (eL 22) <| nF aF 1 13 (fB [fS,fW,fT,fU,fV,qJ,iH,bA,jU,iS,kB,jX,eL 23,bD]) <| nF tI 1 22 (fB [fS,fW,fT,fU,fV,qJ,iH,bA,jU,iS,kB,jX,eL 23,bD]) <| fB [fS,fW,fT,fU,fV,qJ,iH,bA,jU,iS,kB,jX,aD9]) <| .call 8 (wF 13) <| xB sC aF wM 17 <| sE aJ aS aS dC 18 <| .ite (dO aB 13 1) (qP (fK aB 3 aB tI aL 0) 20 (cD 9 16 <| fB [fS,fW,fT,fU,fV,kA,iH,bA,wX,iS,kB,jX,uK,bD]) <| fN 10 gM (fG qI 3) <| jK 11 uK (eL 21) <| fB [fS,fW,fT,fU,fV,kA,iH,bA,jU,iS,kB,jX,eL 22,bD]) <| qP (fK aB 3 aB tI aL 0) 20 (cD 9 16 <| fB [fS,fW,fT,fU,fV,kA,iH,bA,wX,iS,kB,jX,uK,gK aF 1 13]) <| fN 10 gM (fG qI 3) <| jK 11 uK (eL 21) <| nF aF 1 13 (fB [fS,fW,fT,fU,fV,kA,iH,bA,jU,iS,kB,jX,eL 22,bD]) <| nF tI 1 21 (fB [fS,fW,fT,fU,fV,kA,iH,bA,jU,iS,kB,jX,eL 22,bD]) <| fB [fS,fW,fT,fU,fV,kA,iH,bA,jU,iS,kB,jX,qS]) <| mT 7 aG bM (rA qI 0) <| iE (fK aB 2 aB tI aL 0) <| nV aA aF (wF 10) 11 <| nV aA aF (wF 10) 11 <| .ite (fK aB 4 aB tI aL 0) (aJQ 253 aA aF (xR (wF 10) bF) <| cD 8 14 <| xB sC aF wM 15 <| sE aJ aS aS dC 16 <| .ite (dO aB 13 1) (qP (fK aB 3 aB tI aL 0) 18 (cD 9 13 <| fB [fS,fW,fT,fU,fV,iR,iH,bA,kA,iS,kB,jX,uK,bD]) <| fN 10 eM (fG qI 3) <| jK 11 uK (eL 19) <| fB [fS,fW,fT,fU,fV,iR,iH,bA,jU,iS,kB,jX,eL 20,bD]) <| qP (fK aB 3 aB tI aL 0) 18 (cD 9 13 <| fB [fS,fW,fT,fU,fV,iR,iH,bA,kA,iS,kB,jX,uK,gK aF 1 10]) <| fN 10 eM (fG qI 3) <| jK 11 uK (eL 19) <| nF aF 1 10 (fB [fS,fW,fT,fU,fV,iR,iH,bA,jU,iS,kB,jX,eL 20,bD]) <| nF tI 1 19 (fB [fS,fW,fT,fU,fV,iR,iH,bA,jU,iS,kB,jX,eL 20,bD]) <| fB [fS,fW,fT,fU,fV,iR,iH,bA,jU,iS,kB,jX,qJ]) <| .call 8 (wF 10) <| xB sC aF wM 14 <| sE aJ aS aS dC 15 <| .ite (dO aB 13 1) (qP (fK aB 3 aB tI aL 0) 17 (cD 9 13 <| fB [fS,fW,fT,fU,fV,gM,iH,bA,nJ,iS,kB,jX,uK,bD]) <| fN 10 eM (fG qI 3) <| jK 11 uK (eL 18) <| fB [fS,fW,fT,fU,fV,gM,iH,bA,jU,iS,kB,jX,eL 19,bD]) <| qP (fK aB 3 aB tI aL 0) 17 (cD 9 13 <| fB [fS,fW,fT,fU,fV,gM,iH,bA,nJ,iS,kB,jX,uK,gK aF 1 10]) <| fN 10 eM (fG qI 3) <| jK 11 uK (eL 18) <| nF aF 1 10 (fB [fS,fW,fT,fU,fV,gM,iH,bA,jU,iS,kB,jX,eL 19,bD]) <| nF tI 1 18 (fB [fS,fW,fT,fU,fV,gM,iH,bA,jU,iS,kB,jX,eL 19,bD]) <| fB [fS,fW,fT,fU,fV,gM,iH,bA,jU,iS,kB,jX,kA]
theorem bOI:Con.Holds Tryz.prog aLZ:=tk ⟨[],[(2973,104017,[],[33]),(2971,104018,[73],[]),(2971,72017,[73],[]),(2973,48014,[],[33]),(2971,48015,[73],[]),(2971,32014,[73],[])]⟩ aX1 (aC aDP (aC aIB (aC aEC (aC bH1 (aC vQ (aC aIV (aC aYH (aC bHL (aC aKW (aC qQ (aC bT8 (aC aMV aH)))))))))))) fun(x:aR×(Int×bT)) hx hp=>by
 dsimp only [aLZ] at hx hp⊢
 obtain⟨s,m,v,t⟩:=x
 delta aX1 vR aAQ xG aP1 sH zK aJX aMJ aBH nK aTC aC7;refine dR ?_
 refine dQ ?_
 refine⟨hp,fun _ _=>⟨fun h=>aJN (.inl h),fun h1 _=>⟨fun h=>aJN (.inr (.inl h)),fun h2 _=>⟨fun h=>aJN (.inr (.inr (.inl h))),fun h3=>?_⟩⟩⟩⟩
 have hm:=(cA s).1 h1
 rw[show aQI s.2.2.1 v=_ from if_pos ⟨hm.1,h2⟩]
 have hl:=zT s.2.2.1 v s.2.2.1.length
 have Hb:=aX5 h2
 have Eo:=((bO _).1 hm.1).2.1
 have h6:=aJV s.2.2.1 v Hb s.2.2.1.length
 have K4:(List.getD (rQ s.2.2.1 v s.2.2.1.length).1 s.2.2.1.length (aK aA)).length<=6:=aXY h6 _
 have hst:=(wQ (t:=aB) hp).2.2.2.2.2.1.1
 replace hst:List.length s.2.2.2.2.2.1<=1000000000:=hst
 constructor
 ·intro Ai _
  refine⟨fun h=>aJN (.inr (.inr (.inr ⟨Ai,h⟩))),fun h4=>?_⟩
  have hy:=bC7 h1 h2 h3 (fun _=>h4)
  (repeat' first|intro _|(with_reducible apply And.intro))
  all_goals first|omega|exact Bool.noConfusion ((by assumption:s.2.2.2.1=true).symm.trans (by assumption:s.2.2.2.1=false))|(unfold maxLen;omega)|(simp only[List.drop_zero,List.length_take];omega)|exact Nat.le_trans (h6 _ (by assumption)) (by decide)|exact Nat.le_trans (h6 _ (List.mem_of_mem_take (by assumption))) (by decide)|skip
  all_goals first|exact Bool.noConfusion ((by assumption:s.2.2.2.1=true).symm.trans (by assumption:s.2.2.2.1=false))|refine(bCG (by assumption) ?_ ?_ ?_).trans hy|refine(bCM (by assumption) ?_ ?_).trans hy
  all_goals first|rfl|(rw[<-bM8 (by assumption)])|(rw[<-bN9 (by assumption)])|exact bYL (by assumption)|exact bXW (by assumption)|exact bXK (by assumption)|exact bYG (by assumption) (by assumption) (by assumption)|exact rV (by assumption)|exact yT (by assumption)|(simp[*];done)|skip
 ·intro Ai
  have hy:=bC7 (t:=t) h1 h2 h3 (fun h=>absurd h (by simp[Ai]))
  (repeat' first|intro _|(with_reducible apply And.intro))
  all_goals first|omega|exact Bool.noConfusion ((by assumption:s.2.2.2.1=true).symm.trans (by assumption:s.2.2.2.1=false))|(unfold maxLen;omega)|(simp only[List.drop_zero,List.length_take];omega)|exact Nat.le_trans (h6 _ (by assumption)) (by decide)|exact Nat.le_trans (h6 _ (List.mem_of_mem_take (by assumption))) (by decide)|skip
  all_goals first|exact Bool.noConfusion ((by assumption:s.2.2.2.1=true).symm.trans (by assumption:s.2.2.2.1=false))|refine(bCG (by assumption) ?_ ?_ ?_).trans hy|refine(bCM (by assumption) ?_ ?_).trans hy
  all_goals first|rfl|(rw[<-bM8 (by assumption)])|(rw[<-bN9 (by assumption)])|exact bYL (by assumption)|exact bXW (by assumption)|exact bXK (by assumption)|exact bYG (by assumption) (by assumption) (by assumption)|exact rV (by assumption)|exact yT (by assumption)|(simp[*];done)|skip
noncomputable def aLR:Con:=⟨214,(.cMV aB (.cMV tI aL)),aB,[.val ⟨true,aB,[]⟩,.val ⟨false,tI,[]⟩,.val ⟨false,aA,[]⟩,.val ⟨false,aA,[]⟩],[⟨true,aB,[0,0,0,0,0,0,0,0,0,0,0,0,0,0]⟩],false,none,
 ((fun x=>bC aB x.1<=1000000000):(aR×(Int×bT))->Prop),
 ((fun x=>aF2 x.1 x.2.1 x.2.2.1 x.2.2.2):(aR×(Int×bT))->(aR))⟩
def aVB:T:=eK 0 (lU aB tI aL 0) 1 (lU aB tI aL 0) <| dL 2 3 aZ <| gH 2 (rA qI 0) 4 5 aZ <| cK (rA qI 0) <| bZ 243 bK aG (fK aB 2 aB tI aL 0) aN <| rO cQ (dZ bK 7) 8 aZ <| dF 3 aS (fK aB 5 aB tI aL 0) wM <| aBJ .geq cU aN 10 aZ <| .ite (fK aB 3 aB tI aL 0) (gH 2 (fG qI 3) 11 12 aZ <| cK (fG qI 3) <| iE (fK aB 2 aB tI aL 0) <| kK dK 243 bK aG (fK aB 2 aB tI aL 0) 15 <| rO eM (qR 16) 17 aZ <| mT 4 aG (fK aB 2 aB tI aL 0) (rA qI 0) <| nX aHA <| kK kA 253 aA aF aHA 20 <| nV aA aF aHA 20 <| .ite (prA aB 13 (lU aB tI aL 0)) (fN 5 qS (fG qI 3) <| jK 6 (fK aB 12 aB tI aL 0) (eL 23) <| .ite (fK aB 4 aB tI aL 0) (aJQ 253 aA aF (xR aHA bF) <| xB sC aF wM 25 <| sE aJ aS aS dC 26 <| fB [fS,fW,fT,fU,fV,.Z 27,iH,bA,jU,iS,kB,jX,eL 24,bD]) <| vC sC aF wM aHA <| sE aJ aS aS dC 25 <| fB [fS,fW,fT,fU,fV,tJ,iH,bA,jU,iS,kB,jX,eL 24,bD]) <| fN 5 qS (fG qI 3) <| jK 6 (fK aB 12 aB tI aL 0) (eL 23) <| nF aF 1 18 (.ite (fK aB 4 aB tI aL 0) (aJQ 253 aA aF (xR aHA bF) <| xB sC aF wM 25 <| sE aJ aS aS dC 26 <| fB [fS,fW,fT,fU,fV,.Z 27,iH,bA,jU,iS,kB,jX,eL 24,bD]) <| vC sC aF wM aHA <| sE aJ aS aS dC 25 <| fB [fS,fW,fT,fU,fV,tJ,iH,bA,jU,iS,kB,jX,eL 24,bD]) <| nF tI 1 23 (.ite (fK aB 4 aB tI aL 0) (aJQ 253 aA aF (xR aHA bF) <| xB sC aF wM 25 <| sE aJ aS aS dC 26 <| fB [fS,fW,fT,fU,fV,.Z 27,iH,bA,jU,iS,kB,jX,eL 24,bD]) <| vC sC aF wM aHA <| sE aJ aS aS dC 25 <| fB [fS,fW,fT,fU,fV,tJ,iH,bA,jU,iS,kB,jX,eL 24,bD]) <| .ite (fK aB 4 aB tI aL 0) (aJQ 253 aA aF (xR aHA bF) <| xB sC aF wM 25 <| sE aJ aS aS dC 26 <| fB [fS,fW,fT,fU,fV,.Z 27,iH,bA,jU,iS,kB,jX,.Z 24]) <| vC sC aF wM aHA <| sE aJ aS aS dC 25 <| fB [fS,fW,fT,fU,fV,tJ,iH,bA,jU,iS,kB,jX,.Z 24]) <| mT 4 aG (fK aB 2 aB tI aL 0) (rA qI 0) <| nX (wF 11) <| kK fE 253 aA aF (wF 11) 13 <| nV aA aF (wF 11) 13 <| .ite (prA aB 13 (lU aB tI aL 0)) (lS 3 8 aA aA bA 15 <| .ite (fK aB 4 aB tI aL 0) (aJQ 253 aA aF (xR (wF 11) bF) <| xB sC aF wM 17 <| sE aJ aS aS dC 18 <| fB [fS,fW,fT,fU,fV,kA,iH,bA,gM,iS,kB,jX,uK,bD]) <| vC sC aF wM (wF 11) <| sE aJ aS aS dC 17 <| fB [fS,fW,fT,fU,fV,nJ,iH,bA,gM,iS,kB,jX,uK,bD]) <| lS 3 8 aA aA bA 15 <| .ite (fK aB 4 aB tI aL 0) (aJQ 253 aA aF (xR (wF 11) bF) <| xB sC aF wM 17 <| sE aJ aS aS dC 18 <| fB [fS,fW,fT,fU,fV,kA,iH,bA,gM,iS,kB,jX,uK,gK aF 1 11]) <| vC sC aF wM (wF 11) <| sE aJ aS aS dC 17 <| fB [fS,fW,fT,fU,fV,nJ,iH,bA,gM,iS,kB,jX,uK,gK aF 1 11]
set_option maxHeartbeats 1000000 in
theorem bLY:Con.Holds Tryz.prog aLR:=tk ⟨[],[(2967,912025,[],[31]),(2965,656025,[],[31]),(2967,1808025,[],[31]),(2965,1296025,[],[31]),(2967,3600025,[],[31]),(2965,2576025,[],[31]),(2967,3088025,[],[31]),(2965,2064025,[],[31]),(2973,224017,[],[31]),(2971,160017,[],[31]),(2973,192017,[],[31]),(2971,128017,[],[31])]⟩ aVB (aC aHY (aC aDU (aC nN (aC aJE (aC aVG (aC bU6 (aC aHB aH))))))) fun(x:aR×(Int×bT)) hx hp=>by
 dsimp only [aLR] at hx hp⊢
 obtain⟨s,m,v,t⟩:=x
 delta aVB aB3 wY lQ zJ aFH aT9 aA0;refine dR ?_
 refine dQ ?_
 refine⟨hp,fun _=>⟨fun h=>aJN (.inl h),fun h1=>⟨fun h=>aJN (.inr (.inl (aNZ h).symm)),fun hv _=>?_⟩⟩⟩
 have hm:=(cA s).1 h1
 have Eo:=((bO _).1 hm.1)
 have hin:(List.getD s.2.2.1 0 (aK bK)).2.1=kD s.2.2.1:=by unfold kD;rw[if_pos hm.1];rfl
 have C4:(List.getD s.2.2.1 (s.2.2.1.length - 1) (aK bK)).2.2.1=eZ s.2.2.1:=by unfold eZ;rw[if_pos hm.1];rfl
 rw[hin]
 refine⟨⟨by omega,by omega⟩,fun _=>⟨fun h=>aJN (.inr (.inl (Bool.eq_false_iff.2 fun hh=>h ((cS _ _).1 hh).2))),fun hv2 _=>⟨fun h=>aJN (.inr (.inr (.inl h))),fun h3=>?_⟩⟩⟩
 have h2:dX v (kD s.2.2.1)=true:=(cS _ _).2 ⟨hv,hv2⟩
 have hl:=zT s.2.2.1 v s.2.2.1.length
 have Hb:=aX5 h2
 have h6:=aJV s.2.2.1 v Hb s.2.2.1.length
 have K4:(List.getD (rQ s.2.2.1 v s.2.2.1.length).1 s.2.2.1.length (aK aA)).length<=6:=aXY h6 _
 have hst:=(wQ (t:=aB) hp).2.2.2.2.2.1.1
 replace hst:List.length s.2.2.2.2.2.1<=1000000000:=hst
 constructor
 ·intro Ai
  refine⟨fun h=>aJN (.inr (.inr (.inr ⟨Ai,(aNZ h).symm⟩))),fun ht _ _=>⟨by omega,fun _=>⟨by omega,fun _=>?_⟩⟩⟩
  rw[C4]
  refine⟨fun h=>aJN (.inr (.inr (.inr ⟨Ai,Bool.eq_false_iff.2 fun hh=>h ((cS _ _).1 hh).2⟩))),fun ht2=>?_⟩
  simp only[hl,Nat.add_sub_cancel]
  have hy:=bC7 h1 h2 h3 (fun _=>(cS _ _).2 ⟨ht,ht2⟩)
  (repeat' first|intro _|(with_reducible apply And.intro))
  all_goals first|omega|exact Bool.noConfusion ((by assumption:s.2.2.2.1=true).symm.trans (by assumption:s.2.2.2.1=false))|(unfold maxLen;omega)|(simp only[List.drop_zero,List.length_take];omega)|exact Nat.le_trans (h6 _ (by assumption)) (by decide)|exact Nat.le_trans (h6 _ (List.mem_of_mem_take (by assumption))) (by decide)|skip
  all_goals first|exact Bool.noConfusion ((by assumption:s.2.2.2.1=true).symm.trans (by assumption:s.2.2.2.1=false))|refine(bCG (by assumption) ?_ ?_ ?_).trans hy|refine(bCM (by assumption) ?_ ?_).trans hy
  all_goals first|rfl|(rw[<-bM8 (by assumption)])|(rw[<-bN9 (by assumption)])|exact bYL (by assumption)|exact bXW (by assumption)|exact bXK (by assumption)|exact bYG (by assumption) (by assumption) (by assumption)|exact rV (by assumption)|exact yT (by assumption)|(simp[*];done)|skip
 ·intro Ai
  simp only[hl,Nat.add_sub_cancel]
  have hy:=bC7 (t:=t) h1 h2 h3 (fun h=>absurd h (by simp[Ai]))
  (repeat' first|intro _|(with_reducible apply And.intro))
  all_goals first|omega|exact Bool.noConfusion ((by assumption:s.2.2.2.1=true).symm.trans (by assumption:s.2.2.2.1=false))|(unfold maxLen;omega)|(simp only[List.drop_zero,List.length_take];omega)|exact Nat.le_trans (h6 _ (by assumption)) (by decide)|exact Nat.le_trans (h6 _ (List.mem_of_mem_take (by assumption))) (by decide)|skip
  all_goals first|exact Bool.noConfusion ((by assumption:s.2.2.2.1=true).symm.trans (by assumption:s.2.2.2.1=false))|refine(bCG (by assumption) ?_ ?_ ?_).trans hy|refine(bCM (by assumption) ?_ ?_).trans hy
  all_goals first|rfl|(rw[<-bM8 (by assumption)])|(rw[<-bN9 (by assumption)])|exact bYL (by assumption)|exact bXW (by assumption)|exact bXK (by assumption)|exact bYG (by assumption) (by assumption) (by assumption)|exact rV (by assumption)|exact yT (by assumption)|(simp[*];done)|skip
set_option maxRecDepth 100000
theorem bCC {s:aR} {m:Int} (h:gY s=false\/kC s.2.2.2.2.2.1 m<0):s=aB6 s m:=by
 unfold aB6;rw[if_neg]
 rintro⟨h1,h2⟩
 rcases h with h|h
 ·rw[h] at h1;cases h1
 ·omega
theorem bGB {s:aR} {m:Int} (h:gY s=true) (h2:0<=kC s.2.2.2.2.2.1 m):(s.1,s.2.1,s.2.2.1,s.2.2.2.1,s.2.2.2.2.1,s.2.2.2.2.2.1,(rQ s.2.2.1 ((s.2.2.2.2.2.1.getD (kC s.2.2.2.2.2.1 m).toNat (aK aJ)).2.getD 0 []) s.2.2.1.length).1,s.2.2.2.2.2.2.2)=aB6 s m:=by
 unfold aB6;rw[if_pos ⟨h,h2⟩]
theorem aPQ {s:aR} (h:gY s=true) {k:Nat} (hk:k<s.2.2.2.2.2.1.length):0<(s.2.2.2.2.2.1.getD k (aK aJ)).2.length/\dX ((s.2.2.2.2.2.1.getD k (aK aJ)).2.getD 0 []) (kD s.2.2.1)=true:=by
 have hm:=(cA s).1 h
 have h4:=hm.2.2.2.1
 rw[List.all_eq_true] at h4
 have h5:=(aAO _ _ _).1 (h4 _ (List.getElem_mem hk))
 have h8:=(bO _).1 hm.1
 have h6:=h5.2 0 (by unfold aH0;split<;>omega)
 rw[aP hk]
 refine⟨by have h7:=h5.1;unfold aH0 at h7;split at h7<;>omega,?_⟩
 have e:lC s.2.2.1 0=kD s.2.2.1:=by unfold lC kD;rw[if_pos hm.1,if_pos (by omega)]
 rw[<-e];exact h6
noncomputable def aJD:Con:=⟨209,(.cMV aB tI),aB,[.val ⟨true,aB,[]⟩,.val ⟨false,tI,[]⟩],[⟨true,aB,[0,2,2,0,0,2,2,2,2,2,2,2,0,0]⟩],false,none,
 ((fun x=>bC aB x.1<=1000000000):(aR×Int)->Prop),
 ((fun x=>aB6 x.1 x.2):(aR×Int)->(aR))⟩
def aSE:T:=nC (fQ aB) <| dF 1 aS (gS aB 5 aB 0) (iX aB) <| gH 2 (fQ aB) 3 4 aZ <| aEH bM 5 aZ <| nS aJ aS (gS aB 5 aB 0) 2 <| bZ 253 aA aF (gG 6) aN <| .call 3 (fQ aB) <| mT 4 aG cM cY <| fB [fS,fW,fT,fU,fV,dC,wF 9,dO aB 7 1]
theorem bI7:Con.Holds Tryz.prog aJD:=tk ⟨[],[]⟩ aSE (aC aDP (aC aIV (aC aEC (aC aIB (aC bHL aH))))) fun(x:aR×Int) hx hp=>by
 dsimp only [aJD] at hx hp⊢
 obtain⟨s,m⟩:=x
 delta aSE vR zK xG aAQ aMJ;refine dR ?_
 refine dQ ?_
 refine⟨hp,fun _ _=>⟨fun h=>bCC (.inl h),fun h1=>⟨fun h=>bCC (.inr h),fun h2=>?_⟩⟩⟩
 have hf:=aP9 s.2.2.2.2.2.1 m s.2.2.2.2.2.1.length
 have hf2:kC s.2.2.2.2.2.1 m<(s.2.2.2.2.2.1.length:Int):=hf.2
 have hs:=aPQ h1 (k:=(kC s.2.2.2.2.2.1 m).toNat) (by omega)
 have hin:aQI s.2.2.1 ((s.2.2.2.2.2.1.getD (kC s.2.2.2.2.2.1 m).toNat (aK aJ)).2.getD 0 [])=_:=if_pos ⟨((cA s).1 h1).1,hs.2⟩
 have hy:=bGB h1 h2
 rw[<-hin] at hy
 (repeat' first|intro _|(with_reducible apply And.intro))
 all_goals first|omega|exact hy|skip
noncomputable def aIN:Con:=⟨216,(.cMV aB tI),aB,[.val ⟨true,aB,[]⟩,.val ⟨false,tI,[]⟩],[⟨true,aB,[0,2,2,0,0,2,2,2,2,2,2,2,0,0]⟩],false,none,
 ((fun x=>bC aB x.1<=1000000000):(aR×Int)->Prop),
 ((fun x=>aB6 x.1 x.2):(aR×Int)->(aR))⟩
def aSG:T:=nC (fQ aB) <| dF 1 aS (gS aB 5 aB 0) (iX aB) <| gH 2 (fQ aB) 3 4 aZ <| aEH bM 5 aZ <| nS aJ aS (gS aB 5 aB 0) 2 <| bZ 253 aA aF (gG 6) aN <| mT 3 aG (gS aB 2 aB 0) cY <| fB [fS,fW,fT,fU,fV,dC,wF 8,dO aB 7 1]
theorem bI2:Con.Holds Tryz.prog aIN:=tk ⟨[],[]⟩ aSG (aC aHY (aC aJE (aC aDU (aC aVG aH)))) fun(x:aR×Int) hx hp=>by
 dsimp only [aIN] at hx hp⊢
 obtain⟨s,m⟩:=x
 delta aSG aB3 zJ wY aFH;refine dR ?_
 refine dQ ?_
 refine⟨hp,fun _ _=>⟨fun h=>bCC (.inl h),fun h1=>⟨fun h=>bCC (.inr h),fun h2=>?_⟩⟩⟩
 have hf:=aP9 s.2.2.2.2.2.1 m s.2.2.2.2.2.1.length
 have hf2:kC s.2.2.2.2.2.1 m<(s.2.2.2.2.2.1.length:Int):=hf.2
 have hs:=aPQ h1 (k:=(kC s.2.2.2.2.2.1 m).toNat) (by omega)
 have hv:=((cS _ _).1 hs.2).1
 have Eo:=(bO _).1 ((cA s).1 h1).1
 have hy:=bGB h1 h2
 (repeat' first|intro _|(with_reducible apply And.intro))
 all_goals first|omega|exact hy|exact⟨hv,Eo.2.1⟩|exact hv|exact Eo.2.1|skip
end Go.Proofs.YtfmfeplebgbpmaaGreat
