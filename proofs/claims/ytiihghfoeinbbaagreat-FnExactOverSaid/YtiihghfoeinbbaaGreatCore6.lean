/- Core6: lemmas. No conditions. -/
import Derived.Test.YtiihghfoeinbbaaGreatSeq5
import Derived.Test.YtiihghfoeinbbaaGreatPipe4
import Derived.Test.YtiihghfoeinbbaaGreatCe
namespace Go.Proofs.YtiihghfoeinbbaaGreat
noncomputable section
set_option maxRecDepth 100000
open Go.ChangeShapes Go.WideShapes Go.ChangeAt Go.RowKit Go.Deep
set_option linter.unusedVariables false
set_option linter.unusedSimpArgs false
theorem gX:{t:Ty}→{d:t.D}→bD t d≤1000000000→bDW t d:=by
 intro t
 induction t with
 | int k=>intros;trivial
 | bool=>intros;trivial
 | str=>intros;trivial
 | bMC a b iha ihb =>
  intro d h
  have h':bD a d.1+bD b d.2≤1000000000:=h
  exact ⟨iha (by omega),ihb (by omega)⟩
 | slice e t ih =>
  intro l h
  exact ⟨Nat.le_trans (xQ (e:=e) l) h,fun x hx=>ih (Nat.le_trans (yT (e:=e) hx) h)⟩
theorem aHY {e:TypeId} {l:cV} (h:bDW (.slice e aF8) l):List.length l≤1000000000∧∀ y∈l,List.length y≤1000000000:=⟨h.1,fun y hy=>(h.2 y hy).1⟩
theorem aU2 {g:eY} (h:bDW aU g):jQ g:=aHY h.1
def bID:cL:=aX aF
def uQ (q:cE) (x:cL):cE × Bool:=if gJ q=true∧wU x=true∧(q.2.length:Int)<q.1 then ((q.1,q.2++[x]),true) else (q,false)
def wF (q:cE):cE × (cL × Bool):=if gJ q=true∧0<q.2.length then ((q.1,q.2.drop 1),q.2.getD 0 bID,true) else (q,bID,false)
theorem gG {q:cE} {x:cL} (h:gJ q=false∨wU x=false∨¬ (q.2.length:Int)<q.1):(q,false)=uQ q x:=by
 unfold uQ;rw[if_neg]
 rintro ⟨h1,h2,h3⟩
 rcases h with h|h|h
 ·rw[h] at h1;cases h1
 ·rw[h] at h2;cases h2
 ·exact h h3
theorem oX {q:cE} {x:cL} (h1:gJ q=true) (h2:wU x=true) (h3:(q.2.length:Int)<q.1):((q.1,q.2++[x]),true)=uQ q x:=by unfold uQ;rw[if_pos ⟨h1,h2,h3⟩]
theorem aBM {q:cE} (h:gJ q=false∨q.2.length=0):(q,(0,[]),false)=wF q:=by
 unfold wF;rw[if_neg]
 ·rfl
 rintro ⟨h1,h2⟩
 rcases h with h|h
 ·rw[h] at h1;cases h1
 ·omega
theorem tT {q:cE} (h1:gJ q=true) (h2:0<q.2.length):((q.1,q.2.drop 1),q.2.getD 0 bID,true)=wF q:=by unfold wF;rw[if_pos ⟨h1,h2⟩]
theorem zV {x:cL} (h:iK x.2=false∨x.1<0∨4<x.1):wU x=false:=by
 refine Bool.eq_false_iff.2 fun hh=>?_
 rw[kH] at hh
 rcases h with h|h
 ·rw[h] at hh;cases hh.1
 ·omega
theorem aPN {x:cL} (h:iK x.2=true) (h2:0≤x.1) (h3:x.1<5):wU x=true:=(kH _).2 ⟨h,h2,h3⟩
theorem aBI {x:cL} (h:wU x=true):x.2.length≤6:=((cP _).1 ((kH _).1 h).1).2.1
theorem aBS {q:cE} (h:gJ q=true):(q.2.length:Int)≤q.1∧q.2.length≤5:=by have:=(nX.1 h).1;omega
theorem uG {q:cE} (h:gJ q=true) (h2:0<q.2.length):(q.2.getD 0 (aX aF)).2.length≤6:=aBI ((nX.1 h).2 0 h2)
def nV (l:List eZ) (m:Int):Nat→Int
 | 0=>-1
 | k+1=>if nV l m k = -1∧(l.getD k (aX aD)).1=m then (k:Int) else nV l m k
def dU (l:List eZ) (m:Int):Int:=nV l m l.length
theorem aAY (l:List eZ) (m:Int):(k:Nat)→-1≤nV l m k∧nV l m k<k
 | 0=>by unfold nV;omega
 | k+1=>by
  have:=aAY l m k
  unfold nV;split <;> omega
theorem aJS {l : List eZ} {m : Int} : {k n : Nat} → k ≤ n → nV l m k ≠ -1 → nV l m n = nV l m k
  | k, 0, h, _ => by have : k = 0 := by omega
                     subst this; rfl
  | k, n + 1, h, hk => by
    rcases Nat.lt_or_eq_of_le h with h | rfl
    · have e := aJS (Nat.le_of_lt_succ h) hk
      rw [nV, if_neg (fun hh => hk (e ▸ hh.1)), e]
    · rfl
theorem aN6 {l:List eZ} {m:Int} {k:Nat} (hk:k<l.length) (h:nV l m k = -1) (hm:(l.getD k (aX aD)).1=m):(k:Int)=dU l m:=by
 have e:nV l m (k+1)=k:=by rw[nV,if_pos ⟨h,hm⟩]
 unfold dU
 rw[aJS (k:=k+1) hk (by omega),e]
theorem aNQ {l:List eZ} {m:Int} {k:Nat} (h:nV l m k = -1) (hm:¬ (l.getD k (aX aD)).1=m):nV l m (k+1) = -1:=by rw[nV,if_neg (fun hh=>hm hh.2),h]
def gT:Con:=⟨163,aN,aN,[.val ⟨false,aN,[]⟩],[⟨false,aN,[2]⟩],false,none,
 ((fun x=>bD aN x≤1000000000):(fG)→Prop),
 ((fun x=>x):(fG)→(fG))⟩
def vS:T :=
 .bMD (.bMG 130 aI) (.Z 0) <|
 .loop (.bMC tI aN) (.bME tI aN (.ci .i64 0) (.nl 130 aI)) <|
  .bMD (.cmp .lss .i64) (.bME tI tI (.p1 tI aN (.Z 2)) (.Z 1)) <|
  .ite (.Z 3) (
   .bMD (.bMH 130 aI) (.bME aN tI (.Z 0) (.p1 tI aN (.Z 2))) <|
   .call 0 (.p1 aB aB (.Z 4)) <|
   .call 0 (aQ aI 1 (.Z 4)) <|
   .bMD (.lit 130 aI 1) (.bME aB aB (.Z 5) (.Z 6)) <|
   .bMD (.bMJ 130 aI 48) (.bME aN aN (aQ (.bMC tI aN) 1 (.Z 2)) (.Z 7)) <|
   .bMD (.ar .add .i64) (.bME tI tI (.p1 tI aN (.Z 2)) (.ci .i64 1)) <|
   .bMF 0 (.bME tI aN (.Z 9) (.Z 8))) (
   .ret (aQ (.bMC tI aN) 1 (.Z 2)))
theorem aMU:bL Tryz.prog [bP] gT false 3000 ⟨[(2991,1002,[.dr 6,.dr 0,.tm 9 0,.on 3,.sl 1])],[(2981,3005,[19,16],[])]⟩ = .ok vS:=by kernel_rfl
theorem aM8 (x:fG) (hx:okD aN x) (hp:(fun x=>bD aN x≤1000000000) x):vS.wp [bP] [⟨aN,x⟩] [] (fun v=>v.as aN=(fun x=>x) x):=by
 have hB:=gX (t:=aN) hp
 delta vS bP;refine dD ?_;try with_reducible exact True.intro
 (repeat' first|intro _|(with_reducible apply And.intro))
 all_goals first|omega|(unfold maxLen;omega)|skip
 refine cS (fun k=>((k:Int),List.take k x)) (List.length x) rfl fun I μ k hk _ go=>?_
 dsimp only
 refine eE ?_
 by_cases hkn:k<List.length x
 ·have hm:=hB.2 _ (List.getElem_mem hkn)
  have hn:=hB.1
  rw[aZ hkn]
  (repeat' first|intro _|(refine go _ ?_ ?_ ?_)|(refine go _ ?_ ?_)|(with_reducible apply And.intro))
  all_goals first|omega|exact hm.1.1|exact hm.2.1|(simp only[List.length_take];unfold maxLen;omega)|(simp only[List.length_take];omega)|(rw[iU hkn];rfl)
 ·(repeat' first|intro _|(refine go _ ?_ ?_ ?_)|(refine go _ ?_ ?_)|(with_reducible apply And.intro))
  all_goals first|omega|(have e:k=List.length x:=(by omega);subst e;exact List.take_length)
theorem aCD:Con.Holds Tryz.prog gT:=aR aW (aG gP aS) aMU aM8
def jY:Con:=⟨121,aE,aE,[.val ⟨false,aE,[]⟩],[⟨false,aE,[2]⟩],false,none,
 ((fun x=>bD aE x≤1000000000):(bM)→Prop),
 ((fun x=>x):(bM)→(bM))⟩
def aAG:T :=
 .bMD (.bMG 146 bA) (.Z 0) <|
 .loop (.bMC tI aE) (.bME tI aE (.ci .i64 0) (.nl 146 bA)) <|
  .bMD (.cmp .lss .i64) (.bME tI tI (.p1 tI aE (.Z 2)) (.Z 1)) <|
  .ite (.Z 3) (
   .bMD (.bMH 146 bA) (.bME aE tI (.Z 0) (.p1 tI aE (.Z 2))) <|
   .call 0 (aQ bA 3 (.Z 4)) <|
   .bMD (.lit 146 bA 1) (bE bA [(.p1 tI (.bMC tI aF) (.Z 4)),(aJ bA 1 (.Z 4)),(aJ bA 2 (.Z 4)),(.Z 5)]) <|
   .bMD (.bMJ 146 bA 48) (.bME aE aE (aQ (.bMC tI aE) 1 (.Z 2)) (.Z 6)) <|
   .bMD (.ar .add .i64) (.bME tI tI (.p1 tI aE (.Z 2)) (.ci .i64 1)) <|
   .bMF 0 (.bME tI aE (.Z 8) (.Z 7))) (
   .ret (aQ (.bMC tI aE) 1 (.Z 2)))
theorem aVG:bL Tryz.prog [bP] jY false 3000 ⟨[(2991,1002,[.dr 6,.dr 0,.tm 9 0,.on 3,.sl 1])],[(2981,3005,[22],[])]⟩ = .ok aAG:=by kernel_rfl
theorem aRZ (x:bM) (hx:okD aE x) (hp:(fun x=>bD aE x≤1000000000) x):aAG.wp [bP] [⟨aE,x⟩] [] (fun v=>v.as aE=(fun x=>x) x):=by
 have hB:=gX (t:=aE) hp
 delta aAG bP;refine dD ?_;try with_reducible exact True.intro
 (repeat' first|intro _|(with_reducible apply And.intro))
 all_goals first|omega|(unfold maxLen;omega)|skip
 refine cS (fun k=>((k:Int),List.take k x)) (List.length x) rfl fun I μ k hk _ go=>?_
 dsimp only
 refine eE ?_
 by_cases hkn:k<List.length x
 ·have hm:=hB.2 _ (List.getElem_mem hkn)
  have hn:=hB.1
  rw[aZ hkn]
  (repeat' first|intro _|(refine go _ ?_ ?_ ?_)|(refine go _ ?_ ?_)|(with_reducible apply And.intro))
  all_goals first|omega|exact hm.2.2.2.1|(simp only[List.length_take];unfold maxLen;omega)|(simp only[List.length_take];omega)|(rw[iU hkn];rfl)
 ·(repeat' first|intro _|(refine go _ ?_ ?_ ?_)|(refine go _ ?_ ?_)|(with_reducible apply And.intro))
  all_goals first|omega|(have e:k=List.length x:=(by omega);subst e;exact List.take_length)
theorem aHA:Con.Holds Tryz.prog jY:=aR aW (aG gP aS) aVG aRZ
def eC:Con:=⟨183,aM,aM,[.val ⟨true,aM,[]⟩],[⟨true,aM,[0,2]⟩],false,none,
 ((fun x=>bD aM x≤1000000000):(cE)→Prop),
 ((fun x=>x):(cE)→(cE))⟩
def vK:T :=
 .bMD (.bMG 197 aF) (aQ aM 1 (.Z 0)) <|
 .loop aM (.bME tI (.slice 197 aF) (.ci .i64 0) (.nl 197 aF)) <|
  .bMD (.cmp .lss .i64) (.bME tI tI (.p1 tI (.slice 197 aF) (.Z 2)) (.Z 1)) <|
  .ite (.Z 3) (
   .bMD (.bMH 197 aF) (.bME (.slice 197 aF) tI (aQ aM 1 (.Z 0)) (.p1 tI (.slice 197 aF) (.Z 2))) <|
   .call 0 (aQ aF 1 (.Z 4)) <|
   .bMD (.lit 197 aF 1) (.bME tI aB (.p1 tI aB (.Z 4)) (.Z 5)) <|
   .bMD (.bMJ 197 aF 32) (.bME (.slice 197 aF) (.slice 197 aF) (aQ aM 1 (.Z 2)) (.Z 6)) <|
   .bMD (.ar .add .i64) (.bME tI tI (.p1 tI (.slice 197 aF) (.Z 2)) (.ci .i64 1)) <|
   .bMF 0 (.bME tI (.slice 197 aF) (.Z 8) (.Z 7))) (
   .ret (.bME tI (.slice 197 aF) (.p1 tI (.slice 197 aF) (.Z 0)) (aQ aM 1 (.Z 2))))
theorem aLV:bL Tryz.prog [bP] eC false 3000 ⟨[(2991,1002,iQ 9 6++[.dr 1,.dr 0,.tm 12 0,.sl 6])],[(2981,3005,[22],[])]⟩ = .ok vK:=by kernel_rfl
theorem aMW (x:cE) (hx:okD aM x) (hp:(fun x=>bD aM x≤1000000000) x):vK.wp [bP] [⟨aM,x⟩] [] (fun v=>v.as aM=(fun x=>x) x):=by
 obtain ⟨c,l⟩:=x
 have hB:=(gX (t:=aM) hp).2
 have hn:List.length l≤1000000000:=hB.1
 delta vK bP;refine dD ?_;try with_reducible exact True.intro
 (repeat' first|intro _|(with_reducible apply And.intro))
 all_goals first|omega|(unfold maxLen;omega)|skip
 refine cS (fun k=>((k:Int),List.take k l)) (List.length l) rfl fun I μ k hk _ go=>?_
 dsimp only
 refine eE ?_
 by_cases hkn:k<List.length l
 ·have hm:=hB.2 _ (List.getElem_mem hkn)
  have hn:=hB.1
  rw[aZ hkn]
  (repeat' first|intro _|(refine go _ ?_ ?_ ?_)|(refine go _ ?_ ?_)|(with_reducible apply And.intro))
  all_goals first|omega|exact hm.2.1|(simp only[List.length_take];unfold maxLen;omega)|(simp only[List.length_take];omega)|(rw[iU hkn];rfl)
 ·(repeat' first|intro _|(refine go _ ?_ ?_ ?_)|(refine go _ ?_ ?_)|(with_reducible apply And.intro))
  all_goals first|omega|(have e:k=List.length l:=(by omega);subst e;exact congrArg (Prod.mk c) List.take_length)
theorem vC:Con.Holds Tryz.prog eC:=aR aW (aG gP aS) aLV aMW
def gA:Con:=⟨179,aM,aM,[.val ⟨true,aM,[]⟩],[⟨true,aM,[0,2]⟩],false,none,
 ((fun x=>bD aM x≤1000000000):(cE)→Prop),
 ((fun x=>x):(cE)→(cE))⟩
def aBE:T:=.loop aM (.bME tI (.slice 197 aF) (.ci .i64 0) (.nl 197 aF)) <|
 .bMD (.bMG 197 aF) (aQ aM 1 (.Z 0)) <|
 .bMD (.cmp .lss .i64) (.bME tI tI (.p1 tI (.slice 197 aF) (.Z 1)) (.Z 2)) <|
 .ite (.Z 3) (
  .bMD (.bMH 197 aF) (.bME (.slice 197 aF) tI (aQ aM 1 (.Z 0)) (.p1 tI (.slice 197 aF) (.Z 1))) <|
  .bMD (.bMH 197 aF) (.bME (.slice 197 aF) tI (aQ aM 1 (.Z 0)) (.p1 tI (.slice 197 aF) (.Z 1))) <|
  .bMD (.bMJ 3 tI 8) (.bME aB aB (.nl 3 tI) (aQ aF 1 (.Z 5))) <|
  .bMD (.lit 197 aF 1) (.bME tI aB (.p1 tI aB (.Z 4)) (.Z 6)) <|
  .bMD (.bMJ 197 aF 32) (.bME (.slice 197 aF) (.slice 197 aF) (aQ aM 1 (.Z 1)) (.Z 7)) <|
  .bMD (.ar .add .i64) (.bME tI tI (.p1 tI (.slice 197 aF) (.Z 1)) (.ci .i64 1)) <|
  .bMF 0 (.bME tI (.slice 197 aF) (.Z 9) (.Z 8))) (
  .ret (.bME tI (.slice 197 aF) (.p1 tI (.slice 197 aF) (.Z 0)) (aQ aM 1 (.Z 1))))
theorem aUQ:bL Tryz.prog [] gA false 3000 ⟨[(2991,1001,[.dr 5,.dr 0,.tm 4 0,.on 3,.sl 4])],[(2983,3004,[27],[])]⟩ = .ok aBE:=by kernel_rfl
theorem aSI (x:cE) (hx:okD aM x) (hp:(fun x=>bD aM x≤1000000000) x):aBE.wp [] [⟨aM,x⟩] [] (fun v=>v.as aM=(fun x=>x) x):=by
 obtain ⟨c,l⟩:=x
 have hB:=(gX (t:=aM) hp).2
 have hn:List.length l≤1000000000:=hB.1
 delta aBE;refine dD ?_;try with_reducible exact True.intro
 (repeat' first|intro _|(with_reducible apply And.intro))
 all_goals first|omega|(unfold maxLen;omega)|skip
 refine cS (fun k=>((k:Int),List.take k l)) (List.length l) rfl fun I μ k hk _ go=>?_
 dsimp only
 refine eE ?_
 by_cases hkn:k<List.length l
 ·have hm:=hB.2 _ (List.getElem_mem hkn)
  have hn:=hB.1
  have hn2:=hm.2.1
  rw[aZ hkn]
  (repeat' first|intro _|(refine go _ ?_ ?_ ?_)|(refine go _ ?_ ?_)|(with_reducible apply And.intro))
  all_goals first|omega|(unfold maxLen;omega)|(simp only[List.length_take];unfold maxLen;omega)|(simp only[List.length_take];omega)|(rw[iU hkn];rfl)
 ·(repeat' first|intro _|(refine go _ ?_ ?_ ?_)|(refine go _ ?_ ?_)|(with_reducible apply And.intro))
  all_goals first|omega|(have e:k=List.length l:=(by omega);subst e;exact congrArg (Prod.mk c) List.take_length)
theorem aAA:Con.Holds Tryz.prog gA:=aR aW aS aUQ aSI
def aBF:Con:=⟨172,(.bMC aM aF),(.bMC aM .bool),[.val ⟨true,aM,[]⟩,.val ⟨true,aF,[]⟩],[⟨true,aM,[0,2]⟩,⟨false,.bool,[0]⟩],false,none,
 ((fun x=>bD aM x.1≤1000000000):(cE × cL)→Prop),
 ((fun x=>uQ x.1 x.2):(cE × cL)→(cE × Bool))⟩
def aKF:T:=.call 0 (.p1 aM aF (.Z 0)) <|.call 1 (.p1 aM aF (.Z 0)) <|
 .bMD .not (.Z 2) <|
 .ite (.Z 3) (
  .ret (.bME aM .bool (.Z 1) (.cb false))) (
  .call 2 (aQ (.bMC aM aF) 1 (.Z 0)) <|
  .bMD .not (.Z 4) <|
  .ite (.Z 5) (
   .ret (.bME aM .bool (.Z 1) (.cb false))) (
   .bMD (.bMG 197 aF) (aQ aM 1 (.p1 aM aF (.Z 0))) <|
   .bMD (.cmp .eql .i64) (.bME tI tI (.Z 6) (.p1 tI (.slice 197 aF) (.p1 aM aF (.Z 0)))) <|
   .ite (.Z 7) (
    .ret (.bME aM .bool (.Z 1) (.cb false))) (
    .call 3 (aQ (.bMC aM aF) 2 (.Z 0)) <|
    .bMD (.lit 197 aF 1) (.bME tI aB (aJ (.bMC aM aF) 1 (.Z 0)) (.Z 8)) <|
    .bMD (.bMJ 197 aF 32) (.bME (.slice 197 aF) (.slice 197 aF) (aQ aM 1 (.Z 1)) (.Z 9)) <|
    .ret (.bME aM .bool (.bME tI (.slice 197 aF) (.p1 tI (.slice 197 aF) (.Z 1)) (.Z 10)) (.cb true)))))
theorem bEQ:bL Tryz.prog [eC,fZ,lL,bP] aBF false 3000 ⟨[],[(2989,8008,[32],[])]⟩ = .ok aKF:=by kernel_rfl
theorem bGL (x:cE × cL) (hx:okD (.bMC aM aF) x) (hp:(fun x=>bD aM x.1≤1000000000) x):aKF.wp [eC,fZ,lL,bP] [⟨(.bMC aM aF),x⟩] [] (fun v=>v.as (.bMC aM .bool)=(fun x=>uQ x.1 x.2) x):=by
 obtain ⟨q,y⟩:=x
 have hB:=gX (t:=aM) hp
 delta aKF eC fZ lL bP;refine dD ?_
 refine ⟨hp,fun _=>?_⟩
 (repeat' first|intro _|(with_reducible apply And.intro))
 all_goals simp only[lU] at *
 all_goals try have hqq:=aBS (by assumption)
 all_goals try have hq8:=uG (by assumption) (by omega)
 all_goals try have hq6:=aBI (by assumption)
 all_goals try have hq7:=(cP _).1 (by assumption)
 all_goals first|omega|(unfold maxLen;omega)|exact gG (.inl (by assumption))|exact gG (.inr (.inl (by assumption)))|exact gG (.inr (.inr (by omega)))|exact aBM (.inl (by assumption))|exact aBM (.inr (by omega))|exact oX (by assumption) (by assumption) (by omega)|exact tT (by assumption) (by omega)|(rw[List.take_length];exact tT (by assumption) (by omega))|exact gG (.inr (.inl (zV (.inl (by assumption)))))|exact gG (.inr (.inl (zV (.inr (by omega)))))|exact oX (by assumption) (aPN (by assumption) (by omega) (by omega)) (by omega)|skip
theorem bGQ:Con.Holds Tryz.prog aBF:=aR aW (aG vC (aG aB9 (aG aJD (aG gP aS)))) bEQ bGL
def eB:Con:=⟨243,(.bMC (.slice 206 aD) tI),tI,[.val ⟨false,(.slice 206 aD),[]⟩,.val ⟨false,tI,[]⟩],[⟨false,tI,[0]⟩],false,none,
 ((fun _=>True):((List eZ) × Int)→Prop),
 ((fun x=>dU x.1 x.2):((List eZ) × Int)→(Int))⟩
def vL:T :=
 .bMD (.bMG 206 aD) (.p1 (.slice 206 aD) tI (.Z 0)) <|
 .loop tI (.ci .i64 0) <|
  .bMD (.cmp .lss .i64) (.bME tI tI (.Z 2) (.Z 1)) <|
  .ite (.Z 3) (
   .bMD (.bMH 206 aD) (.bME (.slice 206 aD) tI (.p1 (.slice 206 aD) tI (.Z 0)) (.Z 2)) <|
   .bMD (.cmp .eql .i64) (.bME tI tI (.p1 tI aH (.Z 4)) (aQ (.bMC (.slice 206 aD) tI) 1 (.Z 0))) <|
   .ite (.Z 5) (
    .ret (.Z 2)) (
    .bMD (.ar .add .i64) (.bME tI tI (.Z 2) (.ci .i64 1)) <|
    .bMF 0 (.Z 6))) (
   .ret (.ci .i64 (-1)))
theorem aM2:bL Tryz.prog [] eB false 3000 ⟨[(2993,1002,[.dr 0,.tm 9 0])],[]⟩ = .ok vL:=by kernel_rfl
theorem aMA (x:(List eZ) × Int) (hx:okD (.bMC (.slice 206 aD) tI) x) (hp:(fun _=>True) x):vL.wp [] [⟨(.bMC (.slice 206 aD) tI),x⟩] [] (fun v=>v.as tI=(fun x=>dU x.1 x.2) x):=by
 obtain ⟨l,m⟩:=x
 have hm:l.length≤9223372036854775807:=hx.1.1
 delta vL;refine dD ?_;try with_reducible exact True.intro
 (repeat' first|intro _|(with_reducible apply And.intro))
 all_goals first|omega|(unfold maxLen;omega)|skip
 refine uK (fun k=>(k:Int)) (fun k=>nV l m k = -1) (List.length l) rfl rfl fun I μ k hk hg _ go=>?_
 try dsimp only
 (refine eE ?_;try with_reducible exact True.intro)
 (repeat' first|intro _|(refine go _ ?_ ?_ ?_)|(refine go _ ?_ ?_)|(with_reducible apply And.intro))
 all_goals first|omega|exact aN6 (by omega) hg (by assumption)|exact aNQ hg (by assumption)|rfl|(have e:k=List.length l:=(by omega);subst e;exact hg.symm)
theorem vU:Con.Holds Tryz.prog eB:=aR aW aS aM2 aMA
def eD:Con:=⟨234,(.bMC (.slice 206 aD) tI),tI,[.val ⟨false,(.slice 206 aD),[]⟩,.val ⟨false,tI,[]⟩],[⟨false,tI,[0]⟩],false,none,
 ((fun _=>True):((List eZ) × Int)→Prop),
 ((fun x=>dU x.1 x.2):((List eZ) × Int)→(Int))⟩
def vM:T:=.loop tI (.ci .i64 0) <|
 .bMD (.bMG 206 aD) (.p1 (.slice 206 aD) tI (.Z 0)) <|
 .bMD (.cmp .lss .i64) (.bME tI tI (.Z 1) (.Z 2)) <|
 .ite (.Z 3) (
  .bMD (.bMH 206 aD) (.bME (.slice 206 aD) tI (.p1 (.slice 206 aD) tI (.Z 0)) (.Z 1)) <|
  .bMD (.cmp .eql .i64) (.bME tI tI (.p1 tI aH (.Z 4)) (aQ (.bMC (.slice 206 aD) tI) 1 (.Z 0))) <|
  .ite (.Z 5) (
   .ret (.Z 1)) (
   .bMD (.ar .add .i64) (.bME tI tI (.Z 1) (.ci .i64 1)) <|
   .bMF 0 (.Z 6))) (
  .ret (.ci .i64 (-1)))
theorem aMB:bL Tryz.prog [] eD false 3000 ⟨[(2993,1001,[.tm 5 0])],[]⟩ = .ok vM:=by kernel_rfl
theorem aMY (x:(List eZ) × Int) (hx:okD (.bMC (.slice 206 aD) tI) x) (hp:(fun _=>True) x):vM.wp [] [⟨(.bMC (.slice 206 aD) tI),x⟩] [] (fun v=>v.as tI=(fun x=>dU x.1 x.2) x):=by
 obtain ⟨l,m⟩:=x
 have hm:l.length≤9223372036854775807:=hx.1.1
 delta vM;refine dD ?_;try with_reducible exact True.intro
 (repeat' first|intro _|(with_reducible apply And.intro))
 all_goals first|omega|(unfold maxLen;omega)|skip
 refine uK (fun k=>(k:Int)) (fun k=>nV l m k = -1) (List.length l) rfl rfl fun I μ k hk hg _ go=>?_
 try dsimp only
 (refine eE ?_;try with_reducible exact True.intro)
 (repeat' first|intro _|(refine go _ ?_ ?_ ?_)|(refine go _ ?_ ?_)|(with_reducible apply And.intro))
 all_goals first|omega|exact aN6 (by omega) hg (by assumption)|exact aNQ hg (by assumption)|rfl|(have e:k=List.length l:=(by omega);subst e;exact hg.symm)
theorem uW:Con.Holds Tryz.prog eD:=aR aW aS aMB aMY
def lD:Con:=⟨54,aE,aE,[.val ⟨false,aE,[]⟩],[⟨false,aE,[2]⟩],false,none,
 ((fun x=>bD aE x≤1000000000):(bM)→Prop),
 ((fun x=>x):(bM)→(bM))⟩
def aCQ:T:=.loop (.bMC tI aE) (.bME tI aE (.ci .i64 0) (.nl 146 bA)) <|
 .bMD (.bMG 146 bA) (.Z 0) <|
 .bMD (.cmp .lss .i64) (.bME tI tI (.p1 tI aE (.Z 1)) (.Z 2)) <|
 .ite (.Z 3) (
  .bMD (.bMH 146 bA) (.bME aE tI (.Z 0) (.p1 tI aE (.Z 1))) <|
  .bMD (.bMH 146 bA) (.bME aE tI (.Z 0) (.p1 tI aE (.Z 1))) <|
  .bMD (.bMJ 3 tI 8) (.bME aB aB (.nl 3 tI) (aQ bA 3 (.Z 5))) <|
  .bMD (.lit 146 bA 1) (bE bA [(.p1 tI (.bMC tI aF) (.Z 4)),(aJ bA 1 (.Z 4)),(aJ bA 2 (.Z 4)),(.Z 6)]) <|
  .bMD (.bMJ 146 bA 48) (.bME aE aE (aQ (.bMC tI aE) 1 (.Z 1)) (.Z 7)) <|
  .bMD (.ar .add .i64) (.bME tI tI (.p1 tI aE (.Z 1)) (.ci .i64 1)) <|
  .bMF 0 (.bME tI aE (.Z 9) (.Z 8))) (
  .ret (aQ (.bMC tI aE) 1 (.Z 1)))
theorem aY0:bL Tryz.prog [] lD false 3000 ⟨[(2991,1001,[.dr 6,.tm 4 0,.on 3,.sl 1])],[(2979,3007,[],[4])]⟩ = .ok aCQ:=by kernel_rfl
theorem aVM (x:bM) (hx:okD aE x) (hp:(fun x=>bD aE x≤1000000000) x):aCQ.wp [] [⟨aE,x⟩] [] (fun v=>v.as aE=(fun x=>x) x):=by
 have hB:=gX (t:=aE) hp
 delta aCQ;refine dD ?_;try with_reducible exact True.intro
 (repeat' first|intro _|(with_reducible apply And.intro))
 all_goals first|omega|(unfold maxLen;omega)|skip
 refine cS (fun k=>((k:Int),List.take k x)) (List.length x) rfl fun I μ k hk _ go=>?_
 dsimp only
 refine eE ?_
 by_cases hkn:k<List.length x
 ·have hm:=hB.2 _ (List.getElem_mem hkn)
  have hn:=hB.1
  rw[aZ hkn]
  (repeat' first|intro _|(refine go _ ?_ ?_ ?_)|(refine go _ ?_ ?_)|(with_reducible apply And.intro))
  all_goals first|omega|(have hn2:=hm.2.2.2.1;omega)|(have hn2:=hm.2.2.2.1;unfold maxLen;omega)|(simp only[List.length_take];unfold maxLen;omega)|(simp only[List.length_take];omega)|(rw[iU hkn];rfl)
 ·(repeat' first|intro _|(refine go _ ?_ ?_ ?_)|(refine go _ ?_ ?_)|(with_reducible apply And.intro))
  all_goals first|omega|(have e:k=List.length x:=(by omega);subst e;exact List.take_length)
theorem aJ6:Con.Holds Tryz.prog lD:=aR aW aS aY0 aVM
def aB3:Con:=⟨159,(.bMC aM aF),(.bMC aM .bool),[.val ⟨true,aM,[]⟩,.val ⟨true,aF,[]⟩],[⟨true,aM,[0,2]⟩,⟨false,.bool,[0]⟩],false,none,
 ((fun x=>bD aM x.1≤1000000000):(cE × cL)→Prop),
 ((fun x=>uQ x.1 x.2):(cE × cL)→(cE × Bool))⟩
def aJ3:T:=.call 0 (.p1 aM aF (.Z 0)) <|.call 1 (.p1 aM aF (.Z 0)) <|
 .bMD .not (.Z 2) <|
 .ite (.Z 3) (
  .ret (.bME aM .bool (.Z 1) (.cb false))) (
  .bMD (.bMG 197 aF) (aQ aM 1 (.p1 aM aF (.Z 0))) <|
  .bMD (.cmp .geq .i64) (.bME tI tI (.Z 4) (.p1 tI (.slice 197 aF) (.p1 aM aF (.Z 0)))) <|
  .ite (.Z 5) (
   .ret (.bME aM .bool (.Z 1) (.cb false))) (
   .call 2 (aQ (.bMC aM aF) 2 (.Z 0)) <|
   .bMD .not (.Z 6) <|
   .ite (.Z 7) (
    .ret (.bME aM .bool (.Z 1) (.cb false))) (
    .call 3 (bE (.bMC tI aO) [(aJ (.bMC aM aF) 1 (.Z 0)),(.ci .i64 0),(.ci .i64 4)]) <|
    .bMD .not (.Z 8) <|
    .ite (.Z 9) (
     .ret (.bME aM .bool (.Z 1) (.cb false))) (
     .bMD (.bMJ 3 tI 8) (.bME aB aB (.nl 3 tI) (aQ (.bMC aM aF) 2 (.Z 0))) <|
     .bMD (.lit 197 aF 1) (.bME tI aB (aJ (.bMC aM aF) 1 (.Z 0)) (.Z 10)) <|
     .bMD (.bMJ 197 aF 32) (.bME (.slice 197 aF) (.slice 197 aF) (aQ aM 1 (.Z 1)) (.Z 11)) <|
     .ret (.bME aM .bool (.bME tI (.slice 197 aF) (.p1 tI (.slice 197 aF) (.Z 1)) (.Z 12)) (.cb true))))))
theorem bH4:bL Tryz.prog [gA,gC,bI,bH] aB3 false 3000 ⟨[],[(2989,16010,[40],[])]⟩ = .ok aJ3:=by kernel_rfl
theorem bG7 (x:cE × cL) (hx:okD (.bMC aM aF) x) (hp:(fun x=>bD aM x.1≤1000000000) x):aJ3.wp [gA,gC,bI,bH] [⟨(.bMC aM aF),x⟩] [] (fun v=>v.as (.bMC aM .bool)=(fun x=>uQ x.1 x.2) x):=by
 obtain ⟨q,y⟩:=x
 have hB:=gX (t:=aM) hp
 delta aJ3 gA gC bI bH;refine dD ?_
 refine ⟨hp,fun _=>?_⟩
 (repeat' first|intro _|(with_reducible apply And.intro))
 all_goals simp only[lU] at *
 all_goals try have hqq:=aBS (by assumption)
 all_goals try have hq8:=uG (by assumption) (by omega)
 all_goals try have hq6:=aBI (by assumption)
 all_goals try have hq7:=(cP _).1 (by assumption)
 all_goals first|omega|(unfold maxLen;omega)|exact gG (.inl (by assumption))|exact gG (.inr (.inl (by assumption)))|exact gG (.inr (.inr (by omega)))|exact aBM (.inl (by assumption))|exact aBM (.inr (by omega))|exact oX (by assumption) (by assumption) (by omega)|exact tT (by assumption) (by omega)|(rw[List.take_length];exact tT (by assumption) (by omega))|exact gG (.inr (.inl (zV (.inl (by assumption)))))|exact gG (.inr (.inl (zV (.inr (by omega)))))|exact oX (by assumption) (aPN (by assumption) (by omega) (by omega)) (by omega)|skip
theorem bEZ:Con.Holds Tryz.prog aB3:=aR aW (aG aAA (aG zN (aG fD (aG eS aS)))) bH4 bG7
def aEM:Con:=⟨170,aM,(.bMC aM (.bMC aF .bool)),[.val ⟨true,aM,[]⟩],[⟨true,aM,[0,0]⟩,⟨true,aF,[0,0]⟩,⟨false,.bool,[0]⟩],false,none,
 ((fun x=>bD aM x≤1000000000):(cE)→Prop),
 ((fun x=>wF x):(cE)→(cE × (cL × Bool)))⟩
def aQX:T:=.call 0 (.Z 0) <|.call 1 (.Z 0) <|
 .bMD .not (.Z 2) <|
 .ite (.Z 3) (
  .ret (bE (.bMC aM (.bMC aF .bool)) [(.Z 1),(.bME tI aB (.ci .i64 0) (.nl 3 tI)),(.cb false)])) (
  .bMD (.bMG 197 aF) (aQ aM 1 (.Z 0)) <|
  .bMD (.cmp .eql .i64) (.bME tI tI (.Z 4) (.ci .i64 0)) <|
  .ite (.Z 5) (
   .ret (bE (.bMC aM (.bMC aF .bool)) [(.Z 1),(.bME tI aB (.ci .i64 0) (.nl 3 tI)),(.cb false)])) (
   .bMD (.bMH 197 aF) (.bME (.slice 197 aF) tI (aQ aM 1 (.Z 1)) (.ci .i64 0)) <|
   .bMD (.bMH 197 aF) (.bME (.slice 197 aF) tI (aQ aM 1 (.Z 1)) (.ci .i64 0)) <|
   .bMD (.bMG 197 aF) (aQ aM 1 (.Z 1)) <|
   .bMD (.bMI 197 aF) (bE (.bMC (.slice 197 aF) aO) [(aQ aM 1 (.Z 1)),(.ci .i64 1),(.Z 8)]) <|
   .ret (bE (.bMC aM (.bMC aF .bool)) [(.bME tI (.slice 197 aF) (.p1 tI (.slice 197 aF) (.Z 1)) (.Z 9)),(.Z 7),(.cb true)])))
theorem bJ4:bL Tryz.prog [eC,fZ] aEM false 3000 ⟨[],[(2987,4008,[],[6])]⟩ = .ok aQX:=by kernel_rfl
theorem bJU (x:cE) (hx:okD aM x) (hp:(fun x=>bD aM x≤1000000000) x):aQX.wp [eC,fZ] [⟨aM,x⟩] [] (fun v=>v.as (.bMC aM (.bMC aF .bool))=(fun x=>wF x) x):=by
 have hB:=gX (t:=aM) hp
 delta aQX eC fZ;refine dD ?_
 refine ⟨hp,fun _=>?_⟩
 (repeat' first|intro _|(with_reducible apply And.intro))
 all_goals simp only[lU] at *
 all_goals try have hqq:=aBS (by assumption)
 all_goals try have hq8:=uG (by assumption) (by omega)
 all_goals try have hq6:=aBI (by assumption)
 all_goals try have hq7:=(cP _).1 (by assumption)
 all_goals first|omega|(unfold maxLen;omega)|exact gG (.inl (by assumption))|exact gG (.inr (.inl (by assumption)))|exact gG (.inr (.inr (by omega)))|exact aBM (.inl (by assumption))|exact aBM (.inr (by omega))|exact oX (by assumption) (by assumption) (by omega)|exact tT (by assumption) (by omega)|(rw[List.take_length];exact tT (by assumption) (by omega))|exact gG (.inr (.inl (zV (.inl (by assumption)))))|exact gG (.inr (.inl (zV (.inr (by omega)))))|exact oX (by assumption) (aPN (by assumption) (by omega) (by omega)) (by omega)|skip
theorem bJ0:Con.Holds Tryz.prog aEM:=aR aW (aG vC (aG aB9 aS)) bJ4 bJU
def aEP:Con:=⟨157,aM,(.bMC aM (.bMC aF .bool)),[.val ⟨true,aM,[]⟩],[⟨true,aM,[0,0]⟩,⟨true,aF,[0,0]⟩,⟨false,.bool,[0]⟩],false,none,
 ((fun x=>bD aM x≤1000000000):(cE)→Prop),
 ((fun x=>wF x):(cE)→(cE × (cL × Bool)))⟩
def aPC:T:=.call 0 (.Z 0) <|.call 1 (.Z 0) <|
 .bMD .not (.Z 2) <|
 .ite (.Z 3) (
  .ret (bE (.bMC aM (.bMC aF .bool)) [(.Z 1),(.bME tI aB (.ci .i64 0) (.nl 3 tI)),(.cb false)])) (
  .bMD (.bMG 197 aF) (aQ aM 1 (.Z 0)) <|
  .bMD (.cmp .eql .i64) (.bME tI tI (.Z 4) (.ci .i64 0)) <|
  .ite (.Z 5) (
   .ret (bE (.bMC aM (.bMC aF .bool)) [(.Z 1),(.bME tI aB (.ci .i64 0) (.nl 3 tI)),(.cb false)])) (
   .bMD (.bMH 197 aF) (.bME (.slice 197 aF) tI (aQ aM 1 (.Z 0)) (.ci .i64 0)) <|
   .bMD (.bMG 197 aF) (aQ aM 1 (.Z 1)) <|
   .bMD (.bMI 197 aF) (bE (.bMC (.slice 197 aF) aO) [(aQ aM 1 (.Z 1)),(.ci .i64 1),(.Z 7)]) <|
   .bMD (.bMJ 3 tI 8) (.bME aB aB (.nl 3 tI) (aQ aF 1 (.Z 6))) <|
   .ret (bE (.bMC aM (.bMC aF .bool)) [(.bME tI (.slice 197 aF) (.p1 tI (.slice 197 aF) (.Z 1)) (.Z 8)),(.bME tI aB (.p1 tI aB (.Z 6)) (.Z 9)),(.cb true)])))
theorem bJG:bL Tryz.prog [gA,gC] aEP false 3000 ⟨[],[(2987,4007,[],[6])]⟩ = .ok aPC:=by kernel_rfl
theorem bJC (x:cE) (hx:okD aM x) (hp:(fun x=>bD aM x≤1000000000) x):aPC.wp [gA,gC] [⟨aM,x⟩] [] (fun v=>v.as (.bMC aM (.bMC aF .bool))=(fun x=>wF x) x):=by
 have hB:=gX (t:=aM) hp
 delta aPC gA gC;refine dD ?_
 refine ⟨hp,fun _=>?_⟩
 (repeat' first|intro _|(with_reducible apply And.intro))
 all_goals simp only[lU] at *
 all_goals try have hqq:=aBS (by assumption)
 all_goals try have hq8:=uG (by assumption) (by omega)
 all_goals try have hq6:=aBI (by assumption)
 all_goals try have hq7:=(cP _).1 (by assumption)
 all_goals first|omega|(unfold maxLen;omega)|exact gG (.inl (by assumption))|exact gG (.inr (.inl (by assumption)))|exact gG (.inr (.inr (by omega)))|exact aBM (.inl (by assumption))|exact aBM (.inr (by omega))|exact oX (by assumption) (by assumption) (by omega)|exact tT (by assumption) (by omega)|(rw[List.take_length];exact tT (by assumption) (by omega))|exact gG (.inr (.inl (zV (.inl (by assumption)))))|exact gG (.inr (.inl (zV (.inr (by omega)))))|exact oX (by assumption) (aPN (by assumption) (by omega) (by omega)) (by omega)|skip
theorem bJM:Con.Holds Tryz.prog aEP:=aR aW (aG aAA (aG zN aS)) bJG bJC
end
end Go.Proofs.YtiihghfoeinbbaaGreat
