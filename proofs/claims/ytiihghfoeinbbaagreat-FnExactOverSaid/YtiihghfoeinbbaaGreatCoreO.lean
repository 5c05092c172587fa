/- CoreO: lemmas. No conditions. -/
import Derived.Test.YtiihghfoeinbbaaGreatCoreM
import Derived.Test.YtiihghfoeinbbaaGreatCoreT
namespace Go.Proofs.YtiihghfoeinbbaaGreat
noncomputable section
set_option maxRecDepth 100000
open Go.ChangeShapes Go.WideShapes Go.ChangeAt Go.RowKit Go.Deep
set_option linter.unusedVariables false
set_option linter.unusedSimpArgs false
abbrev bLY:=Int × Int
def qV (p:bO):List Int→List bLY
 | []=>[]
 | s :: l=>(if dJ p s=true then [(s,aS0 ((dQ p s).2.1.getD s.toNat (aX aA)))] else [])++qV (dQ p s) l
theorem aTQ (p:bO):(l m:List Int)→qV p (l++m)=qV p l++qV (pD p l) m
 | [],_=>rfl
 | s :: l,m=>by
  show _++qV (dQ p s) (l++m)=(_++qV (dQ p s) l)++_
  rw[aTQ (dQ p s) l m,List.append_assoc];rfl
theorem aFH (p:bO):(l:List Int)→(qV p l).length≤l.length
 | []=>Nat.le_refl _
 | s :: l=>by
  have h:=aFH (dQ p s) l
  show (_++qV (dQ p s) l).length≤l.length+1
  rw[List.length_append]
  split
  ·rw[List.length_singleton];omega
  ·rw[List.length_nil];omega
theorem aES {p:bO} {l:List Int} {k:Nat} (h:k<l.length):qV p (l.take (k+1))=qV p (l.take k)++(if dJ (pD p (l.take k)) l[k]=true then [(l[k],aS0 ((dQ (pD p (l.take k)) l[k]).2.1.getD (l[k]).toNat (aX aA)))] else []):=by
 rw[aKJ h,aTQ]
 show _++(_++[])=_
 rw[List.append_nil]
theorem aNW {p:bO} {i:Nat} (h:i<p.2.1.length) (hz:bD aL p≤1000000000):bD aA (p.2.1.getD i (aX aA))≤1000000000:=by
 rw[aZ h]
 have h5:bD aA (p.2.1[i])≤bD (.slice 126 aA) p.2.1:=yT (List.getElem_mem h)
 have h6:=aR7 p
 omega
def mH:Con:=⟨37,(.bMC aC (.bMC aN aB)),(.slice 128 aO),[.val ⟨true,aC,[]⟩,.val ⟨false,aN,[]⟩,.val ⟨false,aB,[]⟩],[⟨false,(.slice 128 aO),[2]⟩],false,none,
 ((fun x=>bD aC x.1≤2000000∧bD aN x.2.1≤2000000):(bN × (fG × cD))→Prop),
 ((fun x=>qV (pG x.1 x.2.1) (List.take 2000 x.2.2)):(bN × (fG × cD))→(List fI))⟩
def aLT:T:=.call 0 (.bME aC aN (.p1 aC (.bMC aN aB) (.Z 0)) (aJ (.bMC aC (.bMC aN aB)) 1 (.Z 0))) <|.call 1 (aQ (.bMC aC (.bMC aN aB)) 2 (.Z 0)) <|
 .bMD (.bMG 3 tI) (.Z 2) <|
 .loop (.bMC tI (.bMC (.slice 128 aO) aL)) (bE (.bMC tI (.bMC (.slice 128 aO) aL)) [(.ci .i64 0),(.nl 128 aO),(.Z 1)]) <|
  .bMD (.cmp .lss .i64) (.bME tI tI (.p1 tI (.bMC (.slice 128 aO) aL) (.Z 4)) (.Z 3)) <|
  .ite (.Z 5) (
   .bMD (.bMH 3 tI) (.bME aB tI (.Z 2) (.p1 tI (.bMC (.slice 128 aO) aL) (.Z 4))) <|
   .call 2 (.bME aL tI (aQ (.bMC tI (.bMC (.slice 128 aO) aL)) 2 (.Z 4)) (.Z 6)) <|
   .ite (.Z 7) (
    .call 3 (.bME aL tI (aQ (.bMC tI (.bMC (.slice 128 aO) aL)) 2 (.Z 4)) (.Z 6)) <|
    .bMD (.bMH 126 aA) (.bME (.slice 126 aA) tI (aJ aL 1 (.Z 8)) (.Z 6)) <|
    .call 4 (.Z 9) <|
    .bMD (.lit 128 aO 1) (.bME tI tI (.Z 6) (.Z 10)) <|
    .bMD (.bMJ 128 aO 16) (.bME (.slice 128 aO) (.slice 128 aO) (aJ (.bMC tI (.bMC (.slice 128 aO) aL)) 1 (.Z 4)) (.Z 11)) <|
    .bMD (.ar .add .i64) (.bME tI tI (.p1 tI (.bMC (.slice 128 aO) aL) (.Z 4)) (.ci .i64 1)) <|
    .bMF 0 (bE (.bMC tI (.bMC (.slice 128 aO) aL)) [(.Z 13),(.Z 12),(.Z 8)])) (
    .bMD (.ar .add .i64) (.bME tI tI (.p1 tI (.bMC (.slice 128 aO) aL) (.Z 4)) (.ci .i64 1)) <|
    .bMF 0 (.bME tI (.bMC (.slice 128 aO) aL) (.Z 8) (aQ (.bMC tI (.bMC (.slice 128 aO) aL)) 1 (.Z 4))))) (
   .ret (aJ (.bMC tI (.bMC (.slice 128 aO) aL)) 1 (.Z 4)))
theorem bF7:bL Tryz.prog [pR,lI,jS,zL,tA] mH false 3000 ⟨[(2989,1004,iQ 15 11++[.dr 3,.dr 0,.dr 1,.dr 2,.tm 18 0,.on 8,.fz 2,.fz 3,.fz 4,.fz 5,.sl 11,.bx 6 0,.dk 2,.bx 6 1,.dk 3,.bx 6 2,.dk 4,.bx 6 3,.dk 5])],[]⟩ = .ok aLT:=by kernel_rfl
theorem bEF (x:bN × (fG × cD)) (hx:okD (.bMC aC (.bMC aN aB)) x) (hp:(fun x=>bD aC x.1≤2000000∧bD aN x.2.1≤2000000) x):aLT.wp [pR,lI,jS,zL,tA] [⟨(.bMC aC (.bMC aN aB)),x⟩] [] (fun v=>v.as (.slice 128 aO)=(fun x=>qV (pG x.1 x.2.1) (List.take 2000 x.2.2)) x):=by
 obtain ⟨c,b,l⟩:=x
 obtain ⟨hp1,hp2⟩:bD aC c≤2000000∧bD aN b≤2000000:=hp
 delta aLT pR lI jS zL tA;refine dD ?_
 refine eE ?_
 have hps:=aRH hp1 hp2
 have hL:(List.take 2000 l).length≤2000:=by rw[List.length_take];omega
 refine ⟨⟨by omega,by omega⟩,fun _=>?_⟩
 generalize List.take 2000 l=L at *
 generalize pG c b=P at *
 intro _ _
 refine cS (fun k=>((k:Int),qV P (List.take k L),pD P (List.take k L))) L.length rfl fun I μ k hk _ go=>?_
 dsimp only
 refine eE ?_
 have ht:=aFH P (List.take k L)
 rw[List.length_take] at ht
 constructor
 ·intro hlt
  have hk':k<L.length:=by omega
  have hz:=aI0 (p:=P) L k (by omega) (by omega)
  have hz2:=aI0 (p:=P) L (k+1) (by omega) (by omega)
  rw[wD hk'] at hz2
  have hlen:=aNF (pD P (List.take k L)) L[k]
  simp only[aZ hk']
  refine ⟨by omega,fun _=>⟨fun he=>?_,fun he=>?_⟩⟩
  ·obtain ⟨-,f2,f3⟩:=aBT he
   have hss:=aNW (p:=dQ (pD P (List.take k L)) L[k]) (i:=(L[k]).toNat) (by omega) hz2
   (repeat' first|intro _|(refine go _ ?_ ?_ ?_)|(refine go _ ?_ ?_)|(with_reducible apply And.intro))
   all_goals first|omega|(unfold maxLen;omega)|exact hz|exact hss|skip
   all_goals show _=((((k+1:Nat):Int)),qV P (List.take (k+1) L),pD P (List.take (k+1) L))
   all_goals rw[wD hk',aES hk',if_pos he]
   all_goals rfl
  ·(repeat' first|intro _|(refine go _ ?_ ?_ ?_)|(refine go _ ?_ ?_)|(with_reducible apply And.intro))
   all_goals first|omega|skip
   all_goals show _=((((k+1:Nat):Int)),qV P (List.take (k+1) L),pD P (List.take (k+1) L))
   all_goals rw[wD hk',aES hk',if_neg (by rw[he];simp),List.append_nil,← aID he]
   all_goals rfl
 ·intro hge
  rw[List.take_of_length_le (by omega)]
theorem bGJ:Con.Holds Tryz.prog mH:=aR aW (aG aTV (aG aKR (aG aHK (aG bHX (aG aWX aS))))) bF7 bEF
def mJ:Con:=⟨33,(.bMC aC (.bMC aN aB)),(.slice 128 aO),[.val ⟨true,aC,[]⟩,.val ⟨false,aN,[]⟩,.val ⟨false,aB,[]⟩],[⟨false,(.slice 128 aO),[2]⟩],false,none,
 ((fun x=>bD aC x.1≤2000000∧bD aN x.2.1≤2000000):(bN × (fG × cD))→Prop),
 ((fun x=>qV (pG x.1 x.2.1) (List.take 2000 x.2.2)):(bN × (fG × cD))→(List fI))⟩
def aJR:T:=.call 0 (.bME aC aN (.p1 aC (.bMC aN aB) (.Z 0)) (aJ (.bMC aC (.bMC aN aB)) 1 (.Z 0))) <|.loop (.bMC tI (.bMC (.slice 128 aO) aL)) (bE (.bMC tI (.bMC (.slice 128 aO) aL)) [(.ci .i64 0),(.nl 128 aO),(.Z 1)]) <|
 .bMD (.bMG 3 tI) (aQ (.bMC aC (.bMC aN aB)) 2 (.Z 0)) <|
 .bMD (.cmp .lss .i64) (.bME tI tI (.p1 tI (.bMC (.slice 128 aO) aL) (.Z 2)) (.Z 3)) <|
 .ite (.Z 4) (
  .bMD (.cmp .lss .i64) (.bME tI tI (.p1 tI (.bMC (.slice 128 aO) aL) (.Z 2)) (.ci .i64 2000)) <|
  .ite (.Z 5) (
   .bMD (.bMH 3 tI) (.bME aB tI (aQ (.bMC aC (.bMC aN aB)) 2 (.Z 0)) (.p1 tI (.bMC (.slice 128 aO) aL) (.Z 2))) <|
   .call 1 (.bME aL tI (aQ (.bMC tI (.bMC (.slice 128 aO) aL)) 2 (.Z 2)) (.Z 6)) <|
   .bMD .not (.Z 7) <|
   .ite (.Z 8) (
    .bMD (.ar .add .i64) (.bME tI tI (.p1 tI (.bMC (.slice 128 aO) aL) (.Z 2)) (.ci .i64 1)) <|
    .bMF 0 (.bME tI (.bMC (.slice 128 aO) aL) (.Z 9) (aQ (.bMC tI (.bMC (.slice 128 aO) aL)) 1 (.Z 2)))) (
    .bMD (.bMH 3 tI) (.bME aB tI (aQ (.bMC aC (.bMC aN aB)) 2 (.Z 0)) (.p1 tI (.bMC (.slice 128 aO) aL) (.Z 2))) <|
    .call 2 (.bME aL tI (aQ (.bMC tI (.bMC (.slice 128 aO) aL)) 2 (.Z 2)) (.Z 9)) <|
    .bMD (.bMH 3 tI) (.bME aB tI (aQ (.bMC aC (.bMC aN aB)) 2 (.Z 0)) (.p1 tI (.bMC (.slice 128 aO) aL) (.Z 2))) <|
    .bMD (.bMH 3 tI) (.bME aB tI (aQ (.bMC aC (.bMC aN aB)) 2 (.Z 0)) (.p1 tI (.bMC (.slice 128 aO) aL) (.Z 2))) <|
    .bMD (.bMH 126 aA) (.bME (.slice 126 aA) tI (aJ aL 1 (.Z 10)) (.Z 12)) <|
    .call 3 (.Z 13) <|
    .bMD (.lit 128 aO 1) (.bME tI tI (.Z 11) (.Z 14)) <|
    .bMD (.bMJ 128 aO 16) (.bME (.slice 128 aO) (.slice 128 aO) (aJ (.bMC tI (.bMC (.slice 128 aO) aL)) 1 (.Z 2)) (.Z 15)) <|
    .bMD (.ar .add .i64) (.bME tI tI (.p1 tI (.bMC (.slice 128 aO) aL) (.Z 2)) (.ci .i64 1)) <|
    .bMF 0 (bE (.bMC tI (.bMC (.slice 128 aO) aL)) [(.Z 17),(.Z 16),(.Z 10)]))) (
   .ret (aJ (.bMC tI (.bMC (.slice 128 aO) aL)) 1 (.Z 2)))) (
  .ret (aJ (.bMC tI (.bMC (.slice 128 aO) aL)) 1 (.Z 2)))
theorem bF5:bL Tryz.prog [pQ,jX,aBL,rW] mJ false 3000 ⟨[(2989,1002,iQ 13 10++[.dr 3,.dr 0,.dr 1,.tm 9 0,.on 7,.fz 2,.fz 3,.fz 4,.fz 5,.sl 11,.nb 6,.bx 6 0,.dk 2,.bx 6 1,.dk 3,.bx 6 2,.dk 4,.bx 6 3,.dk 5])],[]⟩ = .ok aJR:=by kernel_rfl
theorem bHO (x:bN × (fG × cD)) (hx:okD (.bMC aC (.bMC aN aB)) x) (hp:(fun x=>bD aC x.1≤2000000∧bD aN x.2.1≤2000000) x):aJR.wp [pQ,jX,aBL,rW] [⟨(.bMC aC (.bMC aN aB)),x⟩] [] (fun v=>v.as (.slice 128 aO)=(fun x=>qV (pG x.1 x.2.1) (List.take 2000 x.2.2)) x):=by
 obtain ⟨c,b,l⟩:=x
 obtain ⟨hp1,hp2⟩:bD aC c≤2000000∧bD aN b≤2000000:=hp
 delta aJR pQ jX aBL rW;refine dD ?_
 refine eE ?_
 have hps:=aRH hp1 hp2
 refine ⟨⟨by omega,by omega⟩,fun _=>?_⟩
 generalize pG c b=P at *
 refine cS (fun k=>((k:Int),qV P (List.take k l),pD P (List.take k l))) (min (List.length l) 2000) rfl fun I μ k hk _ go=>?_
 dsimp only
 refine eE ?_
 have ht:=aFH P (List.take k l)
 rw[List.length_take] at ht
 have fin:k=min (List.length l) 2000→qV P (List.take k l)=qV P (List.take 2000 l):=fun h=>by rw[aO0 h]
 by_cases hk':k<List.length l∧k<2000
 ·have hk1:=hk'.1
  have hz:=aI0 (p:=P) l k (by omega) (by omega)
  have hz2:=aI0 (p:=P) l (k+1) (by omega) (by omega)
  rw[wD hk1] at hz2
  have hlen:=aNF (pD P (List.take k l)) l[k]
  simp only[aZ hk1]
  by_cases he:dJ (pD P (List.take k l)) l[k]=true
  ·obtain ⟨-,f2,f3⟩:=aBT he
   have hss:=aNW (p:=dQ (pD P (List.take k l)) l[k]) (i:=(l[k]).toNat) (by omega) hz2
   simp only[he]
   (repeat' first|intro _|(refine go _ ?_ ?_ ?_)|(refine go _ ?_ ?_)|(with_reducible apply And.intro))
   all_goals first|omega|(unfold maxLen;omega)|exact hz|exact hss|exact absurd (by assumption:true=false) (by decide)|skip
   all_goals show _=((((k+1:Nat):Int)),qV P (List.take (k+1) l),pD P (List.take (k+1) l))
   all_goals rw[wD hk1,aES hk1,if_pos he]
   all_goals rfl
  ·have he2:dJ (pD P (List.take k l)) l[k]=false:=Bool.eq_false_iff.2 he
   simp only[he2]
   (repeat' first|intro _|(refine go _ ?_ ?_ ?_)|(refine go _ ?_ ?_)|(with_reducible apply And.intro))
   all_goals first|omega|exact absurd (by assumption:false=true) (by decide)|skip
   all_goals show _=((((k+1:Nat):Int)),qV P (List.take (k+1) l),pD P (List.take (k+1) l))
   all_goals rw[wD hk1,aES hk1,if_neg he,List.append_nil,← aID he2]
   all_goals rfl
 ·(repeat' first|intro _|(refine go _ ?_ ?_ ?_)|(refine go _ ?_ ?_)|(with_reducible apply And.intro))
  all_goals first|omega|exact fin (by omega)|skip
theorem bI9:Con.Holds Tryz.prog mJ:=aR aW (aG aUV (aG aHO (aG bH2 (aG aYB aS)))) bF5 bHO
end
end Go.Proofs.YtiihghfoeinbbaaGreat
