/- CoreT: lemmas. No conditions. -/
import Derived.Test.YtfmfeplebgbpmaaGreatShow3
import Derived.Test.YtfmfeplebgbpmaaGreatCoreP
namespace Go.Proofs.YtfmfeplebgbpmaaGreat
open Go.ChangeShapes Go.WideShapes Go.ChangeAt Go.RowKit Go.Deep
set_option linter.unusedVariables false
set_option linter.unusedSimpArgs false
noncomputable section
set_option maxRecDepth 100000
theorem bWP {B:Nat} (s:ByteArray):(l:List ByteArray)->(∀p∈l,p.size<=B)->(lZ s l).size<=s.size+B * l.length
 | [],_=>Nat.le_refl _
 | x::l,h=>by
  have h1:=bWP (s++x) l (fun p hp=>h p (List.mem_cons_of_mem _ hp))
  have h2:=h x List.mem_cons_self
  rw[jH] at h1
  show(lZ (s++x) l).size<=_
  rw[List.length_cons,Nat.mul_succ];omega
theorem bGV {B:Nat} (w:WrD):(l:List ByteArray)->(∀p∈l,p.size<=B)->(eN w l).1.length<=w.1.length+B * l.length
 | [],_=>Nat.le_refl _
 | x::l,h=>by
  have h1:=bGV (zR w x) l (fun p hp=>h p (List.mem_cons_of_mem _ hp))
  have h2:=h x List.mem_cons_self
  have h3:(zR w x).1.length=w.1.length+x.size:=by unfold zR;rw[List.length_append,aTN]
  show(eN (zR w x) l).1.length<=_
  rw[List.length_cons,Nat.mul_succ];omega
theorem aID (s:aR):(mE s).size<=400000:=by
 unfold mE
 split
 ·rename_i h
  obtain⟨hl,_⟩:=h
  have hm:=(bO _).1 ((cA s).1 hl.1).1
  have hg:=((xH _ _).1 ((cA s).1 hl.1).2.2.1).1
  have Bg:=aV9 hl.1
  obtain⟨_,h2,h3,h4⟩:=hl
  have hz:szP (lT s):=by
   unfold lT aIR
   exact aLK (jQ (cJ _) vE) (aLK (xJ _ bLH) (aLK (xJ _ bVK) (aLK (xJ _ bLR) (aLK (aBW _) (aLK (jQ (cJ _) (jQ (cJ _) (jQ (cJ _) (jQ (cJ _) vE)))) (aBW _))))))
  have h5:=sP ⟨#[]⟩ (lT s) hz
  have l1:=rJ aEI 1 s.2.1 (fun _ _=>Nat.le_refl _)
  have l2:=rJ opP 2 s.2.2.1 (fun _ _=>Nat.le_refl _)
  have l3:=rJ aAH 11 s.2.2.2.2.2.1 (fun a ha=>by have:=Bg a ha;unfold aAH;rw[List.length_cons,yA];omega)
  have hn:(lT s).length<=220:=by
   unfold lT aIR
   simp only[List.length_append,yA,List.length_cons,List.length_nil]
   omega
  rw[show(⟨#[]⟩:ByteArray).size=0 from rfl] at h5
  omega
 ·exact Nat.zero_le _
def itP (x:cP):List ByteArray:=[gR [x.1],gR x.2]
def sD (q:bE):List ByteArray:=gR [q.1,q.2.length]::q.2.flatMap itP
def uX (x:bT):List ByteArray:=[gR x.1,gR x.2]
theorem bTH (x:cP):szP (itP x):=jQ (cJ _) (jQ (cJ _) vE)
theorem bRL (x:bT):szP (uX x):=jQ (cJ _) (jQ (cJ _) vE)
theorem aK8 (q:bE):szP (sD q):=jQ (cJ _) (xJ _ bTH)
theorem aA8 (q:bE):(sD q).length<=2 * q.2.length+1:=by
 have:=rJ itP 2 q.2 (fun _ _=>Nat.le_refl _)
 unfold sD;rw[List.length_cons];omega
def qsP (a b:List bE) (i:Nat):List ByteArray:=sD (a.getD i (aK aD))++sD (b.getD i (aK aD))
theorem cFU (a b:List bE) (i:Nat):szP (qsP a b i):=aLK (aK8 _) (aK8 _)
def stP (s:aR):List ByteArray:=[mE s]
def aAU (p:aW):List ByteArray:=[gR [(p.1.length:Int),(p.2.1.length:Int)]]++(p.1.flatMap uX++(p.2.1.flatMap stP++(List.range p.2.2.1.length).flatMap (qsP p.2.2.1 p.2.2.2)))
def pR (p:aW):ByteArray:=if nQ p=true/\(p.2.1.all fun s=>!isE (mE s))=true/\(lZ ⟨#[]⟩ (aAU p)).size<=60000 then lZ ⟨#[]⟩ (aAU p) else⟨#[]⟩
theorem bPF {p:aW} (h:¬nQ p=true):(⟨#[]⟩:ByteArray)=pR p:=by unfold pR;rw[if_neg (fun hh=>h hh.1)]
theorem bKP {p:aW} (h:60000<(lZ ⟨#[]⟩ (aAU p)).size):(⟨#[]⟩:ByteArray)=pR p:=by unfold pR;rw[if_neg (fun hh=>by omega)]
theorem cAX {p:aW} {i:Nat} (hi:i<p.2.1.length) (h:mE (p.2.1.getD i (aK aB))=⟨#[]⟩):(⟨#[]⟩:ByteArray)=pR p:=by
 unfold pR
 rw[if_neg (fun hh=>?_)]
 have h1:=List.all_eq_true.1 hh.2.1 _ (List.getElem_mem hi)
 rw[aP hi] at h
 unfold isE at h1
 rw[h] at h1
 exact absurd h1 (by decide)
theorem aG0 {v:List Int} (h:tQ v=true):yX v=true:=by
 have h1:=(dH v).1 h
 unfold yX
 rw[Bool.and_eq_true,decide_eq_true_eq,List.all_eq_true]
 refine⟨by omega,fun x hx=>?_⟩
 have h2:=(vM x).1 (List.all_eq_true.1 h1.2.2 x hx)
 unfold mD;rw[decide_eq_true_eq];omega
theorem cIS {a:Int} (h:0<=a/\a<=1000):yX [a]=true:=by
 unfold yX;simp only[List.all_cons,List.all_nil,mD,List.length_cons,List.length_nil,Bool.and_true,Bool.and_eq_true,decide_eq_true_eq];omega
theorem bP7 {a b:Int} (h:0<=a/\a<=1000) (h2:0<=b/\b<=1000):yX [a,b]=true:=by
 unfold yX;simp only[List.all_cons,List.all_nil,mD,List.length_cons,List.length_nil,Bool.and_true,Bool.and_eq_true,decide_eq_true_eq];omega
theorem bNE {α:Type} {f:α->Bool}:(l:List α)->(∀a∈l,f a=false)->l.any f=false
 | [],_=>rfl
 | x::l,h=>by rw[List.any_cons,h x List.mem_cons_self,bNE l fun a ha=>h a (List.mem_cons_of_mem _ ha)];rfl
theorem bHR {q:bE} (h:mR q=true):(sD q).any isE=false:=by
 have h1:=kW.1 h
 unfold sD
 rw[List.any_cons,yI,bP7 (by omega) (by omega),bMB]
 refine bNE _ fun a ha=>?_
 obtain⟨i,hi,rfl⟩:=List.getElem_of_mem ha
 have h2:=(oR _).1 (h1.2 i hi)
 rw[aP hi] at h2
 unfold itP
 rw[List.any_cons,List.any_cons,List.any_nil,yI,yI,cIS (by omega),aG0 h2.1];rfl
theorem cD5 {p:aW} (h:nQ p=true):(aAU p).any isE = !(p.2.1.all fun s=>!isE (mE s)):=by
 obtain⟨h1,h2,h3,h4⟩:=kW.1 h
 unfold aAU
 rw[List.not_all_eq_any_not]
 simp only[List.any_append,bMB,List.any_cons,List.any_nil,yI,bP7 (show 0<=(p.1.length:Int)/\(p.1.length:Int)<=1000 by omega) (show 0<=(p.2.1.length:Int)/\(p.2.1.length:Int)<=1000 by omega),Bool.not_true,Bool.or_false,Bool.false_or,stP]
 rw[bNE p.1 fun a ha=>?_,bNE (List.range _) fun i hi=>?_]
 ·simp
 ·rw[List.mem_range] at hi
  have:=h3 i hi
  unfold qsP
  rw[List.any_append,bHR this.1,bHR this.2];rfl
 ·obtain⟨i,hi,rfl⟩:=List.getElem_of_mem ha
  have:=h2 i hi
  rw[aP hi] at this
  unfold uX
  rw[List.any_cons,List.any_cons,List.any_nil,yI,yI,aG0 this.1,aG0 this.2];rfl
theorem cAF (W:WrD) {p:aW} (h:nQ p=true) (hW:W=eN ([],false) (aAU p)):W.1.length=(lZ ⟨#[]⟩ (aAU p)).size/\(¬60000<W.1.length->(if W.2=true then(⟨#[]⟩:ByteArray) else jG W.1)=pR p):=by
 have h1:=bCR (aAU p) ⟨#[]⟩ false
 rw[Bool.false_or,cD5 h] at h1
 rw[hW,show(([],false):WrD)=(lM ⟨#[]⟩,false) from rfl,h1]
 dsimp only
 rw[aTN,bKB]
 refine⟨rfl,fun h2=>?_⟩
 unfold pR
 cases p.2.1.all fun s=>!isE (mE s)
 ·rw[if_pos (show(!false)=true from rfl),if_neg (fun hh=>by cases hh.2.1)]
 ·rw[if_neg (show ¬(!true)=true by decide),if_pos ⟨h,rfl,by omega⟩]
theorem bXQ {β:Type} (g:Nat->List β) (k:Nat):(List.range (k+1)).flatMap g=(List.range k).flatMap g++g k:=by
 rw[List.range_succ,List.flatMap_append,List.flatMap_singleton]
def aCI:Con:=⟨98,(.cMV aND aD),aND,[.box 134 ⟨true,aND,[2,0]⟩,.val ⟨true,aD,[]⟩],[],false,none,
 ((fun x=>x.1.1.length<=100000000000/\x.2.2.length<=10000000):((bX×Bool)×bE)->Prop),
 ((fun x=>eN x.1 (sD x.2)):((bX×Bool)×bE)->(bX×Bool))⟩
def aKI:T:=pS aM (fA jF aD 2) <| lR (wN 3 2) (eI jF aD 1) 1 <| nU 2 <| eQ 1 jF .str (bS jF aD) eG <| pS aM (fA jF aD 2) <| oQ rI rI (gK aV 1 4) (mM aV 4) <| cX (nG 6) 5 7 (bZ 249 aM bQ (fA jF aD 2) (nG 6) <| gD 3 tI (kV 8) <| nU 9 <| eQ 1 jF .str (aEO aV (kN aV 2 6) (wG aV 1 6)) cI <| nC (iA 8) <| eQ 1 jF .str cO fE <| gF (nG 6) 0 rI [dK,gK aV 1 13,mM aV 13]) <| qX aV (kN aV 2 6) aV 1 6
theorem aX8:Con.Holds Tryz.prog aCI:=tk ⟨[(2992,1006,iZ 15 6++[.dr 3,.dr 1,.tm 18 0,.bx 1 1,.sl 5])],[]⟩ aKI (aC aHT (aC aC1 aH)) fun(x:(bX×Bool)×bE) hx hp=>by
 dsimp only [aCI] at hx hp⊢
 obtain⟨w,c,l⟩:=x
 obtain⟨h1,h2⟩:w.1.length<=100000000000/\l.length<=10000000:=hp
 delta aKI aB0 tZ;refine dR ?_
 obtain⟨W,hW⟩:∃W,W=zR w (gR [c,(l.length:Int)]):=⟨_,rfl⟩
 have z1:W.1.length<=w.1.length+1608:=by rw[hW];exact kY w [_] (jQ (cJ _) vE)
 (repeat' first|intro _|(with_reducible apply And.intro))
 all_goals first|omega|(exact Nat.le_trans (cJ _) (by decide))|skip
 refine⟨fun s=>∃k:Nat,k<=l.length/\s=((k:Int),(eN W ((l.take k).flatMap itP)).2,(eN W ((l.take k).flatMap itP)).1),fun s=>l.length - (s.1:Int).toNat,⟨0,by omega,by rw[hW];rfl⟩,fun s _ hI=>?_⟩
 obtain⟨k,hk,rfl⟩:=hI
 have y1:=kY W ((l.take k).flatMap itP) (xJ _ bTH)
 have y2:=rJ itP 2 (l.take k) (fun _ _=>Nat.le_refl _)
 rw[List.length_take] at y2
 dsimp only
 refine dQ ?_
 constructor
 ·intro hlt
  have hk':k<l.length:=by omega
  rw[aP hk']
  have e:zR (zR (eN W ((l.take k).flatMap itP)) (gR [(l[k]'hk').1])) (gR (l[k]'hk').2)=eN W ((l.take (k+1)).flatMap itP):=by rw[tS itP l hk',sJ];rfl
  have e1:(zR (eN W ((l.take k).flatMap itP)) (gR [(l[k]'hk').1])).1.length<=(eN W ((l.take k).flatMap itP)).1.length+1608:=kY _ [_] (jQ (cJ _) vE)
  (repeat' first|intro _|(with_reducible apply And.intro))
  all_goals first|omega|(exact Nat.le_trans (cJ _) (by decide))|(exact Nat.le_trans e1 (by omega))|skip
  exact⟨k+1,by omega,by rw[<-e];rfl⟩
 intro hge
 obtain rfl:k=l.length:=by omega
 rw[List.take_length,hW]
 rfl
def aM1:Con:=⟨200,aD,.str,[.val ⟨true,aD,[]⟩],[⟨false,.str,[0]⟩],false,none,
 ((fun x=>x.2.length<=10000000):(bE)->Prop),
 ((fun x=>lZ ⟨#[]⟩ (sD x)):(bE)->(ByteArray))⟩
def aVD:T:=pS aM tY <| lR (wN 3 2) (cB bQ 0) 1 <| nU 2 <| gW aJF .str eG 249 aM tY <| oJ .str 4 5 6 (cW 249 aM bQ tY .str 4 <| cW 249 aM bQ tY .str 4 <| gD 3 tI (kV 7) <| nU 9 <| xN (sR 4) 10 <| nC (iA 8) <| xN cO 12 <| eJ .str 4 0 .str dK eM) (sR 4)
theorem bOH:Con.Holds Tryz.prog aM1:=tk ⟨[(2991,1004,iZ 11 5++[.dr 0,.tm 4 0,.tm 3 0])],[]⟩ aVD (aC aDV aH) fun(x:bE) hx hp=>by
 dsimp only [aM1] at hx hp⊢
 obtain⟨c,l⟩:=x
 have h2:l.length<=10000000:=hp
 delta aVD xI;refine dR ?_
 obtain⟨W,hW⟩:∃W,W=gR [c,(l.length:Int)]:=⟨_,rfl⟩
 have z1:W.size<=1608:=by rw[hW];exact cJ _
 (repeat' first|intro _|(with_reducible apply And.intro))
 refine⟨fun s=>∃k:Nat,k<=l.length/\s=((k:Int),lZ W ((l.take k).flatMap itP)),fun s=>l.length - (s.1:Int).toNat,⟨0,by omega,by rw[hW];rfl⟩,fun s _ hI=>?_⟩
 obtain⟨k,hk,rfl⟩:=hI
 have y1:=sP W ((l.take k).flatMap itP) (xJ _ bTH)
 have y2:=rJ itP 2 (l.take k) (fun _ _=>Nat.le_refl _)
 rw[List.length_take] at y2
 dsimp only
 refine dQ ?_
 intro _
 constructor
 ·intro hlt
  have hk':k<l.length:=by omega
  rw[aP hk']
  have e:lZ W ((l.take k).flatMap itP)++(gR [(l[k]'hk').1])++(gR (l[k]'hk').2)=lZ W ((l.take (k+1)).flatMap itP):=by rw[tS itP l hk',zU];rfl
  have e1:=cJ [(l[k]'hk').1]
  have e2:=cJ (l[k]'hk').2
  (repeat' first|intro _|(with_reducible apply And.intro))
  all_goals first|omega|(unfold maxLen;(try rw[jH]);omega)|skip
  exact⟨k+1,by omega,by rw[<-e];rfl⟩
 intro hge
 obtain rfl:k=l.length:=by omega
 rw[List.take_length,hW]
 show lZ (gR _) _=lZ (⟨#[]⟩++gR _) _
 rw[yP]
def aBN:Con:=⟨22,aE,.str,[.val ⟨true,aE,[]⟩],[⟨false,.str,[0]⟩],false,none,
 ((fun _=>True):(aW)->Prop),
 ((fun x=>pR x):(aW)->(ByteArray))⟩
def aX0:T:=hZ <| dL 1 2 iQ <| vB aL (bS aO eD) <| tN aB wB <| lR (wN 3 2) eG 4 <| cD 1 5 <| eQ 2 jF .str (nA aV (.nl 5 jV)) cQ <| vB aL (bS aO eD) <| oQ rI rI (gK aV 1 7) (mM aV 7) <| cX (nG 9) 8 10 (bZ 138 aL aO (bS aO eD) (nG 9) <| wI (aBG 11) <| eQ 2 jF .str (aEO aV (kN aV 2 9) (wG aV 1 9)) fE <| wI (wK 11) <| eQ 2 jF .str eM dK <| gF (nG 9) 0 rI [gM,gK aV 1 15,mM aV 15]) <| tN aB wB <| pX rI (aOE aV) (kN aV 1 9) <| cX (nG 12) 11 13 (qD wB (nG 12) <| cD 3 14 <| eQ 2 jF .str (aEO aV (kN aV 2 12) (wG aV 1 12)) fC <| gF (nG 12) 0 rI [iR,gK aV 1 16,mM aV 16]) <| gL 147 aD (aBU 0) <| pX rI (aOE aV) (kN aV 1 12) <| cX (nG 15) 14 16 (bZ 147 aD aI (aBU 0) (nG 15) <| eQ 4 jF aD (aEO aV (kN aV 2 15) (wG aV 1 15)) iR <| bZ 147 aD aI (jD 3 0) (nG 15) <| eQ 4 jF aD nJ kA <| gF (nG 15) 0 rI [wX,gK aV 1 20,mM aV 20]) <| gL 5 jV (kN aV 2 15) <| lN iR (fX 60000) 18 iQ <| eQ 5 aV .bool (kN aV 2 15) (wG aV 1 15) <| .ret (oY .str aV 19)
theorem aL8:Con.Holds Tryz.prog aBN:=tk ⟨[(2984,2009,iZ 24 9++[.dr 0,.tm 27 0,.bx 2 1,.sl 5]),(2974,4012,[.dr 42]++iZ 28 25++[.tm 45 0,.bx 2 1,.sl 5]),(2964,8015,[.dr 55,.dr 54]++iZ 46 43++[.tm 57 0,.bx 2 1,.sl 5])],[]⟩ aX0 (aC aST (aC aHT (aC aC1 (aC bIE (aC aX8 (aC aMZ aH)))))) fun(x:aW) hx hp=>by
 dsimp only [aBN] at hx hp⊢
 delta aX0 aGQ aB0 tZ aJM aCI zV;refine dR ?_
 refine dQ ?_
 refine⟨fun h=>bPF (by rw[h];decide),fun h1=>?_⟩
 obtain⟨q1,q2,q3,q4⟩:=kW.1 h1
 obtain⟨W1,hW1⟩:∃W,W=zR ([],false) (gR [(x.1.length:Int),(x.2.1.length:Int)]):=⟨_,rfl⟩
 have z1:W1.1.length<=1608:=by rw[hW1];exact kY ([],false) [_] (jQ (cJ _) vE)
 (repeat' first|intro _|(with_reducible apply And.intro))
 all_goals first|omega|(exact Nat.le_trans (cJ _) (by decide))|skip
 refine⟨fun s=>∃k:Nat,k<=x.1.length/\s=((k:Int),(eN W1 ((x.1.take k).flatMap uX)).2,(eN W1 ((x.1.take k).flatMap uX)).1),fun s=>x.1.length - (s.1:Int).toNat,⟨0,by omega,by rw[hW1];rfl⟩,fun s _ hI=>?_⟩
 obtain⟨k,hk,rfl⟩:=hI
 have y1:=kY W1 ((x.1.take k).flatMap uX) (xJ _ bRL)
 have y2:=rJ uX 2 (x.1.take k) (fun _ _=>Nat.le_refl _)
 rw[List.length_take] at y2
 dsimp only
 refine dQ ?_
 constructor
 ·intro hlt
  have hk':k<x.1.length:=by omega
  rw[aP hk']
  have e:zR (zR (eN W1 ((x.1.take k).flatMap uX)) (gR (x.1[k]'hk').1)) (gR (x.1[k]'hk').2)=eN W1 ((x.1.take (k+1)).flatMap uX):=by rw[tS uX x.1 hk',sJ];rfl
  have e1:(zR (eN W1 ((x.1.take k).flatMap uX)) (gR (x.1[k]'hk').1)).1.length<=(eN W1 ((x.1.take k).flatMap uX)).1.length+1608:=kY _ [_] (jQ (cJ _) vE)
  (repeat' first|intro _|(with_reducible apply And.intro))
  all_goals first|omega|(exact Nat.le_trans (cJ _) (by decide))|(exact Nat.le_trans e1 (by omega))|skip
  exact⟨k+1,by omega,by rw[<-e];rfl⟩
 intro hge
 obtain rfl:k=x.1.length:=by omega
 rw[List.take_length] at y1 y2⊢
 obtain⟨W2,hW2⟩:∃W,W=eN W1 (x.1.flatMap uX):=⟨_,rfl⟩
 rw[<-hW2] at y1⊢
 intro _
 refine⟨fun s=>∃k:Nat,k<=x.2.1.length/\s=((k:Int),(eN W2 ((x.2.1.take k).flatMap stP)).2,(eN W2 ((x.2.1.take k).flatMap stP)).1),fun s=>x.2.1.length - (s.1:Int).toNat,⟨0,by omega,rfl⟩,fun s _ hI=>?_⟩
 obtain⟨k,hk,rfl⟩:=hI
 have y3:=bGV (B:=400000) W2 ((x.2.1.take k).flatMap stP) (fun p hp=>by rw[List.mem_flatMap] at hp;obtain⟨a,_,hp⟩:=hp;unfold stP at hp;rw[List.mem_singleton] at hp;rw[hp];exact aID a)
 have y4:=rJ stP 1 (x.2.1.take k) (fun _ _=>Nat.le_refl _)
 rw[List.length_take] at y4
 dsimp only
 refine dQ ?_
 constructor
 ·intro hlt
  have hk':k<x.2.1.length:=by omega
  rw[aP hk']
  have e:zR (eN W2 ((x.2.1.take k).flatMap stP)) (mE (x.2.1[k]'hk'))=eN W2 ((x.2.1.take (k+1)).flatMap stP):=by rw[tS stP x.2.1 hk',sJ];rfl
  (repeat' first|intro _|(with_reducible apply And.intro))
  all_goals first|omega|(exact Nat.le_trans (aID _) (by decide))|skip
  exact⟨k+1,by omega,by rw[<-e];rfl⟩
 intro Fj
 obtain rfl:k=x.2.1.length:=by omega
 rw[List.take_length] at y3 y4⊢
 obtain⟨W3,hW3⟩:∃W,W=eN W2 (x.2.1.flatMap stP):=⟨_,rfl⟩
 rw[<-hW3] at y3⊢
 intro _
 refine⟨fun s=>∃k:Nat,k<=x.2.2.1.length/\s=((k:Int),(eN W3 ((List.range k).flatMap (qsP x.2.2.1 x.2.2.2))).2,(eN W3 ((List.range k).flatMap (qsP x.2.2.1 x.2.2.2))).1),fun s=>x.2.2.1.length - (s.1:Int).toNat,⟨0,by omega,rfl⟩,fun s _ hI=>?_⟩
 obtain⟨k,hk,rfl⟩:=hI
 have Hz:∀i,i<k->(qsP x.2.2.1 x.2.2.2 i).length<=22:=fun i hi=>by
  have:=q3 i (by omega)
  have g1:=(kW.1 this.1).1
  have g2:=(kW.1 this.2).1
  have g3:=aA8 (x.2.2.1.getD i (aK aD))
  have g4:=aA8 (x.2.2.2.getD i (aK aD))
  unfold qsP;rw[List.length_append];omega
 have y5:=kY W3 ((List.range k).flatMap (qsP x.2.2.1 x.2.2.2)) (xJ _ (cFU _ _))
 have y6:=rJ (qsP x.2.2.1 x.2.2.2) 22 (List.range k) (fun i hi=>Hz i (List.mem_range.1 hi))
 rw[List.length_range] at y6
 dsimp only
 refine dQ ?_
 constructor
 ·intro hlt
  have hk':k<x.2.2.1.length:=by omega
  have e:eN (eN (eN W3 ((List.range k).flatMap (qsP x.2.2.1 x.2.2.2))) (sD (x.2.2.1.getD k (aK aD)))) (sD (x.2.2.2.getD k (aK aD)))=eN W3 ((List.range (k+1)).flatMap (qsP x.2.2.1 x.2.2.2)):=by rw[bXQ,sJ];unfold qsP;rw[sJ]
  have e1:=kY (eN W3 ((List.range k).flatMap (qsP x.2.2.1 x.2.2.2))) _ (aK8 (x.2.2.1.getD k (aK aD)))
  have g0:=q3 k hk'
  have g1:=(kW.1 g0.1).1
  have g2:=(kW.1 g0.2).1
  have g3:=aA8 (x.2.2.1.getD k (aK aD))
  (repeat' first|intro _|(with_reducible apply And.intro))
  all_goals first|omega|(exact Nat.le_trans e1 (by omega))|skip
  exact⟨k+1,by omega,by rw[<-e];rfl⟩
 intro Ec _
 obtain rfl:k=x.2.2.1.length:=by omega
 obtain⟨W4,Du⟩:∃W,W=eN W3 ((List.range x.2.2.1.length).flatMap (qsP x.2.2.1 x.2.2.2)):=⟨_,rfl⟩
 rw[<-Du] at y5⊢
 obtain⟨t1,t2⟩:=cAF W4 h1 (by unfold aAU;simp only[sJ];rw[Du,hW3,hW2,hW1];rfl)
 refine⟨fun h=>bKP (by omega),fun h _=>t2 (by omega)⟩
def aFN:Con:=⟨111,aE,.str,[.val ⟨true,aE,[]⟩],[⟨false,.str,[0]⟩],false,none,
 ((fun _=>True):(aW)->Prop),
 ((fun x=>pR x):(aW)->(ByteArray))⟩
def aUS:T:=hZ <| dL 1 2 iQ <| vB aL (bS aO eD) <| tN aB wB <| lR (wN 3 2) eG 4 <| cD 1 5 <| gW aJF .str cQ 138 aL (bS aO eD) <| mH .str 7 8 9 (cW 138 aL aO (bS aO eD) .str 7 <| cW 138 aL aO (bS aO eD) .str 7 <| wI (aBG 10) <| xN (sR 7) 12 <| wI (wK 11) <| aCU 13 14 <| eJ .str 7 0 .str gM fC) <| gW aJF .str (sR 7) 142 aB wB <| mH .str 10 11 12 (cW 142 aB bV wB .str 10 <| cD 2 13 <| xU aH4 .str dK iQ <| sY 15 iQ <| xN (sR 10) 14 <| eJ .str 10 0 .str iR gM) <| gW aJF .str (sR 10) 147 aD (aBU 0) <| mH .str 13 14 15 (cW 147 aD aI (aBU 0) .str 13 <| cW 147 aD aI (jD 3 0) .str 13 <| cD 3 16 <| xN (sR 13) 18 <| cD 3 17 <| aCU 19 20 <| eJ .str 13 0 .str qS wX) <| aME (sR 13) <| lN gM (fX 60000) 17 iQ <| .ret (sR 13)
theorem aWF:Con.Holds Tryz.prog aFN:=tk ⟨[(2986,2007,iZ 18 8++[.dr 0,.tm 4 0,.tm 3 0]),(2976,4010,iZ 23 19++[.dr 4,.tm 5 0,.tm 3 0]),(2966,8013,iZ 47 43++[.dr 5,.tm 7 0,.tm 3 0])],[]⟩ aUS (aC aL1 (aC aDV (aC bID (aC bOH aH)))) fun(x:aW) hx hp=>by
 dsimp only [aFN] at hx hp⊢
 delta aUS aD1 xI aJ9 aM1;refine dR ?_
 refine dQ ?_
 refine⟨fun h=>bPF (by rw[h];decide),fun h1=>?_⟩
 obtain⟨q1,q2,q3,q4⟩:=kW.1 h1
 obtain⟨W1,hW1⟩:∃W,W=gR [(x.1.length:Int),(x.2.1.length:Int)]:=⟨_,rfl⟩
 have z1:W1.size<=1608:=by rw[hW1];exact cJ _
 (repeat' first|intro _|(with_reducible apply And.intro))
 refine⟨fun s=>∃k:Nat,k<=x.1.length/\s=((k:Int),lZ W1 ((x.1.take k).flatMap uX)),fun s=>x.1.length - (s.1:Int).toNat,⟨0,by omega,by rw[hW1];rfl⟩,fun s _ hI=>?_⟩
 obtain⟨k,hk,rfl⟩:=hI
 have y1:=sP W1 ((x.1.take k).flatMap uX) (xJ _ bRL)
 have y2:=rJ uX 2 (x.1.take k) (fun _ _=>Nat.le_refl _)
 rw[List.length_take] at y2
 dsimp only
 refine dQ ?_
 intro _
 constructor
 ·intro hlt
  have hk':k<x.1.length:=by omega
  rw[aP hk']
  have e:lZ W1 ((x.1.take k).flatMap uX)++(gR (x.1[k]'hk').1)++(gR (x.1[k]'hk').2)=lZ W1 ((x.1.take (k+1)).flatMap uX):=by rw[tS uX x.1 hk',zU];rfl
  have e1:=cJ (x.1[k]'hk').1
  have e2:=cJ (x.1[k]'hk').2
  (repeat' first|intro _|(with_reducible apply And.intro))
  all_goals first|omega|(unfold maxLen;(try rw[jH]);omega)|skip
  exact⟨k+1,by omega,by rw[<-e];rfl⟩
 intro hge
 obtain rfl:k=x.1.length:=by omega
 rw[List.take_length] at y1 y2⊢
 obtain⟨W2,hW2⟩:∃W,W=lZ W1 (x.1.flatMap uX):=⟨_,rfl⟩
 rw[<-hW2] at y1⊢
 refine⟨fun s=>∃k:Nat,k<=x.2.1.length/\s=((k:Int),lZ W2 ((x.2.1.take k).flatMap stP))/\∀i,i<k->¬mE (x.2.1.getD i (aK aB))=⟨#[]⟩,fun s=>x.2.1.length - (s.1:Int).toNat,⟨0,by omega,rfl,by omega⟩,fun s _ hI=>?_⟩
 obtain⟨k,hk,rfl,ha⟩:=hI
 have y3:=bWP (B:=400000) W2 ((x.2.1.take k).flatMap stP) (fun p hp=>by rw[List.mem_flatMap] at hp;obtain⟨a,_,hp⟩:=hp;unfold stP at hp;rw[List.mem_singleton] at hp;rw[hp];exact aID a)
 have y4:=rJ stP 1 (x.2.1.take k) (fun _ _=>Nat.le_refl _)
 rw[List.length_take] at y4
 dsimp only
 refine dQ ?_
 intro _
 constructor
 ·intro hlt
  have hk':k<x.2.1.length:=by omega
  have e:lZ W2 ((x.2.1.take k).flatMap stP)++(mE (x.2.1.getD k (aK aB)))=lZ W2 ((x.2.1.take (k+1)).flatMap stP):=by rw[tS stP x.2.1 hk',zU,aP hk'];rfl
  have e1:=aID (x.2.1.getD k (aK aB))
  (repeat' first|intro _|(with_reducible apply And.intro))
  all_goals first|omega|(unfold maxLen;omega)|(exact cAX hk' (by first|assumption|exact Classical.not_not.1 (by assumption)))|skip
  exact⟨k+1,by omega,by rw[<-e];rfl,aHO ha (by first|assumption|exact Classical.not_not.1 (by assumption))⟩
 intro Fj
 obtain rfl:k=x.2.1.length:=by omega
 rw[List.take_length] at y3 y4⊢
 obtain⟨W3,hW3⟩:∃W,W=lZ W2 (x.2.1.flatMap stP):=⟨_,rfl⟩
 rw[<-hW3] at y3⊢
 refine⟨fun s=>∃k:Nat,k<=x.2.2.1.length/\s=((k:Int),lZ W3 ((List.range k).flatMap (qsP x.2.2.1 x.2.2.2))),fun s=>x.2.2.1.length - (s.1:Int).toNat,⟨0,by omega,rfl⟩,fun s _ hI=>?_⟩
 obtain⟨k,hk,rfl⟩:=hI
 have Hz:∀i,i<k->(qsP x.2.2.1 x.2.2.2 i).length<=22:=fun i hi=>by
  have:=q3 i (by omega)
  have g1:=(kW.1 this.1).1
  have g2:=(kW.1 this.2).1
  have g3:=aA8 (x.2.2.1.getD i (aK aD))
  have g4:=aA8 (x.2.2.2.getD i (aK aD))
  unfold qsP;rw[List.length_append];omega
 have y5:=sP W3 ((List.range k).flatMap (qsP x.2.2.1 x.2.2.2)) (xJ _ (cFU _ _))
 have y6:=rJ (qsP x.2.2.1 x.2.2.2) 22 (List.range k) (fun i hi=>Hz i (List.mem_range.1 hi))
 rw[List.length_range] at y6
 dsimp only
 refine dQ ?_
 intro _
 constructor
 ·intro hlt
  have hk':k<x.2.2.1.length:=by omega
  have e:lZ W3 ((List.range k).flatMap (qsP x.2.2.1 x.2.2.2))++lZ ⟨#[]⟩ (sD (x.2.2.1.getD k (aK aD)))++lZ ⟨#[]⟩ (sD (x.2.2.2.getD k (aK aD)))=lZ W3 ((List.range (k+1)).flatMap (qsP x.2.2.1 x.2.2.2)):=by
   rw[bXQ,zU];unfold qsP;rw[zU,aDO (lZ _ _) (sD (x.2.2.2.getD k (aK aD))),aDO (lZ _ _) (sD (x.2.2.1.getD k (aK aD)))]
  have e1:=sP ⟨#[]⟩ _ (aK8 (x.2.2.1.getD k (aK aD)))
  have e2:=sP ⟨#[]⟩ _ (aK8 (x.2.2.2.getD k (aK aD)))
  rw[show(⟨#[]⟩:ByteArray).size=0 from rfl] at e1 e2
  have g0:=q3 k hk'
  have g1:=(kW.1 g0.1).1
  have g2:=(kW.1 g0.2).1
  have g3:=aA8 (x.2.2.1.getD k (aK aD))
  have g4:=aA8 (x.2.2.2.getD k (aK aD))
  (repeat' first|intro _|(with_reducible apply And.intro))
  all_goals first|omega|(unfold maxLen;(try rw[jH]);omega)|skip
  exact⟨k+1,by omega,by rw[<-e];rfl⟩
 intro Ec
 obtain rfl:k=x.2.2.1.length:=by omega
 have fin:lZ W3 ((List.range x.2.2.1.length).flatMap (qsP x.2.2.1 x.2.2.2))=lZ ⟨#[]⟩ (aAU x):=by
  unfold aAU;simp only[zU];rw[hW3,hW2,hW1,aDL,yP]
 rw[fin]
 have hst:(x.2.1.all fun s=>!isE (mE s))=true:=List.all_eq_true.2 fun s hs=>by
  obtain⟨i,hi,rfl⟩:=List.getElem_of_mem hs
  have:=ha i hi
  rw[aP hi] at this
  unfold isE;rw[decide_eq_false this];rfl
 refine fun _=>⟨fun h=>?_,fun h=>?_⟩
 ·exact bKP (by omega)
 ·unfold pR;rw[if_pos ⟨h1,hst,by omega⟩]
end
set_option maxRecDepth 100000
abbrev aRL:=Int×(eP×Bool)
noncomputable def bE8 (p:aW):List Int->List aRL
 | []=>[]
 | s::l=>(s,bB p s,jC p s)::bE8 (gJ p s) l
theorem bUQ {l:List Int} {k:Nat} (h:k<l.length):l.take (k+1)=l.take k++[l[k]]:=List.take_succ_eq_append_getElem h
theorem cAK {α:Type} {l:List α} {k:Nat} (h:k=min l.length 2000):l.take k=l.take 2000:=by
 rcases Nat.le_total l.length 2000 with h1|h1
 ·rw[List.take_of_length_le (by omega),List.take_of_length_le h1]
 ·rw[h,Nat.min_eq_right h1]
theorem aQ1 {p:aW} {l:List Int} {k:Nat} (h:k<l.length):aCL p (l.take (k+1))=gJ (aCL p (l.take k)) l[k]:=by rw[bUQ h,cDE]
theorem bC4 {p:aW} (l:List Int) (k:Nat) (hk:k<=2000) (hp:bC aE p<=100000000):bC aE (aCL p (l.take k))<=1000000000:=by
 have h:=bXB p (l.take k)
 have h2:(l.take k).length<=k:=by rw[List.length_take];omega
 omega
noncomputable def aBP:Con:=⟨115,aA,aA,[.val ⟨false,aA,[]⟩],[⟨false,aA,[0]⟩],true,none,
 ((fun _=>True):(List Int)->Prop),
 ((fun x=>List.take 2000 x):(List Int)->(List Int))⟩
def aQG:T:=cK bJ <| mL bMF aZ 2000 <| aTD 3 tI aA bJ aN 2 <| cF 3
theorem aNH:Con.Holds Tryz.prog aBP:=tk ⟨[],[]⟩ aQG aH fun(x:List Int) hx hp=>by
 dsimp only [aBP] at hx hp⊢
 delta aQG;refine dR ?_
 refine dQ ?_
 refine fun _ _=>⟨⟨by omega,by omega,by omega⟩,fun _=>?_⟩
 exact cAK (l:=x) (by omega)
noncomputable def bM0:Con:=⟨28,(.cMV aE aA),aE,[.val ⟨true,aE,[]⟩,.val ⟨false,aA,[]⟩],[⟨true,aE,[0,0,0,0]⟩],false,none,
 ((fun x=>bC aE x.1<=100000000):(aW×bX)->Prop),
 ((fun x=>aCL x.1 (List.take 2000 x.2)):(aW×bX)->(aW))⟩
def bXC:T:=eK 0 (bS aE aA) 1 (tO aE) <| cK bM <| pX (fM aE) aE aZ <| oJ aE 4 3 5 (jZ 3 bM (cB aE 4) <| dF 2 aE (eT aE 4) cQ <| eJ aE 4 0 aE cM cY) (eT aE 4)
theorem cGO:Con.Holds Tryz.prog bM0:=tk ⟨[(2991,1004,iZ 9 7++[.dr 0,.dr 1,.tm 12 0,.fz 7,.fz 8,.fz 9,.fz 10,.bx 1 0,.dk 7,.bx 1 1,.dk 8,.bx 1 2,.dk 9,.bx 1 3,.dk 10])],[]⟩ bXC (aC aWT (aC aNH (aC bPT aH))) fun(x:aW×bX) hx hp=>by
 dsimp only [bM0] at hx hp⊢
 obtain⟨p,l⟩:=x
 have hp:bC aE p<=100000000:=hp
 delta bXC aFK aBP aW2;refine dR ?_
 refine dQ ?_
 have hL:(List.take 2000 l).length<=2000:=by rw[List.length_take];omega
 generalize List.take 2000 l=L at *
 (repeat' first|intro _|(with_reducible apply And.intro))
 all_goals first|omega|skip
 refine eY (fun k=>((k:Int),aCL p (List.take k L))) L.length rfl fun I μ k hk _ go=>?_
 dsimp only
 refine dQ ?_
 have hz:=bC4 (p:=p) L k (by omega) hp
 by_cases hk':k<List.length L
 ·simp only[aP hk']
  (repeat' first|intro _|(refine go _ ?_ ?_ ?_)|(refine go _ ?_ ?_)|(with_reducible apply And.intro))
  all_goals first|omega|exact hz|(rw[aQ1 hk'];rfl)|skip
 ·(repeat' first|intro _|(refine go _ ?_ ?_ ?_)|(refine go _ ?_ ?_)|(with_reducible apply And.intro))
  all_goals first|omega|(rw[List.take_of_length_le (by omega)])|skip
end Go.Proofs.YtfmfeplebgbpmaaGreat
