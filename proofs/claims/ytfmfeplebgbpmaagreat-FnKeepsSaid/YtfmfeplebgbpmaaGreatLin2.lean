/- Lin2: lemmas. No conditions. -/
import Derived.Test.YtfmfeplebgbpmaaGreatSame3
namespace Go.Proofs.YtfmfeplebgbpmaaGreat
open Go.ChangeShapes Go.WideShapes Go.ChangeAt Go.RowKit Go.Deep
set_option linter.unusedVariables false
set_option linter.unusedSimpArgs false
noncomputable section
set_option maxRecDepth 100000
def kD (m:List fP):Int:=if dD m=true then(m.getD 0 zOp).2.1 else 0
def eZ (m:List fP):Int:=if dD m=true then(m.getD (m.length - 1) zOp).2.2.1 else 0
def dX (v:List Int) (n:Int):Bool:=tQ v&&decide ((v.length:Int)=n)
theorem cS (v:List Int) (n:Int):dX v n=true↔tQ v=true/\(v.length:Int)=n:=by unfold dX;rw[Bool.and_eq_true,decide_eq_true_eq]
def oS (v:List Int) (n:Int):Bool:=decide (v.length=0)||dX v n
theorem bK3 (v:List Int) (n:Int):oS v n=true↔v.length=0\/dX v n=true:=by unfold oS;rw[Bool.or_eq_true,decide_eq_true_eq]
def lC (m:List fP) (i:Nat):Int:=if i<m.length then(m.getD i zOp).2.1 else(m.getD (m.length - 1) zOp).2.2.1
theorem bAD {m:List fP} (h:dD m=true) {k:Nat} (hk:k<m.length):lC m (k+1)=(m.getD k zOp).2.2.1:=by
 unfold lC
 split
 ·rename_i h1
  have h2:=((bO m).1 h).2.2 (k+1) h1
  rw[vO m h1] at h2
  rcases h2.2 with h3|h3
  ·omega
  ·rw[aP h1,aP hk]
   exact h3.symm
 ·have:m.length - 1=k:=by omega
  rw[this]
def aF3 (m:List fP) (r:List (List Int)) (n:Nat):Bool:=(List.range n).all fun i=>dX (r.getD i []) (lC m i)
theorem vI (m:List fP) (r:List (List Int)) (n:Nat):aF3 m r n=true↔∀i,i<n->dX (r.getD i []) (lC m i)=true:=by unfold aF3;simp only[List.all_eq_true,List.mem_range]
def aH0 (m:List fP) (redo:Bool):Nat:=if redo=true then 1 else m.length+1
def wD (m:List fP) (redo:Bool) (x:Int×List (List Int)):Bool:=decide (x.2.length=aH0 m redo)&&aF3 m x.2 (aH0 m redo)
theorem aAO (m:List fP) (redo:Bool) (x:Int×List (List Int)):wD m redo x=true↔x.2.length=aH0 m redo/\∀i,i<aH0 m redo->dX (x.2.getD i []) (lC m i)=true:=by unfold wD;rw[Bool.and_eq_true,decide_eq_true_eq,vI]
def gY (s:aR):Bool:=dD s.2.2.1&&(decide (0<=s.1/\s.1<=(s.2.1.length:Int))&&(aZE s.2.2.1 s.2.2.2.2.2.2.2.2.2.2.2.1&&(s.2.2.2.2.2.1.all (wD s.2.2.1 s.2.2.2.2.1) &&
 (oS s.2.2.2.2.2.2.2.1 (kD s.2.2.1)&&(oS s.2.2.2.2.2.2.2.2.2.2.1 (kD s.2.2.1)&&(oS s.2.2.2.2.2.2.2.2.1 (eZ s.2.2.1)&&oS s.2.2.2.2.2.2.2.2.2.1 (eZ s.2.2.1)))))))
theorem cA (s:aR):gY s=true↔dD s.2.2.1=true/\(0<=s.1/\s.1<=(s.2.1.length:Int))/\aZE s.2.2.1 s.2.2.2.2.2.2.2.2.2.2.2.1=true/\s.2.2.2.2.2.1.all (wD s.2.2.1 s.2.2.2.2.1)=true /\
 oS s.2.2.2.2.2.2.2.1 (kD s.2.2.1)=true/\oS s.2.2.2.2.2.2.2.2.2.2.1 (kD s.2.2.1)=true/\oS s.2.2.2.2.2.2.2.2.1 (eZ s.2.2.1)=true/\oS s.2.2.2.2.2.2.2.2.2.1 (eZ s.2.2.1)=true:=by
 unfold gY;simp only[Bool.and_eq_true,decide_eq_true_eq]
theorem aNZ {v:List Int} {n:Int} (h:tQ v=false):false=dX v n:=by unfold dX;rw[h];rfl
theorem cEB {v:List Int} {n:Int} (h:tQ v=true):((v.length:Int)==n)=dX v n:=by unfold dX;rw[h,Bool.true_and];rfl
theorem aYB {s:aR} {k:Nat} (hk:k<s.2.2.2.2.2.1.length) (h:¬wD s.2.2.1 s.2.2.2.2.1 (s.2.2.2.2.2.1.getD k (aK aJ))=true):false=gY s:=by
 refine(Bool.eq_false_iff.2 fun hh=>?_).symm
 have h4:=((cA s).1 hh).2.2.2.1
 rw[List.all_eq_true] at h4
 exact h (h4 _ (by rw[aP hk];exact List.getElem_mem hk))
theorem bL9 {s:aR} (h:∀i,i<s.2.2.2.2.2.1.length->wD s.2.2.1 s.2.2.2.2.1 (s.2.2.2.2.2.1.getD i (aK aJ))=true):s.2.2.2.2.2.1.all (wD s.2.2.1 s.2.2.2.2.1)=true:=by
 rw[List.all_eq_true]
 intro x hx
 obtain⟨i,hi,rfl⟩:=List.getElem_of_mem hx
 have:=h i hi
 rwa [aP hi] at this
theorem aXZ {m:List fP} {redo:Bool} {x:eC} {n:Nat} (hn:n=aH0 m redo):wD m redo x=true↔x.2.length=n/\aF3 m x.2 n=true:=by
 unfold wD;rw[Bool.and_eq_true,decide_eq_true_eq,hn]
theorem bPE {s:aR} (h1:dD s.2.2.1=true) (h2:0<=s.1/\s.1<=(s.2.1.length:Int)) (h3:aZE s.2.2.1 s.2.2.2.2.2.2.2.2.2.2.2.1=true) (h4:s.2.2.2.2.2.1.all (wD s.2.2.1 s.2.2.2.2.1)=true) :
  gY s=(oS s.2.2.2.2.2.2.2.1 (kD s.2.2.1)&&(oS s.2.2.2.2.2.2.2.2.2.2.1 (kD s.2.2.1)&&(oS s.2.2.2.2.2.2.2.2.1 (eZ s.2.2.1)&&oS s.2.2.2.2.2.2.2.2.2.1 (eZ s.2.2.1)))):=by
 unfold gY;rw[h1,h3,h4];simp[h2]
theorem aBS {s:aR} (h:dD s.2.2.1=false\/s.1<0\/(s.2.1.length:Int)<s.1\/aZE s.2.2.1 s.2.2.2.2.2.2.2.2.2.2.2.1=false\/oS s.2.2.2.2.2.2.2.1 (kD s.2.2.1)=false\/oS s.2.2.2.2.2.2.2.2.2.2.1 (kD s.2.2.1)=false\/oS s.2.2.2.2.2.2.2.2.1 (eZ s.2.2.1)=false):false=gY s:=by
 refine(Bool.eq_false_iff.2 fun hh=>?_).symm
 obtain⟨h1,h2,h3,h4,h5,h6,h7,h8⟩:=(cA s).1 hh
 rcases h with h|h|h|h|h|h|h
 ·rw[h] at h1;cases h1
 ·omega
 ·omega
 ·rw[h] at h3;cases h3
 ·rw[h] at h5;cases h5
 ·rw[h] at h6;cases h6
 ·rw[h] at h7;cases h7
def yH:Con:=⟨187,aA,.bool,[.val ⟨false,aA,[]⟩],[⟨false,.bool,[0]⟩],false,none,
 ((fun _=>True):(List Int)->Prop),
 ((fun x=>tQ x):(List Int)->(Bool))⟩
def bKI:T:=cK bJ <| rX .geq aZ bF 2 (cK bJ <| rX .leq eG uJ 4 (hZ <| cF 5) aX) aX
theorem aCP:Con.Holds Tryz.prog yH:=tk ⟨[],[]⟩ bKI (aC aUK aH) fun(x:List Int) hx hp=>by
 dsimp only [yH] at hx hp⊢
 delta bKI aGV;refine dR ?_;try with_reducible exact True.intro
 (repeat' first|intro _|(with_reducible apply And.intro))
 all_goals simp only[dzx] at *
 all_goals first|(first|(refine(Bool.eq_false_iff.2 ?_).symm;rw[ne_eq,dH];intro hh;omega)|(refine(dH.2 ?_).symm;omega))|(rw[Bool.eq_iff_iff,dH];exact⟨fun h=>⟨by omega,by omega,h⟩,fun h=>h.2.2⟩)
def sH:Con:=⟨296,bAM,.bool,[.val ⟨false,aA,[]⟩,.val ⟨false,tI,[]⟩],[⟨false,.bool,[0]⟩],false,none,
 ((fun _=>True):(bX×Int)->Prop),
 ((fun x=>dX x.1 x.2):(bX×Int)->(Bool))⟩
def bJY:T:=nC (aTY 0) <| jL 1 (cK (aTY 0) <| sS .eql bM (iX aA) <| cF 3) aX
theorem vQ:Con.Holds Tryz.prog sH:=tk ⟨[],[]⟩ bJY (aC aCP aH) fun(x:bX×Int) hx hp=>by
 dsimp only [sH] at hx hp⊢
 delta bJY yH;refine dR ?_
 exact⟨fun h _=>cEB h,fun h=>aNZ h⟩
def aP1:Con:=⟨282,aG,tI,[.val ⟨true,aG,[]⟩],[⟨false,tI,[0]⟩],false,none,
 ((fun _=>True):(cC)->Prop),
 ((fun x=>kD x):(cC)->(Int))⟩
def bQF:T:=hZ <| dL 1 2 aN <| bZ 243 bK aG bJ aN <| .ret (dZ bK 3)
theorem bH1:Con.Holds Tryz.prog aP1:=tk ⟨[],[]⟩ bQF (aC aIJ aH) fun(x:cC) hx hp=>by
 dsimp only [aP1] at hx hp⊢
 delta bQF aAT;refine dR ?_
 refine⟨fun h=>?_,fun h=>?_⟩
 all_goals simp only[dzx] at h
 ·unfold kD;rw[h];rfl
 ·have:=(bO x).1 h
  refine⟨by omega,fun _=>?_⟩
  unfold kD;rw[if_pos h];rfl
def aJX:Con:=⟨283,aG,tI,[.val ⟨true,aG,[]⟩],[⟨false,tI,[0]⟩],false,none,
 ((fun _=>True):(cC)->Prop),
 ((fun x=>eZ x):(cC)->(Int))⟩
def bJ2:T:=hZ <| dL 1 2 aN <| iE bJ <| kK eG 243 bK aG bJ 4 <| .ret (qR 5)
theorem aYH:Con.Holds Tryz.prog aJX:=tk ⟨[],[]⟩ bJ2 (aC aIJ aH) fun(x:cC) hx hp=>by
 dsimp only [aJX] at hx hp⊢
 delta bJ2 aAT;refine dR ?_
 refine⟨fun h=>?_,fun h=>?_⟩
 all_goals simp only[dzx] at h
 ·unfold eZ;rw[h];rfl
 ·have:=(bO x).1 h
  refine fun _=>⟨by omega,fun _=>⟨by omega,fun _=>?_⟩⟩
  unfold eZ;rw[if_pos h,aL4];rfl
def aNX:Con:=⟨284,bAM,.bool,[.val ⟨false,aA,[]⟩,.val ⟨false,tI,[]⟩],[⟨false,.bool,[0]⟩],false,none,
 ((fun _=>True):(bX×Int)->Prop),
 ((fun x=>oS x.1 x.2):(bX×Int)->(Bool))⟩
def bAZ:T:=cK (aTY 0) <| uD aZ aN 2 bD <| hZ <| cF 3
theorem bPI:Con.Holds Tryz.prog aNX:=tk ⟨[],[]⟩ bAZ (aC vQ aH) fun(x:bX×Int) hx hp=>by
 dsimp only [aNX] at hx hp⊢
 delta bAZ sH;refine dR ?_
 intro _
 refine dQ ?_
 refine⟨fun h=>?_,fun h=>?_⟩
 ·unfold oS;rw[decide_eq_true (by omega)];rfl
 ·unfold oS;rw[decide_eq_false (by omega)];rfl
def aO5:Con:=⟨195,bAM,.bool,[.val ⟨false,aA,[]⟩,.val ⟨false,tI,[]⟩],[⟨false,.bool,[0]⟩],false,none,
 ((fun _=>True):(bX×Int)->Prop),
 ((fun x=>oS x.1 x.2):(bX×Int)->(Bool))⟩
def aZO:T:=cK (aTY 0) <| uD aZ aN 2 bD <| nC (aTY 0) <| jL 3 (cK (aTY 0) <| sS .eql dY (iX aA) <| cF 5) aX
theorem bPM:Con.Holds Tryz.prog aO5:=tk ⟨[],[]⟩ aZO (aC nN aH) fun(x:bX×Int) hx hp=>by
 dsimp only [aO5] at hx hp⊢
 delta aZO lQ;refine dR ?_
 intro _
 refine dQ ?_
 refine⟨fun h=>?_,fun h=>⟨fun h2 _=>?_,fun h2=>?_⟩⟩
 ·unfold oS;rw[decide_eq_true (by omega)];rfl
 ·unfold oS;rw[decide_eq_false (by omega),Bool.false_or];exact cEB h2
 ·unfold oS;rw[decide_eq_false (by omega),Bool.false_or];exact aNZ h2
def aMR:Con:=⟨281,(.cMV aG (.cMV aF tI)),.bool,[.val ⟨false,aG,[]⟩,.val ⟨false,aF,[]⟩,.val ⟨false,tI,[]⟩],[⟨false,.bool,[0]⟩],false,none,
 ((fun x=>dD x.1=true/\x.2.2<=(x.2.1.length:Int)):(cC×(cT×Int))->Prop),
 ((fun x=>aF3 x.1 x.2.1 x.2.2.toNat):(cC×(cT×Int))->(Bool))⟩
def bHB:T:=zY aN <| xA tI tI aZ (fG (aOZ aG tI) 2) <| jL 2 (iE (lU aG aF tI 0) <| kK eG 243 bK aG (lU aG aF tI 0) 4 <| iE (lU aG aF tI 0) <| cX aZ 6 7 (cH 243 bK aG (lU aG aF tI 0) 1 <| nV aA aF (qE (aOZ aG tI)) 1 <| dF 0 aA cU (dZ bK 8) <| tL 10 11 aZ 0 fE) <| nV aA aF (qE (aOZ aG tI)) 1 <| dF 0 aA cM (qR 5) <| tL 9 10 aZ 0 cO) bD
theorem bDQ:Con.Holds Tryz.prog aMR:=tk ⟨[(2993,1001,[.tm 7 0])],[]⟩ bHB (aC vQ aH) fun(x:cC×(cT×Int)) hx hp=>by
 dsimp only [aMR] at hx hp⊢
 obtain⟨m,r,n⟩:=x
 obtain⟨hm,hn⟩:dD m=true/\n<=(r.length:Int):=hp
 have hr:r.length<=9223372036854775807:=hx.2.1.1
 have As:=(bO m).1 hm
 delta bHB sH;refine dR ?_
 refine⟨fun s=>∃k:Nat,k<=n.toNat/\s=(k:Int)/\∀i,i<k->dX (r.getD i []) (lC m i)=true,fun s=>n.toNat - (s:Int).toNat,⟨0,by omega,rfl,by omega⟩,fun s _ hI=>?_⟩
 obtain⟨k,hk,rfl,ha⟩:=hI
 refine dQ ?_
 have bad:k<n.toNat->∀z:Int,z=lC m k->dX (r.getD k []) z=false->false=aF3 m r n.toNat:=fun h z hz hv=>by
  refine(Bool.eq_false_iff.2 fun hh=>?_).symm
  have:=(vI _ _ _).1 hh k h
  rw[<-hz,hv] at this;cases this
 have good:∀z:Int,z=lC m k->dX (r.getD k []) z=true->∀i,i<k+1->dX (r.getD i []) (lC m i)=true:=fun z hz hv i hi=>by
  rcases Nat.lt_or_eq_of_le (Nat.le_of_lt_succ hi) with h|rfl
  ·exact ha i h
  ·rw[<-hz];exact hv
 constructor
 ·intro hlt
  have e1:(m.getD (m.length - 1) (aK bK)).2.2.1=(m.getD (m.length - 1) zOp).2.2.1:=rfl
  have e2:(m.getD k (aK bK)).2.1=(m.getD k zOp).2.1:=rfl
  have z1:k<m.length->(m.getD k zOp).2.1=lC m k:=fun h=>by unfold lC;rw[if_pos h]
  have z2:¬k<m.length->(m.getD (m.length - 1) zOp).2.2.1=lC m k:=fun h=>by unfold lC;rw[if_neg h]
  (repeat' first|intro _|(with_reducible apply And.intro))
  all_goals first|omega|(exact bad (by omega) _ (z1 (by omega)) (by assumption))|(exact bad (by omega) _ (z2 (by omega)) (by assumption))|(exact⟨k+1,by omega,rfl,good _ (z1 (by omega)) (by assumption)⟩)|(exact⟨k+1,by omega,rfl,good _ (z2 (by omega)) (by assumption)⟩)
 ·intro hge
  exact((vI _ _ _).2 fun i hi=>ha i (by omega)).symm
def xG:Con:=⟨189,aB,.bool,[.val ⟨true,aB,[]⟩],[⟨false,.bool,[0]⟩],false,none,
 ((fun _=>True):(aR)->Prop),
 ((fun x=>gY x):(aR)->(Bool))⟩
def bAY:T:=hZ <| cD 1 1 <| dU 2 3 <| aEH (wP 0) 4 aX <| wA aU yY <| lN (wP 0) fF 6 aX <| eQ 2 aG aF aZ (dP 11) <| dU 7 8 <| iE nH <| jW cU <| .ite (dP 4) (aBT aJ rN <| zY aN <| cX fE 11 13 (nS aJ aS rN 12 <| nX (gG 14) <| dW fC bF 16 <| gQ 3 (aOZ aG tI) [nH,gG 14,bF] <| tL 17 18 fE 0 kA) <| cD 4 1 <| cD 5 1 <| dF 6 aA (dP 7) dK <| jL 16 (dF 6 aA (dP 10) dK <| jL 17 (dF 6 aA (dP 8) fC <| jL 18 (dF 6 aA (dP 9) fC <| cF 19) aX) aX) aX) <| aBT aJ rN <| zY aN <| cX fE 11 13 (nS aJ aS rN 12 <| nX (gG 14) <| dW fC cI 16 <| gQ 3 (aOZ aG tI) (kM nH (gG 14) 10) <| tL 17 18 fE 0 kA) <| cD 4 1 <| cD 5 1 <| dF 6 aA (dP 7) dK <| jL 16 (dF 6 aA (dP 10) dK <| jL 17 (dF 6 aA (dP 8) fC <| jL 18 (dF 6 aA (dP 9) fC <| cF 19) aX) aX) aX
theorem aEC:Con.Holds Tryz.prog xG:=tk ⟨[(2979,48012,iZ 41 9++[.dr 0,.tm 44 0]),(2979,32012,iZ 41 9++[.dr 0,.tm 44 0])],[]⟩ bAY (aC aIB (aC aIJ (aC bLQ (aC bDQ (aC bH1 (aC aYH (aC bPI aH))))))) fun(x:aR) hx hp=>by
  dsimp only [xG] at hx hp⊢
  have hst:x.2.2.2.2.2.1.length<=9223372036854775807:=hx.2.2.2.2.2.1.1
  delta bAY aAQ aAT aLE aMR aP1 aJX aNX;refine dR ?_
  refine dQ ?_
  intro _
  refine⟨fun h=>aBS (.inl h),fun h1=>⟨fun h=>aBS (.inr (.inl h)),fun h2 _=>⟨fun h=>aBS (.inr (.inr (.inl h))),fun h3=>⟨fun h=>aBS (.inr (.inr (.inr (.inl h)))),fun h4 _=>?_⟩⟩⟩⟩
  have hm:=(bO _).1 h1
  refine⟨by omega,fun _=>⟨fun hr _=>?_,fun hr _=>?_⟩⟩
  all_goals
    refine⟨fun s=>∃k:Nat,k<=x.2.2.2.2.2.1.length/\s=(k:Int)/\∀i,i<k->wD x.2.2.1 x.2.2.2.2.1 (x.2.2.2.2.2.1.getD i (aK aJ))=true,fun s=>x.2.2.2.2.2.1.length - (s:Int).toNat,⟨0,by omega,rfl,by omega⟩,fun s _ hI=>?_⟩
    obtain⟨k,hk,rfl,ha⟩:=hI
    refine dQ ?_
    obtain⟨n,hn⟩:∃n,n=aH0 x.2.2.1 x.2.2.2.2.1:=⟨_,rfl⟩
    have Ah:=hn
    unfold aH0 at Ah
    rw[hr] at Ah
    simp only[if_true,Bool.false_eq_true,if_false] at Ah
    have hkn:=(Ah.symm.trans hn).symm
    clear hn Ah
    constructor
  rotate_left 1
  rotate_left 2
  all_goals first
    | (intro hge
       have hst:=bL9 (s:=x) (fun i hi=>ha i (by omega))
       rw[bPE h1 ⟨by omega,by omega⟩ h4 hst]
       (repeat' first|intro _|(with_reducible apply And.intro))
       all_goals simp_all
       done)
    | skip
  all_goals
    intro hlt
    have hk':k<x.2.2.2.2.2.1.length:=by omega
    (repeat' first|intro _|(with_reducible apply And.intro))
    all_goals first|omega|exact h1|(exact aYB hk' fun hh=>by have:=((aXZ hkn.symm).1 hh).1;omega)|skip
    all_goals first|(refine aYB hk' fun hh=>?_;have h5:=((aXZ hkn.symm).1 hh).2;exact Bool.noConfusion (h5.symm.trans (by assumption:_=false)))|(refine⟨k+1,by omega,rfl,fun i hi=>?_⟩;rcases Nat.lt_or_eq_of_le (Nat.le_of_lt_succ hi) with h|rfl;exact ha i h;exact(aXZ hkn.symm).2 ⟨by omega,by assumption⟩)
def wY:Con:=⟨105,aB,.bool,[.val ⟨true,aB,[]⟩],[⟨false,.bool,[0]⟩],false,none,
 ((fun _=>True):(aR)->Prop),
 ((fun x=>gY x):(aR)->(Bool))⟩
def bA1:T:=gH 0 nH 1 2 aX <| wA aU yY <| gQ 1 iK (kM (wP 0) aN 3) <| dU 4 5 <| nX (dP 11) <| iE nH <| dW cQ cY 8 <| bZ 243 bK aG nH aN <| iE nH <| kK cI 243 bK aG nH 11 <| jY 243 bK nH <| cX eM 14 15 (nV aA aF (dP 11) 13 <| cK gM <| cH 243 bK aG nH 13 <| cK (dO bK 3 18) <| dW iR kA 20 <| oM eM 0 21) <| jY 245 aJ rN <| cX gM 17 18 (nS aJ aS rN 16 <| nX wL <| uD qJ aN 21 aX <| bZ 253 aA aF wL aN <| cD 2 22 <| dU 23 24 <| bZ 253 aA aF wL aN <| cK (.Z 25) <| dW tJ (dZ bK 9) 27 <| qP (dP 4) 28 (nX wL <| iE nH <| jW (.Z 30) <| dW aG9 aEM 32 <| .ite (dP 4) (nX wL <| dW aQC bF 34 <| bE2 bF 253 aA wL <| cX aEL 36 37 (nV aA aF wL 35 <| cD 2 38 <| dU 39 40 <| kK aEL 253 aA aF wL 35 <| cK (.Z 42) <| cH 243 bK aG nH 41 <| dW (.Z 43) (qR 44) 45 <| oM aEL 0 46) <| oM gM 1 38) <| bE2 bF 253 aA wL <| cX aQC 34 35 (nV aA aF wL 33 <| cD 2 36 <| dU 37 38 <| kK aQC 253 aA aF wL 33 <| cK (.Z 40) <| cH 243 bK aG nH 39 <| dW (.Z 41) (qR 42) 43 <| oM aQC 0 44) <| oM gM 1 36) <| .ite (dP 4) (nX wL <| dW aG9 bF 30 <| bE2 bF 253 aA wL <| cX aEM 32 33 (nV aA aF wL 31 <| cD 2 34 <| dU 35 36 <| kK aEM 253 aA aF wL 31 <| cK (.Z 38) <| cH 243 bK aG nH 37 <| dW (.Z 39) (qR 40) 41 <| oM aEM 0 42) <| oM gM 1 34) <| bE2 bF 253 aA wL <| cX aG9 30 31 (nV aA aF wL 29 <| cD 2 32 <| dU 33 34 <| kK aG9 253 aA aF wL 29 <| cK (.Z 36) <| cH 243 bK aG nH 35 <| dW (.Z 37) (qR 38) 39 <| oM aG9 0 40) <| oM gM 1 32) <| dF 3 aA (dP 7) (dZ bK 9) <| jL 19 (dF 3 aA (dP 8) (qR 12) <| jL 20 (dF 3 aA (dP 9) (qR 12) <| jL 21 (dF 3 aA (dP 10) (dZ bK 9) <| cF 22) aX) aX) aX
theorem aDU:Con.Holds Tryz.prog wY:=tk ⟨[(2984,8013,iZ 46 9++[.dr 0,.tm 5 0]),(2974,16016,iZ 51 47++[.dr 5,.tm 6 0]),(2956,5392035,[.tm 8 0]),(2956,2320033,[.tm 8 0]),(2956,2576031,[.tm 8 0]),(2956,1040029,[.tm 8 0])],[]⟩ bA1 (aC uW (aC lV (aC nN (aC bPM aH)))) fun(x:aR) hx hp=>by
  dsimp only [wY] at hx hp⊢
  obtain⟨pc,plan,ops,last,redo,stash,full,X,Y,G,D,sum⟩:=x
  have hst:stash.length<=9223372036854775807:=hx.2.2.2.2.2.1.1
  have Bu:∀k,k<stash.length->(stash.getD k (aK aJ)).2.length<=9223372036854775807:=fun k hk=>by rw[aP hk];exact(hx.2.2.2.2.2.1.2 _ (List.getElem_mem hk)).2.1
  have hol:ops.length<=9223372036854775807:=hx.2.2.1.1
  delta bA1 rE kI lQ aO5;refine dR ?_
  refine dQ ?_
  refine⟨fun h=>aBS (.inl h),fun h1 _=>⟨fun h=>?_,fun h2 _ _=>⟨fun h=>?_,fun h3=>?_⟩⟩⟩
  · rcases h with h|h
    · exact aBS (.inr (.inl (by omega)))
    · exact aBS (.inr (.inr (.inl (by omega))))
  · exact aBS (.inr (.inr (.inr (.inl (Bool.eq_false_iff.2 fun hh=>by rw[xH] at hh;dsimp only at hh;omega)))))
  have hm:=(bO _).1 h1
  refine⟨by omega,fun _ _=>⟨by omega,fun _=>⟨by omega,fun _=>?_⟩⟩⟩
  have ein:(ops.getD 0 (aK bK)).2.1=kD ops:=by unfold kD;rw[if_pos h1];rfl
  have eout:(ops.getD (ops.length - 1) (aK bK)).2.2.1=eZ ops:=by unfold eZ;rw[if_pos h1];rfl
  simp only[ein,eout]
  refine⟨fun s=>∃k:Nat,k<=ops.length/\s=(k:Int)/\∀i,i<k->bES ops sum.1 i=true,fun s=>ops.length - (s:Int).toNat,⟨0,by omega,rfl,by omega⟩,fun s _ hI=>?_⟩
  obtain⟨k,hk,rfl,hf⟩:=hI
  refine dQ ?_
  intro _
  constructor
  · intro hlt
    have hk':k<ops.length:=by omega
    have hk2:k<sum.1.length:=by omega
    have e:=aR0 ops sum.1 hk' hk2
    rw[<-aP hk' (d:=aK bK),<-aP hk2 (d:=aK aA)] at e
    (repeat' first|intro _|(with_reducible apply And.intro))
    all_goals first|omega|(exact aBS (.inr (.inr (.inr (.inl (bRC hk' fun h2=>by have:=e.1 h2;omega))))))|(refine⟨k+1,by omega,rfl,fun i hi=>?_⟩;rcases Nat.lt_or_eq_of_le (Nat.le_of_lt_succ hi) with h|rfl;exact hf i h;exact e.2 (by omega))
  intro hge
  have hfit:aZE ops sum.1=true:=(xH _ _).2 ⟨by omega,fun i hi=>hf i (by omega)⟩
  obtain⟨F,hF⟩:∃F:eC->Bool,F=wD ops redo:=⟨_,rfl⟩
  obtain⟨n,hn⟩:∃n,n=aH0 ops redo:=⟨_,rfl⟩
  have hz0:lC ops 0=kD ops:=by unfold lC kD;rw[if_pos (by omega),if_pos h1]
  have sb:∀S:eC,F S=true↔S.2.length=n/\∀i,i<n->dX (S.2.getD i (aK aA)) (lC ops i)=true:=fun S=>by rw[hF,hn];exact aAO _ _ _
  have bad:∀j,j<stash.length->¬F (stash.getD j (aK aJ))=true->false=gY (pc,plan,ops,last,redo,stash,full,X,Y,G,D,sum):=fun j hj h=>aYB hj (by show ¬wD ops redo _=true;rw[<-hF];exact h)
  have fin:(∀i,i<stash.length->F (stash.getD i (aK aJ))=true)->gY (pc,plan,ops,last,redo,stash,full,X,Y,G,D,sum)=(oS X (kD ops)&&(oS D (kD ops)&&(oS Y (eZ ops)&&oS G (eZ ops)))) :=
    fun h=>bPE h1 ⟨by dsimp only;omega,by dsimp only;omega⟩ hfit (bL9 fun i hi=>by show wD ops redo _=true;rw[<-hF];exact h i hi)
  have Ah:(redo=true->n=1)/\(redo=false->n=ops.length+1):=by rw[hn];unfold aH0;exact⟨fun h=>by rw[h];rfl,fun h=>by rw[h];rfl⟩
  clear hF hn
  cases redo
  all_goals
    simp only[Bool.not_true,Bool.not_false,reduceCtorEq,true_implies,false_implies,and_true,true_and,forall_const] at Ah⊢
    refine⟨fun s=>∃k:Nat,k<=stash.length/\s=(k:Int)/\∀i,i<k->F (stash.getD i (aK aJ))=true,fun s=>stash.length - (s:Int).toNat,⟨0,by omega,rfl,by omega⟩,fun s _ hI=>?_⟩
    obtain⟨j,hj,rfl,ha⟩:=hI
    refine dQ ?_
    intro _
    constructor
    rotate_left
    · intro hge
      rw[fin fun i hi=>ha i (by omega)]
      (repeat' first|intro _|(with_reducible apply And.intro))
      all_goals simp_all
    intro hlt
    have hj':j<stash.length:=by omega
    have hrl:=Bu j hj'
    have bj:=bad j hj'
    have sj:=sb (stash.getD j (aK aJ))
    have nx:F (stash.getD j (aK aJ))=true->∀i,i<j+1->F (stash.getD i (aK aJ))=true:=fun h i hi=>by
      rcases Nat.lt_or_eq_of_le (Nat.le_of_lt_succ hi) with h'|rfl
      · exact ha i h'
      · exact h
    clear ha fin bad sb Bu
    generalize stash.getD j (aK aJ)=S at *
    (repeat' first|intro _|(with_reducible apply And.intro))
    all_goals first|omega|(refine bj fun hh=>?_;have:=(sj.1 hh).1;omega)|(refine bj fun hh=>?_;have h5:=(sj.1 hh).2 0 (by omega);rw[cS] at h5;first|omega|(simp_all;done))|skip
    refine⟨fun s=>∃k:Nat,1<=k/\k<=S.2.length/\s=(k:Int)/\∀i,1<=i->i<k->dX (S.2.getD i (aK aA)) (lC ops i)=true,fun s=>S.2.length - (s:Int).toNat,⟨1,by omega,by omega,rfl,by omega⟩,fun s _ hI=>?_⟩
    obtain⟨k,hk1,hk,rfl,ha⟩:=hI
    refine dQ ?_
    have hsz:k<=ops.length->lC ops k=(ops.getD (k - 1) (aK bK)).2.2.1:=fun h=>by
      have:=bAD h1 (k:=k - 1) (by omega)
      rwa [Nat.sub_add_cancel hk1] at this
    (repeat' first|intro _|(with_reducible apply And.intro))
    all_goals first|omega|skip
    all_goals first
      | (refine bj fun hh=>?_;have h5:=(sj.1 hh).2 k (by omega);rw[cS,hsz (by omega)] at h5;first|omega|(simp_all;done))
      | (refine⟨k+1,by omega,by omega,rfl,fun i hi1 hi=>?_⟩
         rcases Nat.lt_or_eq_of_le (Nat.le_of_lt_succ hi) with h'|rfl
         · exact ha i hi1 h'
         · rw[cS,hsz (by omega)];exact⟨by assumption,by omega⟩)
      | (refine⟨j+1,by omega,rfl,nx (sj.2 ⟨by omega,fun i hi=>?_⟩)⟩
         by_cases hi1:1<=i
         · exact ha i hi1 (by omega)
         · obtain rfl:i=0:=by omega
           rw[cS,hz0];exact⟨by assumption,by omega⟩)
def mp {α:Type} (n:Nat) (g:Nat->α):List α:=(List.range n).map g
def an (n:Nat) (h:Nat->Bool):Bool:=(List.range n).any h
theorem bMP {α:Type} (g:Nat->α):mp 0 g=[]:=rfl
theorem bYK (h:Nat->Bool):an 0 h=false:=rfl
theorem qT {α:Type} (n:Nat) (g:Nat->α):mp (n+1) g=mp n g++[g n]:=by unfold mp;rw[List.range_succ,List.map_append];rfl
theorem yK (n:Nat) (h:Nat->Bool):an (n+1) h=(an n h||h n):=by unfold an;rw[List.range_succ,List.any_append];simp
theorem kF {α:Type} (n:Nat) (g:Nat->α):(mp n g).length=n:=by unfold mp;simp
theorem bCA {α:Type} (n:Nat) (g:Nat->α) (d:α) {i:Nat} (h:i<n):(mp n g).getD i d=g i:=by unfold mp;simp[h]
theorem cGP {α:Type} {n:Nat} {g h:Nat->α} (e:∀i,i<n->g i=h i):mp n g=mp n h:=List.map_congr_left fun i hi=>e i (List.mem_range.1 hi)
theorem cG7 {n:Nat} {g h:Nat->Bool} (e:∀i,i<n->g i=h i):an n g=an n h:=by
 rw[Bool.eq_iff_iff];unfold an;simp only[List.any_eq_true,List.mem_range]
 exact⟨fun⟨i,h1,h2⟩=>⟨i,h1,by rw[<-e i h1];exact h2⟩,fun⟨i,h1,h2⟩=>⟨i,h1,by rw[e i h1];exact h2⟩⟩
theorem rV {a b:Bool} (h:a=true):true=(a||b):=by rw[h];rfl
theorem yT {a b:Bool} (h:a=false):b=(a||b):=by rw[h];rfl
theorem cJD {a b c:Bool} (h:a=true):true=((a||b)||c):=by rw[h];rfl
theorem cJF {a b c:Bool} (h:a=false) (h2:b=true):true=((a||b)||c):=by rw[h,h2];rfl
theorem cIT {a b c:Bool} (h:a=false) (h2:b=false):c=((a||b)||c):=by rw[h,h2];rfl
def pJ (a b:Int):Int×Bool:=bIA (mS a - mS b)
def oI (a b:Int):Int×Bool:=bIA ((mS a * mS b).fdiv 65536)
def bFC (x:Int):Int:=max 0 (mS x)
theorem cLY {x y:Int} (h1:-2147483647<=x/\x<=2147483647) (h2:-2147483647<=y/\y<=2147483647):-4611686014132420609<=x * y/\x * y<=4611686014132420609:=by
 have h:(x * y).natAbs<=2147483647 * 2147483647:=by
  rw[Int.natAbs_mul];exact Nat.mul_le_mul (by omega) (by omega)
 omega
theorem cLS {a:Int} (h:-9223372036854775808<=a/\a<=9223372036854775807):-140737488355328<=a.tdiv 65536/\a.tdiv 65536<=140737488355328:=by
 rcases Int.le_total 0 a with h1|h1
 ·rw[Int.tdiv_eq_ediv_of_nonneg h1];omega
 ·have e1:a.tdiv 65536 = -((-a) / 65536):=by
   rw[<-Int.neg_neg a,Int.neg_tdiv,Int.tdiv_eq_ediv_of_nonneg (by omega),Int.neg_neg]
  omega
theorem cFM (x:Int):x.fdiv 65536=(if x.tmod 65536≠0/\x<0 then x.tdiv 65536 - 1 else x.tdiv 65536):=by
 rw[Int.fdiv_eq_ediv_of_nonneg _ (by decide)]
 rcases Int.le_total 0 x with h|h
 ·rw[Int.tdiv_eq_ediv_of_nonneg h,if_neg (by omega)]
 ·have e1:x.tdiv 65536 = -((-x) / 65536):=by
   rw[<-Int.neg_neg x,Int.neg_tdiv,Int.tdiv_eq_ediv_of_nonneg (by omega),Int.neg_neg]
  have e2:x.tmod 65536 = -((-x) % 65536):=by
   rw[<-Int.neg_neg x,Int.neg_tmod,Int.tmod_eq_emod_of_nonneg (by omega),Int.neg_neg]
  rw[e1,e2]
  split<;>omega
def aEA (a b:List Int):Bool:=tQ a&&dX b (a.length:Int)
def vz (f:Int->Int->Int×Bool) (a b:List Int) (n:Nat):List Int×Bool:=(mp n fun i=>(f (a.getD i 0) (b.getD i 0)).1,an n fun i=>(f (a.getD i 0) (b.getD i 0)).2)
def wT (f:Int->Int->Int×Bool) (a b:List Int):List Int×Bool:=if aEA a b=true then vz f a b a.length else([],false)
def aH5 (c:Int) (a:List Int):List Int×Bool:=if nO c=true/\tQ a=true then(mp a.length fun i=>(oI c (a.getD i 0)).1,an a.length fun i=>(oI c (a.getD i 0)).2) else([],false)
def aW6 (a b:List Int):Nat->Int×Bool
 | 0=>(0,false)
 | k+1=>((kH (aW6 a b k).1 (oI (a.getD k 0) (b.getD k 0)).1).1,(aW6 a b k).2||(oI (a.getD k 0) (b.getD k 0)).2||(kH (aW6 a b k).1 (oI (a.getD k 0) (b.getD k 0)).1).2)
def oE (a b:List Int):Int×Bool:=if aEA a b=true then aW6 a b a.length else(0,false)
def aDR (a:List Int):List Int:=if tQ a=true then mp a.length fun i=>bFC (a.getD i 0) else []
def aDN (x d:List Int):List Int:=if aEA x d=true then mp x.length fun i=>if 0<x.getD i 0 then d.getD i 0 else 0 else []
theorem aQL (a b:List Int):aEA a b=true↔tQ a=true/\dX b (a.length:Int)=true:=by unfold aEA;rw[Bool.and_eq_true]
theorem vU {a b:List Int} (h:aEA a b=true):a.length<=6/\b.length=a.length:=by
 obtain⟨h1,h2⟩:=(aQL a b).1 h
 have:=(dH a).1 h1
 have:=(cS _ _).1 h2
 omega
theorem bCL {f:Int->Int->Int×Bool} {a b:List Int} (h:aEA a b=false):([],false)=wT f a b:=by unfold wT;rw[if_neg (by rw[h];exact Bool.false_ne_true)]
theorem aWS {f:Int->Int->Int×Bool} {a b:List Int} (h:aEA a b=true):wT f a b=vz f a b a.length:=if_pos h
theorem bKO (a b:List Int) (k:Nat):aW6 a b (k+1)=((kH (aW6 a b k).1 (oI (a.getD k 0) (b.getD k 0)).1).1,(aW6 a b k).2||(oI (a.getD k 0) (b.getD k 0)).2||(kH (aW6 a b k).1 (oI (a.getD k 0) (b.getD k 0)).1).2):=rfl
theorem bXN (a b:List Int):(tQ a&&(tQ b&&decide (a.length=b.length)))=aEA a b:=by
 unfold aEA dX
 congr 2
 rw[Bool.eq_iff_iff,decide_eq_true_eq,decide_eq_true_eq];omega
def aTB:Con:=⟨250,aU,aB4,[.val ⟨false,tI,[]⟩,.val ⟨false,tI,[]⟩],[⟨false,tI,[0]⟩,⟨false,.bool,[0]⟩],false,none,
 ((fun _=>True):(Int×Int)->Prop),
 ((fun x=>pJ x.1 x.2):(Int×Int)->(Int×Bool))⟩
def bGK:T:=eK 0 aB9 0 yZ <| lR mY aZ 2 <| cD 1 3 aD7
theorem bTQ:Con.Holds Tryz.prog aTB:=tk ⟨[],[]⟩ bGK (aC aJU (aC aUN aH)) fun(x:Int×Int) hx hp=>by
 dsimp only [aTB] at hx hp⊢
 delta bGK aCQ aH9;refine dR ?_
 intro _ _
 have h1:=qM x.1
 have h2:=qM x.2
 exact⟨by omega,fun _ _=>rfl⟩
def aGZ:Con:=⟨249,aU,aB4,[.val ⟨false,tI,[]⟩,.val ⟨false,tI,[]⟩],[⟨false,tI,[0]⟩,⟨false,.bool,[0]⟩],false,none,
 ((fun _=>True):(Int×Int)->Prop),
 ((fun x=>oI x.1 x.2):(Int×Int)->(Int×Bool))⟩
def bCP:T:=eK 0 aB9 0 yZ <| lR pY aZ 2 <| vC (.shr .i64 .u64) (.int .u64) eG (.ci .u64 16) <| cD 1 4 <| cF 5
theorem aU2:Con.Holds Tryz.prog aGZ:=tk ⟨[],[]⟩ bCP (aC aJU (aC aUN aH)) fun(x:Int×Int) hx hp=>by
 dsimp only [aGZ] at hx hp⊢
 delta bCP aCQ aH9;refine dR ?_
 have h:=cLY (qM x.1) (qM x.2)
 exact fun _ _=>⟨by omega,fun _=>⟨by omega,fun _ _=>rfl⟩⟩
def bET:Con:=⟨382,tI,tI,[.val ⟨false,tI,[]⟩],[⟨false,tI,[0]⟩],false,none,
 ((fun _=>True):(Int)->Prop),
 ((fun x=>bFC x):(Int)->(Int))⟩
def bSV:T:=hZ <| lR bEQ aN 1 <| cF 2
theorem cB6:Con.Holds Tryz.prog bET:=tk ⟨[],[]⟩ bSV (aC aJU aH) fun(x:Int) hx hp=>by
 dsimp only [bET] at hx hp⊢
 delta bSV aCQ;refine dR ?_
 exact fun _ _=>rfl
def aD0:Con:=⟨345,aL,.bool,[.val ⟨false,aA,[]⟩,.val ⟨false,aA,[]⟩],[⟨false,.bool,[0]⟩],false,none,
 ((fun _=>True):(bT)->Prop),
 ((fun x=>aEA x.1 x.2):(bT)->(Bool))⟩
def bD3:T:=nC oZ <| jL 1 (cK oZ <| dF 1 aA pI bM <| cF 3) aX
theorem aKR:Con.Holds Tryz.prog aD0:=tk ⟨[],[]⟩ bD3 (aC aCP (aC vQ aH)) fun(x:bT) hx hp=>by
 dsimp only [aD0] at hx hp⊢
 delta bD3 yH sH;refine dR ?_
 refine⟨fun h _=>?_,fun h=>?_⟩
 ·unfold aEA;rw[h,Bool.true_and]
 ·unfold aEA;rw[h,Bool.false_and]
def aLU:Con:=⟨367,aL,aE2,[.val ⟨false,aA,[]⟩,.val ⟨false,aA,[]⟩],[⟨false,aA,[2]⟩,⟨false,.bool,[0]⟩],false,none,
 ((fun _=>True):(bT)->Prop),
 ((fun x=>wT kH x.1 x.2):(bT)->(bX×Bool))⟩
def bE6:T:=hZ <| dL 1 2 (nA aA bA) <| cK oZ <| oQ dG dG aX bA <| cX (iF 4) 3 5 (aER 3 aA 0 (iF 4) <| jZ 3 pI (iF 4) <| jK 1 cQ cY <| gD 3 tI aAI <| lS 3 8 aA aA (lK 2 4) 9 <| xY aA 1 4 (lI (iF 4) 0 dG cO bD 10) <| lI (iF 4) 0 dG cO (gK tI 1 8) 10) <| qX aA (lK 2 4) aA 1 4
theorem bGY:Con.Holds Tryz.prog aLU:=tk ⟨[(2984,2004,iZ 16 11++[.tm 18 0,.tm 7 0,.on 6,.sl 1])],[]⟩ bE6 (aC aKR (aC aMV aH)) fun(x:bT) hx hp=>by
 dsimp only [aLU] at hx hp⊢
 obtain⟨a,b⟩:=x
 delta bE6 aD0 aC7;refine dR ?_
 simp only[Bool.not_eq_true',Bool.not_eq_false']
 refine⟨bCL,fun h _=>?_⟩
 have hl:=vU h
 rw[aWS h]
 refine eY (fun k=>((k:Int),an k (fun i=>(kH (a.getD i 0) (b.getD i 0)).2),mp k fun i=>(kH (a.getD i 0) (b.getD i 0)).1)) a.length rfl fun I μ k hk _ go=>?_
 dsimp only
 simp only[dzx,kF]
 (repeat' first|intro _|(refine go _ ?_ ?_ ?_)|(refine go _ ?_ ?_)|(with_reducible apply And.intro))
 all_goals first|omega|(unfold maxLen;omega)|(rw[qT,yK];first|exact Prod.ext rfl (Prod.ext (rV (by assumption)) rfl)|exact Prod.ext rfl (Prod.ext (yT (by assumption)) rfl))|(have e:k=a.length:=(by omega);subst e;rfl)
def aLA:Con:=⟨301,aL,aE2,[.val ⟨false,aA,[]⟩,.val ⟨false,aA,[]⟩],[⟨false,aA,[2]⟩,⟨false,.bool,[0]⟩],false,none,
 ((fun _=>True):(bT)->Prop),
 ((fun x=>wT pJ x.1 x.2):(bT)->(bX×Bool))⟩
def bFF:T:=hZ <| dL 1 2 (nA aA bA) <| cK oZ <| oQ dG dG aX bA <| cX (iF 4) 3 5 (aER 3 aA 0 (iF 4) <| jZ 3 pI (iF 4) <| jK 1 cQ cY <| gD 3 tI aAI <| lS 3 8 aA aA (lK 2 4) 9 <| xY aA 1 4 (lI (iF 4) 0 dG cO bD 10) <| lI (iF 4) 0 dG cO (gK tI 1 8) 10) <| qX aA (lK 2 4) aA 1 4
theorem bCU:Con.Holds Tryz.prog aLA:=tk ⟨[(2984,2004,iZ 16 11++[.tm 18 0,.tm 7 0,.on 6,.sl 1])],[]⟩ bFF (aC aKR (aC bTQ aH)) fun(x:bT) hx hp=>by
 dsimp only [aLA] at hx hp⊢
 obtain⟨a,b⟩:=x
 delta bFF aD0 aTB;refine dR ?_
 simp only[Bool.not_eq_true',Bool.not_eq_false']
 refine⟨bCL,fun h _=>?_⟩
 have hl:=vU h
 rw[aWS h]
 refine eY (fun k=>((k:Int),an k (fun i=>(pJ (a.getD i 0) (b.getD i 0)).2),mp k fun i=>(pJ (a.getD i 0) (b.getD i 0)).1)) a.length rfl fun I μ k hk _ go=>?_
 dsimp only
 simp only[dzx,kF]
 (repeat' first|intro _|(refine go _ ?_ ?_ ?_)|(refine go _ ?_ ?_)|(with_reducible apply And.intro))
 all_goals first|omega|(unfold maxLen;omega)|(rw[qT,yK];first|exact Prod.ext rfl (Prod.ext (rV (by assumption)) rfl)|exact Prod.ext rfl (Prod.ext (yT (by assumption)) rfl))|(have e:k=a.length:=(by omega);subst e;rfl)
def aFL:Con:=⟨368,aM,aE2,[.val ⟨false,tI,[]⟩,.val ⟨false,aA,[]⟩],[⟨false,aA,[2]⟩,⟨false,.bool,[0]⟩],false,none,
 ((fun _=>True):(cP)->Prop),
 ((fun x=>aH5 x.1 x.2):(cP)->(bX×Bool))⟩
def aW5:T:=gH 0 (kV 0) 1 2 (nA aA bA) <| gH 1 (iA 0) 3 4 (nA aA bA) <| cK (iA 0) <| oQ dG dG aX bA <| cX (iF 6) 5 7 (jZ 3 (iA 0) (iF 6) <| jK 2 (kV 0) cM <| gD 3 tI (eL 9) <| lS 3 8 aA aA (lK 2 6) 10 <| xY aA 1 6 (lI (iF 6) 0 dG fE bD 11) <| lI (iF 6) 0 dG fE (gK tI 1 9) 11) <| qX aA (lK 2 6) aA 1 6
theorem aWO:Con.Holds Tryz.prog aFL:=tk ⟨[(2984,4006,iZ 20 11++[.tm 22 0,.tm 7 0,.on 6,.sl 1])],[]⟩ aW5 (aC aYC (aC aCP (aC aU2 aH))) fun(x:cP) hx hp=>by
 dsimp only [aFL] at hx hp⊢
 obtain⟨c,a⟩:=x
 delta aW5 aJZ yH aGZ;refine dR ?_
 simp only[Bool.not_eq_true',Bool.not_eq_false']
 refine⟨fun h=>?_,fun h1=>⟨fun h=>?_,fun h2 _=>?_⟩⟩
 ·unfold aH5;rw[if_neg (by rw[h];simp)]
 ·unfold aH5;rw[if_neg (by rw[h];simp)]
 have hl:=(dH a).1 h2
 rw[show aH5 c a=_ from if_pos ⟨h1,h2⟩]
 refine eY (fun k=>((k:Int),an k (fun i=>(oI c (a.getD i 0)).2),mp k fun i=>(oI c (a.getD i 0)).1)) a.length rfl fun I μ k hk _ go=>?_
 dsimp only
 simp only[dzx,kF]
 (repeat' first|intro _|(refine go _ ?_ ?_ ?_)|(refine go _ ?_ ?_)|(with_reducible apply And.intro))
 all_goals first|omega|(unfold maxLen;omega)|(rw[qT,yK];first|exact Prod.ext rfl (Prod.ext (rV (by assumption)) rfl)|exact Prod.ext rfl (Prod.ext (yT (by assumption)) rfl))|(have e:k=a.length:=(by omega);subst e;rfl)
def aGD:Con:=⟨344,aL,aB4,[.val ⟨false,aA,[]⟩,.val ⟨false,aA,[]⟩],[⟨false,tI,[0]⟩,⟨false,.bool,[0]⟩],false,none,
 ((fun _=>True):(bT)->Prop),
 ((fun x=>oE x.1 x.2):(bT)->(Int×Bool))⟩
def bHX:T:=hZ <| dL 1 2 (wJ .bool aX) <| cK oZ <| oQ (xM tI) (xM tI) aX aN <| cX (lH tI 4) 3 5 (aER 3 aA 0 (lH tI 4) <| jZ 3 pI (lH tI 4) <| jK 1 cQ cY <| jK 2 (kN tI 2 4) aAI <| xY tI 1 4 (gF (lH tI 4) 0 (xM tI) [cI,bD,eL 9]) <| nF tI 1 8 (gF (lH tI 4) 0 (xM tI) [cI,bD,eL 9]) <| gF (lH tI 4) 0 (xM tI) [cI,gK tI 1 9,eL 9]) <| qX tI (kN tI 2 4) tI 1 4
theorem aTU:Con.Holds Tryz.prog aGD:=tk ⟨[(2984,2004,iZ 17 13++[.tm 19 0,.tm 7 0,.tm 6 0])],[]⟩ bHX (aC aKR (aC aU2 (aC aMV aH))) fun(x:bT) hx hp=>by
 dsimp only [aGD] at hx hp⊢
 obtain⟨a,b⟩:=x
 delta bHX aD0 aGZ aC7;refine dR ?_
 simp only[Bool.not_eq_true',Bool.not_eq_false']
 refine⟨fun h=>by unfold oE;rw[if_neg (by rw[h];exact Bool.false_ne_true)],fun h _=>?_⟩
 have hl:=vU h
 rw[show oE a b=_ from if_pos h]
 refine eY (fun k=>((k:Int),(aW6 a b k).2,(aW6 a b k).1)) a.length rfl fun I μ k hk _ go=>?_
 dsimp only
 (refine dQ ?_;try with_reducible exact True.intro)
 (repeat' first|intro _|(refine go _ ?_ ?_ ?_)|(refine go _ ?_ ?_)|(with_reducible apply And.intro))
 all_goals first|omega|(rw[bKO];first|exact Prod.ext rfl (Prod.ext (cJD (by assumption)) rfl)|exact Prod.ext rfl (Prod.ext (cJF (by assumption) (by assumption)) rfl)|exact Prod.ext rfl (Prod.ext (cIT (by assumption) (by assumption)) rfl))|(have e:k=a.length:=(by omega);subst e;rfl)
def aPF:Con:=⟨369,aA,aA,[.val ⟨false,aA,[]⟩],[⟨false,aA,[2]⟩],false,none,
 ((fun _=>True):(List Int)->Prop),
 ((fun x=>aDR x):(List Int)->(List Int))⟩
def bB5:T:=hZ <| dL 1 2 bA <| cK bJ <| pX aM aA bA <| oJ aA 4 3 5 (jZ 3 bJ (kV 4) <| cD 1 6 <| kO 3 tI 7 <| lS 3 8 aA aA (iA 4) 8 <| eJ aA 4 0 aA cI cU) (iA 4)
theorem bP8:Con.Holds Tryz.prog aPF:=tk ⟨[(2986,2004,iZ 9 6++[.dr 0,.tm 12 0,.on 3,.sl 1])],[]⟩ bB5 (aC aCP (aC cB6 aH)) fun(x:List Int) hx hp=>by
 dsimp only [aPF] at hx hp⊢
 obtain⟨a,rfl⟩:∃a,a=x:=⟨_,rfl⟩
 delta bB5 yH bET;refine dR ?_
 simp only[Bool.not_eq_true',Bool.not_eq_false']
 refine⟨fun h=>by unfold aDR;rw[if_neg (by rw[h];exact Bool.false_ne_true)],fun h _=>?_⟩
 have hl:=(dH a).1 h
 rw[show aDR a=_ from if_pos h]
 refine eY (fun k=>((k:Int),mp k fun i=>bFC (a.getD i 0))) a.length rfl fun I μ k hk _ go=>?_
 dsimp only
 simp only[dzx,kF]
 (repeat' first|intro _|(refine go _ ?_ ?_ ?_)|(refine go _ ?_ ?_)|(with_reducible apply And.intro))
 all_goals first|omega|(unfold maxLen;omega)|(rw[qT];rfl)|(have e:k=a.length:=(by omega);subst e;rfl)
def aNK:Con:=⟨372,aL,aA,[.val ⟨false,aA,[]⟩,.val ⟨false,aA,[]⟩],[⟨false,aA,[2]⟩],false,none,
 ((fun _=>True):(bT)->Prop),
 ((fun x=>aDN x.1 x.2):(bT)->(List Int))⟩
def bBN:T:=hZ <| dL 1 2 bA <| cK oZ <| pX aM aA bA <| oJ aA 4 3 5 (aER 3 aA 0 (kV 4) <| vH .gtr cQ aN 7 (jZ 3 pI (kV 4) <| kO 3 tI 8 <| lS 3 8 aA aA (iA 4) 9 <| eJ aA 4 0 aA cO cI) <| gD 3 tI aN <| lS 3 8 aA aA (iA 4) 8 <| eJ aA 4 0 aA cI cU) (iA 4)
theorem bOP:Con.Holds Tryz.prog aNK:=tk ⟨[(2986,2004,iZ 12 7++[.tm 14 0,.on 5,.sl 1])],[]⟩ bBN (aC aKR aH) fun(x:bT) hx hp=>by
 dsimp only [aNK] at hx hp⊢
 obtain⟨a,b⟩:=x
 delta bBN aD0;refine dR ?_
 simp only[Bool.not_eq_true',Bool.not_eq_false']
 refine⟨fun h=>by unfold aDN;rw[if_neg (by rw[h];exact Bool.false_ne_true)],fun h _=>?_⟩
 have hl:=vU h
 rw[show aDN a b=_ from if_pos h]
 refine eY (fun k=>((k:Int),mp k fun i=>if 0<a.getD i 0 then b.getD i 0 else 0)) a.length rfl fun I μ k hk _ go=>?_
 dsimp only
 simp only[dzx,kF]
 have e1:0<a.getD k 0->b.getD k 0=if 0<a.getD k 0 then b.getD k 0 else 0:=fun h=>(if_pos h).symm
 have e2:a.getD k 0<=0->0=if 0<a.getD k 0 then b.getD k 0 else 0:=fun h=>(if_neg (by omega)).symm
 (repeat' first|intro _|(refine go _ ?_ ?_ ?_)|(refine go _ ?_ ?_)|(with_reducible apply And.intro))
 all_goals first|omega|(unfold maxLen;omega)|(rw[qT];first|exact Prod.ext rfl (congrArg (mp k _++[·]) (e1 (by assumption)))|exact Prod.ext rfl (congrArg (mp k _++[·]) (e2 (by assumption))))|(have e:k=a.length:=(by omega);subst e;rfl)
def aUJ:Con:=⟨241,aU,aB4,[.val ⟨false,tI,[]⟩,.val ⟨false,tI,[]⟩],[⟨false,tI,[0]⟩,⟨false,.bool,[0]⟩],false,none,
 ((fun _=>True):(Int×Int)->Prop),
 ((fun x=>pJ x.1 x.2):(Int×Int)->(Int×Bool))⟩
def bD8:T:=eK 0 aB9 0 yZ <| lR mY aZ 2 <| cD 1 3 aD7
theorem bUI:Con.Holds Tryz.prog aUJ:=tk ⟨[],[]⟩ bD8 (aC aV3 (aC aQM aH)) fun(x:Int×Int) hx hp=>by
 dsimp only [aUJ] at hx hp⊢
 delta bD8 aK5 aFW;refine dR ?_
 intro _ _
 have h1:=qM x.1
 have h2:=qM x.2
 exact⟨by omega,fun _ _=>rfl⟩
def aNP:Con:=⟨315,aU,tI,[.val ⟨false,tI,[]⟩,.val ⟨false,tI,[]⟩],[⟨false,tI,[0]⟩],false,none,
 ((fun x=>x.2=65536):(Int×Int)->Prop),
 ((fun x=>x.1.fdiv 65536):(Int×Int)->(Int))⟩
def bAR:T:=fR (.quo .i64) aB9 yZ <| fR aDA aB9 yZ <| rX .neq bM aN 3 (xA tI tI aB9 aN <| xA tI tI yZ aN <| mF (aMO true) .bool .bool 4 5 <| jL 6 (lL aZ <| cF 7) aZ) aZ
theorem bQ4:Con.Holds Tryz.prog aNP:=tk ⟨[],[]⟩ bAR aH fun(x:Int×Int) hx hp=>by
 dsimp only [aNP] at hx hp⊢
 obtain⟨a,b⟩:=x
 obtain rfl:b=65536:=hp
 have e:=cFM a
 have ha:-9223372036854775808<=a/\a<=9223372036854775807:=hx.1
 have hd:=cLS ha
 delta bAR;refine dR ?_
 simp only[bVT,bW0,aEU,aEG,show decide ((65536:Int)<0)=false from rfl,decide_eq_false_iff_not,Classical.not_not]
 rw[e]
 (repeat' first|intro _|(with_reducible apply And.intro))
 all_goals first|omega|(rw[if_pos ⟨by assumption,by assumption⟩])|(rw[if_neg (fun h=>by have:=h.2;omega)])|(rw[if_neg (fun h=>h.1 (by assumption))])
def aGT:Con:=⟨240,aU,aB4,[.val ⟨false,tI,[]⟩,.val ⟨false,tI,[]⟩],[⟨false,tI,[0]⟩,⟨false,.bool,[0]⟩],false,none,
 ((fun _=>True):(Int×Int)->Prop),
 ((fun x=>oI x.1 x.2):(Int×Int)->(Int×Bool))⟩
def bCS:T:=eK 0 aB9 0 yZ <| lR pY aZ 2 <| mU 1 tI eG 65536 <| cD 2 4 <| cF 5
theorem aTF:Con.Holds Tryz.prog aGT:=tk ⟨[],[]⟩ bCS (aC aV3 (aC bQ4 (aC aQM aH))) fun(x:Int×Int) hx hp=>by
 dsimp only [aGT] at hx hp⊢
 delta bCS aK5 aNP aFW;refine dR ?_
 have h:=cLY (qM x.1) (qM x.2)
 exact fun _ _=>⟨by omega,fun _ _ _=>rfl⟩
def bCV:Con:=⟨375,tI,tI,[.val ⟨false,tI,[]⟩],[⟨false,tI,[0]⟩],false,none,
 ((fun _=>True):(Int)->Prop),
 ((fun x=>bFC x):(Int)->(Int))⟩
def bQ9:T:=hZ <| lR bEQ aN 1 <| cF 2
theorem cD9:Con.Holds Tryz.prog bCV:=tk ⟨[],[]⟩ bQ9 (aC aV3 aH) fun(x:Int) hx hp=>by
 dsimp only [bCV] at hx hp⊢
 delta bQ9 aK5;refine dR ?_
 exact fun _ _=>rfl
def aMA:Con:=⟨349,aL,aE2,[.val ⟨false,aA,[]⟩,.val ⟨false,aA,[]⟩],[⟨false,aA,[2]⟩,⟨false,.bool,[0]⟩],false,none,
 ((fun _=>True):(bT)->Prop),
 ((fun x=>wT kH x.1 x.2):(bT)->(bX×Bool))⟩
def bCT:T:=aAC dG (oH dG (aBO aX bA)) 3 tI oZ <| cX uO 2 3 (hZ <| aAG 4 (aER 3 aA 0 uO <| jZ 3 pI uO <| jK 1 fF cQ <| gD 3 tI (eL 7) <| lS 3 8 aA aA (lK 2 1) 8 <| xY aA 1 1 (lI uO 0 dG cI bD 9) <| lI uO 0 dG cI (gK tI 1 7) 9) <| qX aA (lK 2 1) aA 1 1) <| qX aA (lK 2 1) aA 1 1
theorem bFG:Con.Holds Tryz.prog aMA:=tk ⟨[(2989,1001,[.dr 11,.tm 8 0,.tm 7 0,.on 6,.sl 1])],[]⟩ bCT (aC aKT (aC aHB aH)) fun(x:bT) hx hp=>by
 dsimp only [aMA] at hx hp⊢
 obtain⟨a,b⟩:=x
 delta bCT aCT aA0;refine dR ?_
 simp only[bXN]
 cases h:aEA a b
 ·refine eY (fun _=>((0:Int),false,([]:List Int))) 0 rfl fun I μ k hk _ go=>?_
  dsimp only
  simp only[reduceCtorEq,false_implies,true_implies,forall_const,and_true,true_and,implies_true,dzx]
  (repeat' first|intro _|(refine go _ ?_ ?_ ?_)|(refine go _ ?_ ?_)|(with_reducible apply And.intro))
  all_goals first|omega|exact bCL h
 ·have hl:=vU h
  rw[aWS h]
  refine eY (fun k=>((k:Int),an k (fun i=>(kH (a.getD i 0) (b.getD i 0)).2),mp k fun i=>(kH (a.getD i 0) (b.getD i 0)).1)) a.length rfl fun I μ k hk _ go=>?_
  dsimp only
  simp only[reduceCtorEq,false_implies,true_implies,forall_const,and_true,true_and,implies_true,dzx,kF]
  (repeat' first|intro _|(refine go _ ?_ ?_ ?_)|(refine go _ ?_ ?_)|(with_reducible apply And.intro))
  all_goals first|omega|(unfold maxLen;omega)|(rw[qT,yK];first|exact Prod.ext rfl (Prod.ext (rV (by assumption)) rfl)|exact Prod.ext rfl (Prod.ext (yT (by assumption)) rfl))|(have e:k=a.length:=(by omega);subst e;rfl)
def aKS:Con:=⟨234,aL,aE2,[.val ⟨false,aA,[]⟩,.val ⟨false,aA,[]⟩],[⟨false,aA,[2]⟩,⟨false,.bool,[0]⟩],false,none,
 ((fun _=>True):(bT)->Prop),
 ((fun x=>wT pJ x.1 x.2):(bT)->(bX×Bool))⟩
def bHM:T:=aAC dG (oH dG (aBO aX bA)) 3 tI oZ <| cX uO 2 3 (hZ <| aAG 4 (aER 3 aA 0 uO <| jZ 3 pI uO <| jK 1 fF cQ <| gD 3 tI (eL 7) <| lS 3 8 aA aA (lK 2 1) 8 <| xY aA 1 1 (lI uO 0 dG cI bD 9) <| lI uO 0 dG cI (gK tI 1 7) 9) <| qX aA (lK 2 1) aA 1 1) <| qX aA (lK 2 1) aA 1 1
theorem bEB:Con.Holds Tryz.prog aKS:=tk ⟨[(2989,1001,[.dr 11,.tm 8 0,.tm 7 0,.on 6,.sl 1])],[]⟩ bHM (aC aKT (aC bUI aH)) fun(x:bT) hx hp=>by
 dsimp only [aKS] at hx hp⊢
 obtain⟨a,b⟩:=x
 delta bHM aCT aUJ;refine dR ?_
 simp only[bXN]
 cases h:aEA a b
 ·refine eY (fun _=>((0:Int),false,([]:List Int))) 0 rfl fun I μ k hk _ go=>?_
  dsimp only
  simp only[reduceCtorEq,false_implies,true_implies,forall_const,and_true,true_and,implies_true,dzx]
  (repeat' first|intro _|(refine go _ ?_ ?_ ?_)|(refine go _ ?_ ?_)|(with_reducible apply And.intro))
  all_goals first|omega|exact bCL h
 ·have hl:=vU h
  rw[aWS h]
  refine eY (fun k=>((k:Int),an k (fun i=>(pJ (a.getD i 0) (b.getD i 0)).2),mp k fun i=>(pJ (a.getD i 0) (b.getD i 0)).1)) a.length rfl fun I μ k hk _ go=>?_
  dsimp only
  simp only[reduceCtorEq,false_implies,true_implies,forall_const,and_true,true_and,implies_true,dzx,kF]
  (repeat' first|intro _|(refine go _ ?_ ?_ ?_)|(refine go _ ?_ ?_)|(with_reducible apply And.intro))
  all_goals first|omega|(unfold maxLen;omega)|(rw[qT,yK];first|exact Prod.ext rfl (Prod.ext (rV (by assumption)) rfl)|exact Prod.ext rfl (Prod.ext (yT (by assumption)) rfl))|(have e:k=a.length:=(by omega);subst e;rfl)
def aFD:Con:=⟨351,aM,aE2,[.val ⟨false,tI,[]⟩,.val ⟨false,aA,[]⟩],[⟨false,aA,[2]⟩,⟨false,.bool,[0]⟩],false,none,
 ((fun _=>True):(cP)->Prop),
 ((fun x=>aH5 x.1 x.2):(cP)->(bX×Bool))⟩
def aW0:T:=aAC dG (oH dG (aBO aX bA)) 3 tI (iA 0) <| cX uO 2 3 (nC (iA 0) <| aAG 4 (wI (kV 0) <| aAG 5 (jZ 3 (iA 0) uO <| jK 2 (kV 0) cQ <| gD 3 tI (eL 7) <| lS 3 8 aA aA (lK 2 1) 8 <| xY aA 1 1 (lI uO 0 dG cI bD 9) <| lI uO 0 dG cI (gK tI 1 7) 9) <| qX aA (lK 2 1) aA 1 1) <| qX aA (lK 2 1) aA 1 1) <| qX aA (lK 2 1) aA 1 1
theorem aW3:Con.Holds Tryz.prog aFD:=tk ⟨[(2989,1001,[.dr 11,.tm 8 0,.tm 7 0,.on 6,.sl 1])],[]⟩ aW0 (aC nN (aC aQQ (aC aTF aH))) fun(x:cP) hx hp=>by
 dsimp only [aFD] at hx hp⊢
 obtain⟨c,a⟩:=x
 delta aW0 lQ aG4 aGT;refine dR ?_
 cases h:tQ a
 ·refine eY (fun _=>((0:Int),false,([]:List Int))) 0 rfl fun I μ k hk _ go=>?_
  dsimp only
  simp only[reduceCtorEq,false_implies,true_implies,forall_const,and_true,true_and,implies_true,dzx]
  (repeat' first|intro _|(refine go _ ?_ ?_ ?_)|(refine go _ ?_ ?_)|(with_reducible apply And.intro))
  all_goals first|omega|(unfold aH5;rw[if_neg (by rw[h];simp)])
 cases h2:nO c
 ·refine eY (fun _=>((0:Int),false,([]:List Int))) 0 rfl fun I μ k hk _ go=>?_
  dsimp only
  simp only[reduceCtorEq,false_implies,true_implies,forall_const,and_true,true_and,implies_true,dzx]
  (repeat' first|intro _|(refine go _ ?_ ?_ ?_)|(refine go _ ?_ ?_)|(with_reducible apply And.intro))
  all_goals first|omega|(unfold aH5;rw[if_neg (by rw[h2];simp)])
 ·have hl:=(dH a).1 h
  rw[show aH5 c a=_ from if_pos ⟨h2,h⟩]
  refine eY (fun k=>((k:Int),an k (fun i=>(oI c (a.getD i 0)).2),mp k fun i=>(oI c (a.getD i 0)).1)) a.length rfl fun I μ k hk _ go=>?_
  dsimp only
  simp only[reduceCtorEq,false_implies,true_implies,forall_const,and_true,true_and,implies_true,dzx,kF]
  (repeat' first|intro _|(refine go _ ?_ ?_ ?_)|(refine go _ ?_ ?_)|(with_reducible apply And.intro))
  all_goals first|omega|(unfold maxLen;omega)|(rw[qT,yK];first|exact Prod.ext rfl (Prod.ext (rV (by assumption)) rfl)|exact Prod.ext rfl (Prod.ext (yT (by assumption)) rfl))|(have e:k=a.length:=(by omega);subst e;rfl)
def aCZ:Con:=⟨310,aL,aB4,[.val ⟨false,aA,[]⟩,.val ⟨false,aA,[]⟩],[⟨false,tI,[0]⟩,⟨false,.bool,[0]⟩],false,none,
 ((fun _=>True):(bT)->Prop),
 ((fun x=>oE x.1 x.2):(bT)->(Int×Bool))⟩
def bF3:T:=aAC (xM tI) (oH (xM tI) (aBO aX aN)) 3 tI oZ <| cX (lH tI 1) 2 3 (hZ <| aAG 4 (aER 3 aA 0 (lH tI 1) <| jZ 3 pI (lH tI 1) <| jK 1 fF cQ <| jK 2 (kN tI 2 1) (eL 7) <| xY tI 1 1 (gF (lH tI 1) 0 (xM tI) [cU,bD,aAI]) <| nF tI 1 7 (gF (lH tI 1) 0 (xM tI) [cU,bD,aAI]) <| gF (lH tI 1) 0 (xM tI) [cU,gK tI 1 8,aAI]) <| qX tI (kN tI 2 1) tI 1 1) <| qX tI (kN tI 2 1) tI 1 1
theorem aLO:Con.Holds Tryz.prog aCZ:=tk ⟨[(2989,1001,[.tm 8 0,.tm 7 0,.tm 6 0])],[]⟩ bF3 (aC aKT (aC aTF (aC aHB aH))) fun(x:bT) hx hp=>by
 dsimp only [aCZ] at hx hp⊢
 obtain⟨a,b⟩:=x
 delta bF3 aCT aGT aA0;refine dR ?_
 simp only[bXN]
 cases h:aEA a b
 ·refine eY (fun _=>((0:Int),false,(0:Int))) 0 rfl fun I μ k hk _ go=>?_
  dsimp only
  simp only[reduceCtorEq,false_implies,true_implies,forall_const,and_true,true_and,implies_true,dzx]
  (repeat' first|intro _|(refine go _ ?_ ?_ ?_)|(refine go _ ?_ ?_)|(with_reducible apply And.intro))
  all_goals first|omega|(unfold oE;rw[if_neg (by rw[h];exact Bool.false_ne_true)])
 ·have hl:=vU h
  rw[show oE a b=_ from if_pos h]
  refine eY (fun k=>((k:Int),(aW6 a b k).2,(aW6 a b k).1)) a.length rfl fun I μ k hk _ go=>?_
  dsimp only
  simp only[reduceCtorEq,false_implies,true_implies,forall_const,and_true,true_and,implies_true,dzx]
  (repeat' first|intro _|(refine go _ ?_ ?_ ?_)|(refine go _ ?_ ?_)|(with_reducible apply And.intro))
  all_goals first|omega|(rw[bKO];first|exact Prod.ext rfl (Prod.ext (cJD (by assumption)) rfl)|exact Prod.ext rfl (Prod.ext (cJF (by assumption) (by assumption)) rfl)|exact Prod.ext rfl (Prod.ext (cIT (by assumption) (by assumption)) rfl))|(have e:k=a.length:=(by omega);subst e;rfl)
def aNY:Con:=⟨350,aA,aA,[.val ⟨false,aA,[]⟩],[⟨false,aA,[2]⟩],false,none,
 ((fun _=>True):(List Int)->Prop),
 ((fun x=>aDR x):(List Int)->(List Int))⟩
def bBC:T:=gW aM aA bA 3 tI bJ <| oJ aA 1 2 3 (hZ <| jL 4 (jZ 3 bJ (kV 1) <| cD 1 5 <| kO 3 tI 6 <| lS 3 8 aA aA (iA 1) 7 <| eJ aA 1 0 aA cU cM) (iA 1)) (iA 1)
theorem bP6:Con.Holds Tryz.prog aNY:=tk ⟨[(2991,1001,[.dr 5,.tm 4 0,.on 3,.sl 1])],[]⟩ bBC (aC nN (aC cD9 aH)) fun(x:List Int) hx hp=>by
 dsimp only [aNY] at hx hp⊢
 obtain⟨a,rfl⟩:∃a,a=x:=⟨_,rfl⟩
 delta bBC lQ bCV;refine dR ?_
 cases h:tQ a
 ·refine eY (fun _=>((0:Int),([]:List Int))) 0 rfl fun I μ k hk _ go=>?_
  dsimp only
  simp only[reduceCtorEq,false_implies,true_implies,forall_const,and_true,true_and,implies_true,dzx]
  (repeat' first|intro _|(refine go _ ?_ ?_ ?_)|(refine go _ ?_ ?_)|(with_reducible apply And.intro))
  all_goals first|omega|(unfold aDR;rw[if_neg (by rw[h];exact Bool.false_ne_true)])
 ·have hl:=(dH a).1 h
  rw[show aDR a=_ from if_pos h]
  refine eY (fun k=>((k:Int),mp k fun i=>bFC (a.getD i 0))) a.length rfl fun I μ k hk _ go=>?_
  dsimp only
  simp only[reduceCtorEq,false_implies,true_implies,forall_const,and_true,true_and,implies_true,dzx,kF]
  (repeat' first|intro _|(refine go _ ?_ ?_ ?_)|(refine go _ ?_ ?_)|(with_reducible apply And.intro))
  all_goals first|omega|(unfold maxLen;omega)|(rw[qT];rfl)|(have e:k=a.length:=(by omega);subst e;rfl)
def aNM:Con:=⟨352,aL,aA,[.val ⟨false,aA,[]⟩,.val ⟨false,aA,[]⟩],[⟨false,aA,[2]⟩],false,none,
 ((fun _=>True):(bT)->Prop),
 ((fun x=>aDN x.1 x.2):(bT)->(List Int))⟩
def bBJ:T:=gW aM aA bA 3 tI oZ <| oJ aA 1 2 3 (hZ <| jL 4 (aER 3 aA 0 (kV 1) <| vH .gtr fF aN 6 (jZ 3 pI (kV 1) <| kO 3 tI 7 <| lS 3 8 aA aA (iA 1) 8 <| eJ aA 1 0 aA cI cU) <| gD 3 tI aN <| lS 3 8 aA aA (iA 1) 7 <| eJ aA 1 0 aA cU cM) (iA 1)) (iA 1)
theorem bOS:Con.Holds Tryz.prog aNM:=tk ⟨[(2991,1001,[.dr 7,.tm 6 0,.on 5,.sl 1])],[]⟩ bBJ (aC aKT aH) fun(x:bT) hx hp=>by
 dsimp only [aNM] at hx hp⊢
 obtain⟨a,b⟩:=x
 delta bBJ aCT;refine dR ?_
 simp only[bXN]
 cases h:aEA a b
 ·refine eY (fun _=>((0:Int),([]:List Int))) 0 rfl fun I μ k hk _ go=>?_
  dsimp only
  simp only[reduceCtorEq,false_implies,true_implies,forall_const,and_true,true_and,implies_true,dzx]
  (repeat' first|intro _|(refine go _ ?_ ?_ ?_)|(refine go _ ?_ ?_)|(with_reducible apply And.intro))
  all_goals first|omega|(unfold aDN;rw[if_neg (by rw[h];exact Bool.false_ne_true)])
 ·have hl:=vU h
  rw[show aDN a b=_ from if_pos h]
  refine eY (fun k=>((k:Int),mp k fun i=>if 0<a.getD i 0 then b.getD i 0 else 0)) a.length rfl fun I μ k hk _ go=>?_
  dsimp only
  simp only[reduceCtorEq,false_implies,true_implies,forall_const,and_true,true_and,implies_true,dzx,kF]
  have e1:0<a.getD k 0->b.getD k 0=if 0<a.getD k 0 then b.getD k 0 else 0:=fun h=>(if_pos h).symm
  have e2:a.getD k 0<=0->0=if 0<a.getD k 0 then b.getD k 0 else 0:=fun h=>(if_neg (by omega)).symm
  (repeat' first|intro _|(refine go _ ?_ ?_ ?_)|(refine go _ ?_ ?_)|(with_reducible apply And.intro))
  all_goals first|omega|(unfold maxLen;omega)|(rw[qT];first|exact Prod.ext rfl (congrArg (mp k _++[·]) (e1 (by assumption)))|exact Prod.ext rfl (congrArg (mp k _++[·]) (e2 (by assumption))))|(have e:k=a.length:=(by omega);subst e;rfl)
end
end Go.Proofs.YtfmfeplebgbpmaaGreat
