/- Pipe4: lemmas. No conditions. -/
import Derived.Test.YtfmfeplebgbpmaaGreatLin2
namespace Go.Proofs.YtfmfeplebgbpmaaGreat
open Go.ChangeShapes Go.WideShapes Go.ChangeAt Go.RowKit Go.Deep
set_option linter.unusedVariables false
set_option linter.unusedSimpArgs false
noncomputable section
set_option maxRecDepth 100000
abbrev aNL:=Int×(Int×List Int)
def aRM (m:aNL):Bool:=decide (1<=m.1/\m.1<=6/\1<=m.2.1/\m.2.1<=6/\(m.2.2.length:Int)=m.1 * m.2.1)&&m.2.2.all nO
theorem xL (m:aNL):aRM m=true↔(1<=m.1/\m.1<=6/\1<=m.2.1/\m.2.1<=6/\(m.2.2.length:Int)=m.1 * m.2.1)/\m.2.2.all nO=true:=by unfold aRM;simp only[Bool.and_eq_true,decide_eq_true_eq]
def aRR (m:aNL) (i:Nat):List Int:=(m.2.2.take ((i+1) * m.2.1.toNat)).drop (i * m.2.1.toNat)
def aI1 (m:aNL) (k:Nat):List Int:=mp m.1.toNat fun i=>m.2.2.getD (i * m.2.1.toNat+k) 0
def vK (m:aNL) (x:List Int):List Int×Bool:=if aRM m=true/\dX x m.2.1=true then(mp m.1.toNat fun r=>(oE (aRR m r) x).1,an m.1.toNat fun r=>(oE (aRR m r) x).2) else([],false)
def qU (m:aNL) (d:List Int):List Int×Bool:=if aRM m=true/\dX d m.1=true then(mp m.2.1.toNat fun k=>(oE (aI1 m k) d).1,an m.2.1.toNat fun k=>(oE (aI1 m k) d).2) else([],false)
def cM1:aNL:=(0,0,[])
def aC3 (f:Nat->List Int):Nat->List Int
 | 0=>[]
 | n+1=>aC3 f n++f n
def aGY (m:aNL):aNL:=if aRM m=true then(m.2.1,m.1,aC3 (aI1 m) m.2.1.toNat) else cM1
def aGG (d x:List Int) (i:Nat):List Int:=mp x.length fun j=>(oI (d.getD i 0) (x.getD j 0)).1
def bDW (d x:List Int) (i:Nat):Bool:=an x.length fun j=>(oI (d.getD i 0) (x.getD j 0)).2
def aF9 (d x:List Int):aNL×Bool:=if tQ d=true/\tQ x=true then(((d.length:Int),(x.length:Int),aC3 (aGG d x) d.length),an d.length (bDW d x)) else(cM1,false)
def aI6 (o:fP):aNL:=(o.2.2.1,o.2.1,o.2.2.2)
def aAX (o:fP) (x:List Int):List Int×Bool:=if ¬(opB o=true/\dX x o.2.1=true) then([],false) else
 if o.1=1 then vK (aI6 o) x else if o.1=2 then wT kH x o.2.2.2 else if o.1=4 then aH5 (o.2.2.2.getD 0 0) x else
 if o.1=5 then((wT kH x (vK (aI6 o) x).1).1,(vK (aI6 o) x).2||(wT kH x (vK (aI6 o) x).1).2) else(aDR x,false)
def rG (o:fP) (x d:List Int):List Int×(List Int×Bool):=if ¬(opB o=true/\dX x o.2.1=true/\dX d o.2.2.1=true) then([],[],false) else
 if o.1=1 then((qU (aI6 o) d).1,(aF9 d x).1.2.2,(qU (aI6 o) d).2||(aF9 d x).2) else
 if o.1=2 then(d,d,false) else
 if o.1=4 then((aH5 (o.2.2.2.getD 0 0) d).1,[(oE d x).1],(aH5 (o.2.2.2.getD 0 0) d).2||(oE d x).2) else
 if o.1=5 then((wT kH d (qU (aI6 o) d).1).1,(aF9 d x).1.2.2,(qU (aI6 o) d).2||(wT kH d (qU (aI6 o) d).1).2||(aF9 d x).2) else
 (aDN x d,[],false)
theorem yB {m:aNL} (h:aRM m=true):∃(R C:Nat) (data:List Int),m=((R:Int),(C:Int),data)/\1<=R/\R<=6/\1<=C/\C<=6/\data.length=R * C/\R * C<=36/\data.all nO=true:=by
 obtain⟨a,b,data⟩:=m
 obtain⟨⟨h1,h2,h3,h4,h5⟩,h6⟩:=(xL _).1 h
 dsimp only at h1 h2 h3 h4 h5 h6
 refine⟨a.toNat,b.toNat,data,?_,by omega,by omega,by omega,by omega,?_,Nat.le_trans (Nat.mul_le_mul (show a.toNat<=6 by omega) (show b.toNat<=6 by omega)) (by decide),h6⟩
 ·rw[Int.toNat_of_nonneg (by omega),Int.toNat_of_nonneg (by omega)]
 ·have:((a.toNat * b.toNat:Nat):Int)=a * b:=by rw[Int.natCast_mul,Int.toNat_of_nonneg (by omega),Int.toNat_of_nonneg (by omega)]
  omega
theorem aXS {R C k:Nat} (h:k<R):k * C+C<=R * C:=by
 have:=Nat.mul_le_mul_right C (show k+1<=R from h)
 rwa [Nat.succ_mul] at this
theorem bG6 (R C k p:Nat) (data:List Int) (e:p=k * C):aRR ((R:Int),(C:Int),data) k=(data.take (p+C)).drop p:=by
 unfold aRR;simp only[Int.toNat_natCast,Nat.succ_mul,<-e]
theorem aE5 {f:Nat->List Int} {L:Nat} (h:∀i,(f i).length=L):(n:Nat)->(aC3 f n).length=n * L
 | 0=>by simp[aC3]
 | n+1=>by rw[aC3,List.length_append,aE5 h n,h,Nat.succ_mul]
theorem bF2 {f:Nat->List Int} {L:Nat} (h:∀i,(f i).length=L) {k:Nat}:(n:Nat)->k<n->((aC3 f n).take (k * L+L)).drop (k * L)=f k
 | 0,hk=>by omega
 | n+1,hk=>by
  have hl:=aE5 h n
  rcases Nat.lt_or_eq_of_le (Nat.le_of_lt_succ hk) with h'|rfl
  ·have h1:=aXS (C:=L) h'
   rw[aC3,List.take_append_of_le_length (by omega)]
   exact bF2 h n h'
  ·rw[aC3,List.take_of_length_le (by rw[List.length_append,hl,h];exact Nat.le_refl _),List.drop_append_of_le_length (by omega),List.drop_of_length_le (by omega),List.nil_append]
theorem bIR (m:aNL) (k:Nat):(aI1 m k).length=m.1.toNat:=kF _ _
theorem bS4 {f:Nat->List Int} {x:Int}:(n:Nat)->x∈aC3 f n->∃k,k<n/\x∈f k
 | 0,h=>by simp[aC3] at h
 | n+1,h=>by
  rw[aC3,List.mem_append] at h
  rcases h with h|h
  ·obtain⟨k,h1,h2⟩:=bS4 n h;exact⟨k,by omega,h2⟩
  ·exact⟨n,by omega,h⟩
theorem bZV {m:aNL} (h:aRM m=true):aRM (aGY m)=true/\∀k,k<m.2.1.toNat->aRR (aGY m) k=aI1 m k:=by
 obtain⟨R,C,data,rfl,h1,h2,h3,h4,h5,h6,h7⟩:=yB h
 have e:aGY ((R:Int),(C:Int),data)=((C:Int),(R:Int),aC3 (aI1 ((R:Int),(C:Int),data)) C):=if_pos h
 have hl:∀i,(aI1 ((R:Int),(C:Int),data) i).length=R:=fun i=>bIR _ _
 constructor
 ·rw[e,xL]
  refine⟨⟨?_,?_,?_,?_,?_⟩,?_⟩
  ·dsimp only;omega
  ·dsimp only;omega
  ·dsimp only;omega
  ·dsimp only;omega
  ·dsimp only;rw[aE5 hl,Int.natCast_mul]
  ·rw[List.all_eq_true]
   intro x hx
   obtain⟨k,hk,hx⟩:=bS4 _ hx
   unfold aI1 mp at hx
   rw[List.mem_map] at hx
   obtain⟨i,hi,rfl⟩:=hx
   rw[List.mem_range] at hi
   dsimp only [Int.toNat_natCast] at hi⊢
   have hb:=aXS (C:=C) hi
   rw[aP (show i * C+k<data.length by omega)]
   exact(List.all_eq_true.1 h7) _ (List.getElem_mem _)
 ·intro k hk
  rw[e,bG6 C R k (k * R) _ rfl]
  exact bF2 hl C hk
theorem cGQ {m:aNL} {d:List Int} (h:aRM m=true) (h2:dX d m.1=true):vK (aGY m) d=qU m d:=by
 obtain⟨t1,t2⟩:=bZV h
 have e1:(aGY m).2.1=m.1:=by unfold aGY;rw[if_pos h]
 have e2:(aGY m).1=m.2.1:=by unfold aGY;rw[if_pos h]
 unfold vK qU
 rw[if_pos ⟨t1,by rw[e1];exact h2⟩,if_pos ⟨h,h2⟩,e2]
 exact Prod.ext (cGP fun i hi=>by rw[t2 i hi]) (cG7 fun i hi=>by rw[t2 i hi])
theorem bCD {o:fP} (h:opB o=true) (h4:o.1=4):o.2.2.2.length=1:=by
 have:=((lO o).1 h).1
 have e:=bGM (o:=o) (by omega)
 omega
def aKH:Con:=⟨381,tP,.bool,[.val ⟨true,tP,[]⟩],[⟨false,.bool,[0]⟩],false,none,
 ((fun _=>True):(Int×cP)->Prop),
 ((fun x=>aRM x):(Int×cP)->(Bool))⟩
def bJH:T:=qY (cB aM 0) bF 1 aX <| lN (cB aM 0) uJ 2 aX <| qY (cL aM 1 0) bF 3 aX <| lN (cL aM 1 0) uJ 4 aX <| cK (fY aM 2 0) <| fR pY (cB aM 0) (cL aM 1 0) <| rX .eql fF cQ 7 (nC (fY aM 2 0) <| cF 8) aX
theorem aY2:Con.Holds Tryz.prog aKH:=tk ⟨[],[]⟩ bJH (aC aUK aH) fun(x:Int×cP) hx hp=>by
 dsimp only [aKH] at hx hp⊢
 delta bJH aGV;refine dR ?_
 (refine dQ ?_;try with_reducible exact True.intro)
 (repeat' first|intro _|(with_reducible apply And.intro))
 all_goals first|(first|(refine(Bool.eq_false_iff.2 ?_).symm;rw[ne_eq,xL];intro hh;omega)|(refine(xL.2 ?_).symm;omega))|(have:=bEP (a:=x.1) (b:=x.2.1) (by omega) (by omega) (by omega) (by omega);omega)|(rw[Bool.eq_iff_iff,xL];exact⟨fun h=>⟨⟨by omega,by omega,by omega,by omega,by assumption⟩,h⟩,fun h=>h.2⟩)
def aM7:Con:=⟨365,(.cMV tP aA),aE2,[.val ⟨true,tP,[]⟩,.val ⟨false,aA,[]⟩],[⟨false,aA,[2]⟩,⟨false,.bool,[0]⟩],false,none,
 ((fun _=>True):((Int×cP)×bX)->Prop),
 ((fun x=>vK x.1 x.2):((Int×cP)×bX)->(bX×Bool))⟩
def bFB:T:=gH 0 (bS bL aA) 1 2 (nA aA bA) <| dF 1 aA (tO bL) (eV bL 1 bL aA) <| dL 3 4 (nA aA bA) <| oQ dG dG aX bA <| aEY tI tI (iF 5) (dT tI aM bL aA) 6 (fR pY (iF 5) (eV bL 1 bL aA) <| jW (iF 5) <| fR pY cM (eV bL 1 bL aA) <| aTD 3 tI aA (iP bL 2 bL aA) cY 9 <| fN 2 cI (tO bL) <| gD 3 tI (eL 11) <| lS 3 8 aA aA (lK 2 5) 12 <| xY aA 1 5 (lI (iF 5) 0 dG dK bD 13) <| lI (iF 5) 0 dG dK (gK tI 1 11) 13) <| qX aA (lK 2 5) aA 1 5
theorem bDC:Con.Holds Tryz.prog aM7:=tk ⟨[(2984,4005,iZ 21 11++[.dr 0,.tm 8 0,.tm 7 0,.on 6,.sl 2])],[]⟩ bFB (aC aY2 (aC vQ (aC aTU aH))) fun(x:(Int×cP)×bX) hx hp=>by
 dsimp only [aM7] at hx hp⊢
 obtain⟨m,v⟩:=x
 delta bFB aKH sH aGD;refine dR ?_
 simp only[Bool.not_eq_true',Bool.not_eq_false']
 refine⟨fun h=>?_,fun h1=>⟨fun h=>?_,fun h2=>?_⟩⟩
 ·unfold vK;rw[if_neg (by rw[h];simp)]
 ·unfold vK;rw[if_neg (by rw[h];simp)]
 rw[show vK m v=_ from if_pos ⟨h1,h2⟩]
 obtain⟨R,C,data,rfl,g1,g2,g3,g4,g5,g6,g7⟩:=yB h1
 refine eY (fun k=>((k:Int),an k (fun r=>(oE (aRR ((R:Int),(C:Int),data) r) v).2),mp k fun r=>(oE (aRR ((R:Int),(C:Int),data) r) v).1)) R rfl fun I μ k hk _ go=>?_
 dsimp only
 obtain⟨p,e0⟩:∃p,p=k * C:=⟨_,rfl⟩
 have e1:(k:Int) * (C:Int)=(p:Int):=by rw[e0];exact(Int.natCast_mul k C).symm
 have e2:((k:Int)+1) * (C:Int)=((p+C:Nat):Int):=by rw[Int.add_mul,e1,Int.one_mul];rfl
 have e4:k<R->p+C<=data.length:=fun h=>by rw[e0,g5];exact aXS h
 simp only[e1,e2,dzx,kF,<-bG6 R C k p data e0]
 (repeat' first|intro _|(refine go _ ?_ ?_ ?_)|(refine go _ ?_ ?_)|(with_reducible apply And.intro))
 all_goals first|omega|(unfold maxLen;omega)|(rw[qT,yK];first|exact Prod.ext rfl (Prod.ext (rV (by assumption)) rfl)|exact Prod.ext rfl (Prod.ext (yT (by assumption)) rfl))|(have e:k=R:=(by omega);subst e;rfl)
def aIX:Con:=⟨383,tP,tP,[.val ⟨true,tP,[]⟩],[⟨true,tP,[0,0,2]⟩],false,none,
 ((fun _=>True):(Int×cP)->Prop),
 ((fun x=>aGY x):(Int×cP)->(Int×cP))⟩
def aRP:T:=hZ <| dL 1 2 (oH bL (aBO aN bA)) <| pX aM aA bA <| xA tI tI (kV 3) (cL aM 1 0) <| jL 4 (pX aM aA (iA 3) <| aEY tI tI (kV 5) (cB aM 0) 6 (fR pY (kV 5) (cL aM 1 0) <| fR jT cY (kV 3) <| cH 3 tI aA (fY aM 2 0) 8 <| kO 3 tI 9 <| lS 3 8 aA aA (iA 5) 10 <| eJ aA 5 0 aA fE cO) <| eJ aA 3 1 aA cY (iA 5)) (oH bL [cL aM 1 0,cB aM 0,iA 3])
theorem bI5:Con.Holds Tryz.prog aIX:=tk ⟨[(2986,2003,iZ 14 10++iZ 8 6++[.dr 0,.tm 4 0,.sl 6]),(2975,6005,[.tm 5 0,.sl 6])],[]⟩ aRP (aC aY2 aH) fun(x:Int×cP) hx hp=>by
 dsimp only [aIX] at hx hp⊢
 obtain⟨m,rfl⟩:∃m,m=x:=⟨_,rfl⟩
 delta aRP aKH;refine dR ?_
 simp only[Bool.not_eq_true',Bool.not_eq_false']
 refine⟨fun h=>?_,fun h1=>?_⟩
 ·unfold aGY;rw[if_neg (by rw[h];exact Bool.false_ne_true)];rfl
 rw[show aGY m=_ from if_pos h1]
 obtain⟨R,C,data,rfl,g1,g2,g3,g4,g5,g6,g7⟩:=yB h1
 refine eY (fun c=>((c:Int),aC3 (aI1 ((R:Int),(C:Int),data)) c)) C rfl fun I μ c hc _ go=>?_
 dsimp only
 refine dQ ?_
 have hl:(aC3 (aI1 ((R:Int),(C:Int),data)) c).length=c * R:=aE5 (fun i=>bIR _ _) c
 have hq:c * R<=36:=Nat.le_trans (Nat.mul_le_mul hc g2) (by omega)
 generalize hD:aC3 (aI1 ((R:Int),(C:Int),data)) c=D at *
 constructor
 ·intro hlt
  refine eY (fun r=>((r:Int),D++mp r fun i=>data.getD (i * C+c) 0)) R (by simp[bMP]) fun I2 μ2 k hk _ go2=>?_
  dsimp only
  obtain⟨p,e0⟩:∃p,p=k * C:=⟨_,rfl⟩
  have e1:(k:Int) * (C:Int)=(p:Int):=by rw[e0];exact(Int.natCast_mul k C).symm
  have e2:(p:Int)+(c:Int)=((p+c:Nat):Int):=rfl
  have e4:k<R->p+C<=data.length:=fun h=>by rw[e0,g5];exact aXS h
  simp only[e1,e2,dzx,kF]
  (repeat' first|intro _|(refine go2 _ ?_ ?_ ?_)|(refine go2 _ ?_ ?_)|(refine go _ ?_ ?_ ?_)|(refine go _ ?_ ?_)|(with_reducible apply And.intro))
  all_goals first|omega|(unfold maxLen;omega)|(rw[qT,<-List.append_assoc,<-e0];rfl)|(have e:k=R:=(by omega);subst e;rw[aC3,hD];rfl)
 ·intro hge
  have e:c=C:=by omega
  subst e
  rw[<-hD]
def aNG:Con:=⟨370,(.cMV tP aA),aE2,[.val ⟨true,tP,[]⟩,.val ⟨false,aA,[]⟩],[⟨false,aA,[2]⟩,⟨false,.bool,[0]⟩],false,none,
 ((fun _=>True):((Int×cP)×bX)->Prop),
 ((fun x=>qU x.1 x.2):((Int×cP)×bX)->(bX×Bool))⟩
def aZZ:T:=gH 0 (bS bL aA) 1 2 (nA aA bA) <| dF 1 aA (tO bL) (dT tI aM bL aA) <| dL 3 4 (nA aA bA) <| uS 2 bL aA <| mT 3 bL fF (tO bL) <| cF 6
theorem bOX:Con.Holds Tryz.prog aNG:=tk ⟨[],[]⟩ aZZ (aC aY2 (aC vQ (aC bI5 (aC bDC aH)))) fun(x:(Int×cP)×bX) hx hp=>by
 dsimp only [aNG] at hx hp⊢
 obtain⟨m,d⟩:=x
 delta aZZ aKH sH aIX aM7;refine dR ?_
 simp only[Bool.not_eq_true',Bool.not_eq_false']
 refine⟨fun h=>?_,fun h1=>⟨fun h=>?_,fun h2 _ _=>cGQ h1 h2⟩⟩
 ·unfold qU;rw[if_neg (by rw[h];simp)]
 ·unfold qU;rw[if_neg (by rw[h];simp)]
def aY9:Con:=⟨371,aL,(.cMV tP .bool),[.val ⟨false,aA,[]⟩,.val ⟨false,aA,[]⟩],[⟨true,tP,[0,0,2]⟩,⟨false,.bool,[0]⟩],false,none,
 ((fun _=>True):(bT)->Prop),
 ((fun x=>aF9 x.1 x.2):(bT)->((Int×cP)×Bool))⟩
def bLB:T:=gH 0 oZ 1 2 (bFL bL .bool bL (aBO aN bA) aX) <| gH 0 pI 3 4 (bFL bL .bool bL (aBO aN bA) aX) <| cK oZ <| cK pI <| cK oZ <| oQ dG dG aX bA <| cX (iF 8) 7 9 (aER 3 aA 0 (iF 8) <| cK pI <| pX dG (aOE aA) (lK 1 8) <| cX (iF 12) 11 13 (jZ 3 pI (iF 12) <| jK 1 cI dK <| gD 3 tI (eL 15) <| lS 3 8 aA aA (lK 2 12) 16 <| xY aA 1 12 (lI (iF 12) 0 dG nJ bD 17) <| lI (iF 12) 0 dG nJ (gK tI 1 15) 17) <| aCX (iF 8) 1 (aOE aA) dK (lK 1 12)) <| qX bL (oH bL [fF,cQ,lK 2 8]) aA 1 8
theorem bZF:Con.Holds Tryz.prog aY9:=tk ⟨[(2984,4008,iZ 27 23++iZ 21 14++[.dr 0,.tm 30 0,.tm 7 0,.sl 5]),(2971,12012,[.tm 36 0,.tm 7 0,.sl 5])],[]⟩ bLB (aC aCP (aC aU2 aH)) fun(x:bT) hx hp=>by
 dsimp only [aY9] at hx hp⊢
 obtain⟨d,v⟩:=x
 delta bLB yH aGZ;refine dR ?_
 simp only[Bool.not_eq_true',Bool.not_eq_false']
 refine⟨fun h=>?_,fun h1=>⟨fun h=>?_,fun h2 _ _ _=>?_⟩⟩
 ·unfold aF9;rw[if_neg (by rw[h];simp)];rfl
 ·unfold aF9;rw[if_neg (by rw[h];simp)];rfl
 rw[show aF9 d v=_ from if_pos ⟨h1,h2⟩]
 have hd:=(dH d).1 h1
 have hv:=(dH v).1 h2
 refine eY (fun i=>((i:Int),an i (bDW d v),aC3 (aGG d v) i)) d.length rfl fun I μ i hi _ go=>?_
 dsimp only
 refine dQ ?_
 have hl:(aC3 (aGG d v) i).length=i * v.length:=aE5 (fun i=>kF _ _) i
 have hq:i * v.length<=36:=Nat.le_trans (Nat.mul_le_mul hi (show v.length<=6 by omega)) (by omega)
 generalize hD:aC3 (aGG d v) i=D at *
 generalize hA:an i (bDW d v)=A at *
 constructor
 ·intro hlt
  refine⟨by omega,fun _ _=>?_⟩
  refine eY (fun j=>((j:Int),A||an j (fun j=>(oI (d.getD i 0) (v.getD j 0)).2),D++mp j fun j=>(oI (d.getD i 0) (v.getD j 0)).1)) v.length (by simp[bMP,bYK]) fun I2 μ2 j hj _ go2=>?_
  dsimp only
  simp only[dzx,kF]
  have ea:(A||an (j+1) (fun j=>(oI (d.getD i 0) (v.getD j 0)).2))=((A||an j (fun j=>(oI (d.getD i 0) (v.getD j 0)).2))||(oI (d.getD i 0) (v.getD j 0)).2):=by rw[yK,Bool.or_assoc]
  (repeat' first|intro _|(refine go2 _ ?_ ?_ ?_)|(refine go2 _ ?_ ?_)|(refine go _ ?_ ?_ ?_)|(refine go _ ?_ ?_)|(with_reducible apply And.intro))
  all_goals first|omega|(unfold maxLen;omega)|(rw[qT,<-List.append_assoc,ea];first|exact Prod.ext rfl (Prod.ext (rV (by assumption)) rfl)|exact Prod.ext rfl (Prod.ext (yT (by assumption)) rfl))|(have e:j=v.length:=(by omega);subst e;rw[aC3,hD,yK,hA];rfl)
 ·intro hge
  have e:i=d.length:=by omega
  subst e
  rw[<-hD,<-hA]
def aQK:Con:=⟨366,bK,tP,[.val ⟨true,bK,[]⟩],[⟨true,tP,[0,0,0]⟩],true,none,
 ((fun _=>True):(fP)->Prop),
 ((fun x=>aI6 x):(fP)->(Int×cP))⟩
def bIV:T:=iG bL aAL wV (fG bK 3)
theorem bLA:Con.Holds Tryz.prog aQK:=tk ⟨[],[]⟩ bIV aH fun(x:fP) hx hp=>by
 dsimp only [aQK] at hx hp⊢
 delta bIV;refine dR ?_;try with_reducible exact True.intro
 rfl
def aJC:Con:=⟨343,(.cMV bK aA),aE2,[.val ⟨true,bK,[]⟩,.val ⟨false,aA,[]⟩],[⟨false,aA,[2]⟩,⟨false,.bool,[0]⟩],false,none,
 ((fun _=>True):(fP×bX)->Prop),
 ((fun x=>aAX x.1 x.2):(fP×bX)->(bX×Bool))⟩
def aSA:T:=gH 0 (bS bK aA) 1 2 (nA aA bA) <| dF 1 aA aA6 (eV bK 1 bK aA) <| dL 3 4 (nA aA bA) <| nE (dT tI bL bK aA) bF 5 (uS 2 bK aA <| mT 3 bL cQ aA6 <| cF 7) <| iL (dT tI bL bK aA) 2 6 (fN 4 aA6 (iP bK 3 bK aA) <| cF 7) <| iL (dT tI bL bK aA) 4 7 (jZ 3 (iP bK 3 bK aA) aN <| mT 5 tI cM aA6 <| cF 9) <| iL (dT tI bL bK aA) 5 8 (uS 2 bK aA <| mT 3 bL cU aA6 <| fN 4 aA6 (jE 10) <| nF aA 1 10 (lW aA (jE 11) bD) <| cF 11) <| .call 6 aA6 <| lW aA cU aX
theorem bIG:Con.Holds Tryz.prog aJC:=tk ⟨[],[]⟩ aSA (aC bE7 (aC vQ (aC bLA (aC bDC (aC bGY (aC aWO (aC bP8 aH))))))) fun(x:fP×bX) hx hp=>by
 dsimp only [aJC] at hx hp⊢
 obtain⟨⟨kd,i,ou,P⟩,v⟩:=x
 delta aSA aPV sH aQK aM7 aLU aFL aPF;refine dR ?_
 simp only[Bool.not_eq_true',Bool.not_eq_false']
 refine⟨fun h=>?_,fun h1=>⟨fun h=>?_,fun h2=>?_⟩⟩
 ·unfold aAX;rw[if_pos (by rw[h];simp)]
 ·unfold aAX;rw[if_pos (by rw[h];simp)]
 have h4:=bCD h1
 have hk:=((lO _).1 h1).1
 dsimp only at h4 hk
 (refine dQ ?_;try with_reducible exact True.intro)
 (repeat' first|intro _|(with_reducible apply And.intro))
 all_goals first|omega|(obtain rfl:kd=3:=(by omega);simp[aAX,h1,h2];done)|(simp_all[aAX];done)
def aHG:Con:=⟨346,(.cMV bK aL),(.cMV aA aE2),[.val ⟨true,bK,[]⟩,.val ⟨false,aA,[]⟩,.val ⟨false,aA,[]⟩],[⟨false,aA,[2]⟩,⟨false,aA,[2]⟩,⟨false,.bool,[0]⟩],false,none,
 ((fun _=>True):(fP×bT)->Prop),
 ((fun x=>rG x.1 x.2.1 x.2.2):(fP×bT)->(bX×(bX×Bool)))⟩
def aP6:T:=gH 0 (bS bK aL) 1 2 (oH mV [bA,bA,aX]) <| dF 1 aA (eI bK aL 1) (eV bK 1 bK aL) <| dL 3 4 (oH mV [bA,bA,aX]) <| dF 1 aA (fA bK aL 2) (eV bK 2 bK aL) <| dL 5 6 (oH mV [bA,bA,aX]) <| nE (dT tI bL bK aL) bF 7 (uS 2 bK aL <| mT 3 bL cM (fA bK aL 2) <| fN 4 (fA bK aL 2) (eI bK aL 1) <| nF aA 1 9 (iG mV (jE 9) (prA bL 2 (mM bL 10)) bD) <| iG mV (jE 9) (prA bL 2 (mM bL 10)) (gK bL 1 10)) <| iL (dT tI bL bK aL) 2 8 (eK 5 (fA bK aL 2) 5 (fA bK aL 2) <| iG mV cU cI aX) <| iL (dT tI bL bK aL) 4 9 (jZ 3 (iP bK 3 bK aL) aN <| mT 6 tI cI (fA bK aL 2) <| fN 7 (fA bK aL 2) (eI bK aL 1) <| gD 3 tI (eL 12) <| nF aA 1 11 (iG mV (jE 11) eM bD) <| iG mV (jE 11) eM (gK tI 1 12)) <| iL (dT tI bL bK aL) 5 10 (uS 2 bK aL <| mT 3 bL cO (fA bK aL 2) <| fN 8 (fA bK aL 2) (jE 12) <| fN 4 (fA bK aL 2) (eI bK aL 1) <| nF aA 1 12 (iG mV (jE 13) (prA bL 2 (mM bL 14)) bD) <| nF aA 1 13 (iG mV (jE 13) (prA bL 2 (mM bL 14)) bD) <| iG mV (jE 13) (prA bL 2 (mM bL 14)) (gK bL 1 14)) <| .call 9 (kE bK aL) <| iG mV cO bA aX
theorem bDR:Con.Holds Tryz.prog aHG:=tk ⟨[],[]⟩ aP6 (aC bE7 (aC vQ (aC bLA (aC bOX (aC bZF (aC qQ (aC aWO (aC aTU (aC bGY (aC bOP aH)))))))))) fun(x:fP×bT) hx hp=>by
 dsimp only [aHG] at hx hp⊢
 obtain⟨⟨kd,i,ou,P⟩,v,d⟩:=x
 delta aP6 aPV sH aQK aNG aY9 nK aFL aGD aLU aNK;refine dR ?_
 simp only[Bool.not_eq_true',Bool.not_eq_false']
 refine⟨fun h=>?_,fun h1=>⟨fun h=>?_,fun h2=>⟨fun h=>?_,fun h3=>?_⟩⟩⟩
 ·unfold rG;rw[if_pos (by rw[h];simp)]
 ·unfold rG;rw[if_pos (by rw[h];simp)]
 ·unfold rG;rw[if_pos (by rw[h];simp)]
 have h4:=bCD h1
 have hk:=((lO _).1 h1).1
 have hd:=(dH _).1 ((cS _ _).1 h3).1
 dsimp only at h4 hk
 (refine dQ ?_;try with_reducible exact True.intro)
 (repeat' first|intro _|(with_reducible apply And.intro))
 all_goals first|omega|(obtain rfl:kd=3:=(by omega);simp[rG,h1,h2,h3];done)|(simp_all[rG];done)
def aQJ:Con:=⟨373,tP,.bool,[.val ⟨true,tP,[]⟩],[⟨false,.bool,[0]⟩],false,none,
 ((fun _=>True):(Int×cP)->Prop),
 ((fun x=>aRM x):(Int×cP)->(Bool))⟩
def bJZ:T:=mI 0 iK (cB aM 0) bF 6 <| dU 1 2 <| mI 0 iK (cL aM 1 0) bF 6 <| dU 3 4 <| cK (fY aM 2 0) <| fR pY (cB aM 0) (cL aM 1 0) <| dW fF cQ 7 <| jY 3 tI (fY aM 2 0) <| gB cM 9 10 (cH 3 tI aA (fY aM 2 0) 8 <| cD 1 11 <| tL 12 13 cM 0 dK) bD
theorem bLD:Con.Holds Tryz.prog aQJ:=tk ⟨[(2988,8008,iZ 24 4++[.dr 0,.tm 3 0])],[]⟩ bJZ (aC lV (aC aQQ aH)) fun(x:Int×cP) hx hp=>by
 dsimp only [aQJ] at hx hp⊢
 have hm:List.length x.2.2<=9223372036854775807:=hx.2.2.1
 delta bJZ kI aG4;refine dR ?_
 simp only[dzx,aEU,aEG]
 (repeat' first|intro _|(with_reducible apply And.intro))
 all_goals first|(first|(refine(Bool.eq_false_iff.2 ?_).symm;rw[ne_eq,xL];intro hh;omega)|(refine(xL.2 ?_).symm;omega))|(have:=bEP (a:=x.1) (b:=x.2.1) (by omega) (by omega) (by omega) (by omega);omega)|(refine(Bool.eq_false_iff.2 fun h=>?_).symm;rw[xL] at h;exact absurd h.1.2.2.2.2 (by assumption))|skip
 refine aC6 (fun k=>(k:Int)) (fun k=>(List.take k x.2.2).all nO=true) x.2.2.length rfl rfl fun I μ k hk hG _ go=>?_
 try dsimp only
 refine dQ ?_
 have e:∀h:k<x.2.2.length,(List.take (k+1) x.2.2).all nO=nO (x.2.2.getD k 0):=fun h=>by rw[xC nO x.2.2 h,hG,Bool.true_and,aP h]
 (repeat' first|intro _|(refine go _ ?_ ?_ ?_)|(refine go _ ?_ ?_)|(with_reducible apply And.intro))
 all_goals first|omega|(refine(Bool.eq_false_iff.2 fun hh=>?_).symm;have h1:=List.all_eq_true.1 ((xL x).1 hh).2 _ (List.getElem_mem (show k<x.2.2.length by omega));rw[<-aP (d:=0)] at h1;exact Bool.noConfusion (h1.symm.trans (by assumption:_=false)))|(exact(e (by omega)).trans (by assumption))|rfl|skip
 refine((xL x).2 ⟨⟨by omega,by omega,by omega,by omega,by omega⟩,?_⟩).symm
 rwa [List.take_of_length_le (by omega)] at hG
def aXC:Con:=⟨374,(.cMV tP tI),aA,[.val ⟨true,tP,[]⟩,.val ⟨false,tI,[]⟩],[⟨false,aA,[0]⟩],true,none,
 ((fun x=>aRM x.1=true/\0<=x.2/\x.2<x.1.1):((Int×cP)×Int)->Prop),
 ((fun x=>aRR x.1 x.2.toNat):((Int×cP)×Int)->(List Int))⟩
def bKD:T:=fR pY (iX bL) (gS bL 1 bL 0) <| jW (iX bL) <| fR pY bM (gS bL 1 bL 0) <| aTD 3 tI aA (xQ bL 2 bL) aZ 3 aD7
theorem cAO:Con.Holds Tryz.prog aXC:=tk ⟨[],[]⟩ bKD aH fun(x:(Int×cP)×Int) hx hp=>by
 dsimp only [aXC] at hx hp⊢
 obtain⟨m,k⟩:=x
 obtain⟨h1,h2,h3⟩:aRM m=true/\0<=k/\k<m.1:=hp
 obtain⟨R,C,data,rfl,g1,g2,g3,g4,g5,g6,g7⟩:=yB h1
 obtain⟨k,rfl⟩:=Int.eq_ofNat_of_zero_le h2
 have h3:k<R:=by dsimp only at h3;omega
 delta bKD;refine dR ?_
 obtain⟨p,e0⟩:∃p,p=k * C:=⟨_,rfl⟩
 have e1:(k:Int) * (C:Int)=(p:Int):=by rw[e0];exact(Int.natCast_mul k C).symm
 have e2:((k:Int)+1) * (C:Int)=((p+C:Nat):Int):=by rw[Int.add_mul,e1,Int.one_mul];rfl
 have e4:p+C<=data.length:=by rw[e0,g5];exact aXS h3
 simp only[e1,e2,dzx,<-bG6 R C k p data e0]
 (repeat' first|intro _|(with_reducible apply And.intro))
 all_goals first|omega|trivial|rfl
def aXP:Con:=⟨376,(.cMV tP tI),aA,[.val ⟨true,tP,[]⟩,.val ⟨false,tI,[]⟩],[⟨false,aA,[2]⟩],false,none,
 ((fun x=>aRM x.1=true/\0<=x.2/\x.2<x.1.2.1):((Int×cP)×Int)->Prop),
 ((fun x=>aI1 x.1 x.2.toNat):((Int×cP)×Int)->(List Int))⟩
def bK1:T:=pX aM aA bA <| xA tI tI (kV 1) (aB7 tI aM bL) <| jL 2 (fR pY (kV 1) (gS bL 1 bL 0) <| fR jT eG (iX bL) <| cH 3 tI aA (xQ bL 2 bL) 4 <| kO 3 tI 5 <| lS 3 8 aA aA (iA 1) 6 <| eJ aA 1 0 aA cM cY) (iA 1)
theorem bYR:Con.Holds Tryz.prog aXP:=tk ⟨[(2991,1001,[.dr 7,.dr 0,.tm 6 0,.on 5,.sl 2])],[]⟩ bK1 aH fun(x:(Int×cP)×Int) hx hp=>by
 dsimp only [aXP] at hx hp⊢
 obtain⟨m,c⟩:=x
 obtain⟨h1,h2,h3⟩:aRM m=true/\0<=c/\c<m.2.1:=hp
 obtain⟨R,C,data,rfl,g1,g2,g3,g4,g5,g6,g7⟩:=yB h1
 obtain⟨c,rfl⟩:=Int.eq_ofNat_of_zero_le h2
 have h3:c<C:=by dsimp only at h3;omega
 delta bK1;refine dR ?_
 refine eY (fun r=>((r:Int),mp r fun i=>data.getD (i * C+c) 0)) R rfl fun I μ k hk _ go=>?_
 dsimp only
 obtain⟨p,e0⟩:∃p,p=k * C:=⟨_,rfl⟩
 have e1:(k:Int) * (C:Int)=(p:Int):=by rw[e0];exact(Int.natCast_mul k C).symm
 have e2:(p:Int)+(c:Int)=((p+c:Nat):Int):=rfl
 have e4:k<R->p+C<=data.length:=fun h=>by rw[e0,g5];exact aXS h
 simp only[e1,e2,dzx,kF]
 (repeat' first|intro _|(refine go _ ?_ ?_ ?_)|(refine go _ ?_ ?_)|(with_reducible apply And.intro))
 all_goals first|omega|(unfold maxLen;omega)|(rw[qT,<-e0];rfl)|(have e:k=R:=(by omega);subst e;rfl)
def aTV:Con:=⟨347,(.cMV tP aA),aE2,[.val ⟨true,tP,[]⟩,.val ⟨false,aA,[]⟩],[⟨false,aA,[2]⟩,⟨false,.bool,[0]⟩],false,none,
 ((fun _=>True):((Int×cP)×bX)->Prop),
 ((fun x=>vK x.1 x.2):((Int×cP)×bX)->(bX×Bool))⟩
def bE9:T:=gH 0 (bS bL aA) 1 2 (nA aA bA) <| gH 1 (tO bL) 3 4 (nA aA bA) <| cK (tO bL) <| rO fF (eV bL 1 bL aA) 6 (nA aA bA) <| oQ dG dG aX bA <| aEY tI tI (iF 7) (dT tI aM bL aA) 8 (dF 2 bL (bS bL aA) (iF 7) <| fN 3 cU (tO bL) <| gD 3 tI (eL 10) <| lS 3 8 aA aA (lK 2 7) 11 <| xY aA 1 7 (lI (iF 7) 0 dG eM bD 12) <| lI (iF 7) 0 dG eM (gK tI 1 10) 12) <| qX aA (lK 2 7) aA 1 7
theorem bU8:Con.Holds Tryz.prog aTV:=tk ⟨[(2984,8007,iZ 26 11++[.dr 0,.tm 8 0,.tm 7 0,.on 6,.sl 2])],[]⟩ bE9 (aC bLD (aC nN (aC cAO (aC aLO aH)))) fun(x:(Int×cP)×bX) hx hp=>by
 dsimp only [aTV] at hx hp⊢
 obtain⟨m,v⟩:=x
 delta bE9 aQJ lQ aXC aCZ;refine dR ?_
 simp only[Bool.not_eq_true',Bool.not_eq_false',aEU,aEG]
 refine⟨fun h=>?_,fun h1=>⟨fun h=>?_,fun h2 _=>⟨fun h=>?_,fun h3=>?_⟩⟩⟩
 ·unfold vK;rw[if_neg (by rw[h];simp)]
 ·unfold vK dX;rw[if_neg (by rw[h];simp)]
 ·unfold vK dX;rw[if_neg (fun hh=>h (by have:=hh.2;rw[Bool.and_eq_true,decide_eq_true_eq] at this;exact this.2))]
 have h4:dX v m.2.1=true:=(cS _ _).2 ⟨h2,h3⟩
 rw[show vK m v=_ from if_pos ⟨h1,h4⟩]
 obtain⟨R,C,data,rfl,g1,g2,g3,g4,g5,g6,g7⟩:=yB h1
 refine eY (fun k=>((k:Int),an k (fun r=>(oE (aRR ((R:Int),(C:Int),data) r) v).2),mp k fun r=>(oE (aRR ((R:Int),(C:Int),data) r) v).1)) R rfl fun I μ k hk _ go=>?_
 dsimp only
 simp only[dzx,kF]
 (repeat' first|intro _|(refine go _ ?_ ?_ ?_)|(refine go _ ?_ ?_)|(with_reducible apply And.intro))
 all_goals first|omega|exact h1|(unfold maxLen;omega)|(rw[qT,yK];first|exact Prod.ext rfl (Prod.ext (rV (by assumption)) rfl)|exact Prod.ext rfl (Prod.ext (yT (by assumption)) rfl))|(have e:k=R:=(by omega);subst e;rfl)
def aPU:Con:=⟨353,(.cMV tP aA),aE2,[.val ⟨true,tP,[]⟩,.val ⟨false,aA,[]⟩],[⟨false,aA,[2]⟩,⟨false,.bool,[0]⟩],false,none,
 ((fun _=>True):((Int×cP)×bX)->Prop),
 ((fun x=>qU x.1 x.2):((Int×cP)×bX)->(bX×Bool))⟩
def aZM:T:=gH 0 (bS bL aA) 1 2 (nA aA bA) <| gH 1 (tO bL) 3 4 (nA aA bA) <| cK (tO bL) <| rO fF (dT tI aM bL aA) 6 (nA aA bA) <| oQ dG dG aX bA <| aEY tI tI (iF 7) (eV bL 1 bL aA) 8 (dF 2 bL (bS bL aA) (iF 7) <| fN 3 cU (tO bL) <| gD 3 tI (eL 10) <| lS 3 8 aA aA (lK 2 7) 11 <| xY aA 1 7 (lI (iF 7) 0 dG eM bD 12) <| lI (iF 7) 0 dG eM (gK tI 1 10) 12) <| qX aA (lK 2 7) aA 1 7
theorem bP4:Con.Holds Tryz.prog aPU:=tk ⟨[(2984,8007,iZ 26 11++[.dr 0,.tm 8 0,.tm 7 0,.on 6,.sl 2])],[]⟩ aZM (aC bLD (aC nN (aC bYR (aC aLO aH)))) fun(x:(Int×cP)×bX) hx hp=>by
 dsimp only [aPU] at hx hp⊢
 obtain⟨m,v⟩:=x
 delta aZM aQJ lQ aXP aCZ;refine dR ?_
 simp only[Bool.not_eq_true',Bool.not_eq_false',aEU,aEG]
 refine⟨fun h=>?_,fun h1=>⟨fun h=>?_,fun h2 _=>⟨fun h=>?_,fun h3=>?_⟩⟩⟩
 ·unfold qU;rw[if_neg (by rw[h];simp)]
 ·unfold qU dX;rw[if_neg (by rw[h];simp)]
 ·unfold qU dX;rw[if_neg (fun hh=>h (by have:=hh.2;rw[Bool.and_eq_true,decide_eq_true_eq] at this;exact this.2))]
 have h4:dX v m.1=true:=(cS _ _).2 ⟨h2,h3⟩
 rw[show qU m v=_ from if_pos ⟨h1,h4⟩]
 obtain⟨R,C,data,rfl,g1,g2,g3,g4,g5,g6,g7⟩:=yB h1
 refine eY (fun k=>((k:Int),an k (fun r=>(oE (aI1 ((R:Int),(C:Int),data) r) v).2),mp k fun r=>(oE (aI1 ((R:Int),(C:Int),data) r) v).1)) C rfl fun I μ k hk _ go=>?_
 dsimp only
 simp only[dzx,kF]
 (repeat' first|intro _|(refine go _ ?_ ?_ ?_)|(refine go _ ?_ ?_)|(with_reducible apply And.intro))
 all_goals first|omega|exact h1|(unfold maxLen;omega)|(rw[qT,yK];first|exact Prod.ext rfl (Prod.ext (rV (by assumption)) rfl)|exact Prod.ext rfl (Prod.ext (yT (by assumption)) rfl))|(have e:k=C:=(by omega);subst e;rfl)
def aYN:Con:=⟨354,aL,(.cMV tP .bool),[.val ⟨false,aA,[]⟩,.val ⟨false,aA,[]⟩],[⟨true,tP,[0,0,2]⟩,⟨false,.bool,[0]⟩],false,none,
 ((fun _=>True):(bT)->Prop),
 ((fun x=>aF9 x.1 x.2):(bT)->((Int×cP)×Bool))⟩
def bKC:T:=gH 0 oZ 1 2 (bFL bL .bool bL (aBO aN bA) aX) <| gH 0 pI 3 4 (bFL bL .bool bL (aBO aN bA) aX) <| cK oZ <| cK pI <| aAC dG (oH dG (aBO aX bA)) 3 tI oZ <| cX (iF 7) 8 9 (gW dG (aOE aA) (lK 1 7) 3 tI pI <| cX (iF 10) 11 12 (aER 3 aA 0 (iF 7) <| jZ 3 pI (iF 10) <| jK 1 eM dK <| gD 3 tI (eL 15) <| lS 3 8 aA aA (lK 2 10) 16 <| xY aA 1 10 (lI (iF 10) 0 dG nJ bD 17) <| lI (iF 10) 0 dG nJ (gK tI 1 15) 17) <| aCX (iF 7) 1 (aOE aA) eM (lK 1 10)) <| qX bL (oH bL [fF,cQ,lK 2 7]) aA 1 7
theorem bZ5:Con.Holds Tryz.prog aYN:=tk ⟨[(2984,4007,iZ 25 21++iZ 19 12++[.tm 8 0,.tm 7 0,.sl 5]),(2973,12010,[.tm 9 0,.tm 7 0,.sl 5])],[]⟩ bKC (aC nN (aC aTF aH)) fun(x:bT) hx hp=>by
 dsimp only [aYN] at hx hp⊢
 obtain⟨d,v⟩:=x
 delta bKC lQ aGT;refine dR ?_
 simp only[Bool.not_eq_true',Bool.not_eq_false']
 refine⟨fun h=>?_,fun h1=>⟨fun h=>?_,fun h2 _ _=>?_⟩⟩
 ·unfold aF9;rw[if_neg (by rw[h];simp)];rfl
 ·unfold aF9;rw[if_neg (by rw[h];simp)];rfl
 rw[show aF9 d v=_ from if_pos ⟨h1,h2⟩]
 have hd:=(dH d).1 h1
 have hv:=(dH v).1 h2
 refine eY (fun i=>((i:Int),an i (bDW d v),aC3 (aGG d v) i)) d.length rfl fun I μ i hi _ go=>?_
 dsimp only
 refine dQ ?_
 have hl:(aC3 (aGG d v) i).length=i * v.length:=aE5 (fun i=>kF _ _) i
 have hq:i * v.length<=36:=Nat.le_trans (Nat.mul_le_mul hi (show v.length<=6 by omega)) (by omega)
 generalize hD:aC3 (aGG d v) i=D at *
 generalize hA:an i (bDW d v)=A at *
 intro _
 constructor
 ·intro hlt
  refine eY (fun j=>((j:Int),A||an j (fun j=>(oI (d.getD i 0) (v.getD j 0)).2),D++mp j fun j=>(oI (d.getD i 0) (v.getD j 0)).1)) v.length (by simp[bMP,bYK]) fun I2 μ2 j hj _ go2=>?_
  dsimp only
  simp only[dzx,kF]
  have ea:(A||an (j+1) (fun j=>(oI (d.getD i 0) (v.getD j 0)).2))=((A||an j (fun j=>(oI (d.getD i 0) (v.getD j 0)).2))||(oI (d.getD i 0) (v.getD j 0)).2):=by rw[yK,Bool.or_assoc]
  (repeat' first|intro _|(refine go2 _ ?_ ?_ ?_)|(refine go2 _ ?_ ?_)|(refine go _ ?_ ?_ ?_)|(refine go _ ?_ ?_)|(with_reducible apply And.intro))
  all_goals first|omega|(unfold maxLen;omega)|(rw[qT,<-List.append_assoc,ea];first|exact Prod.ext rfl (Prod.ext (rV (by assumption)) rfl)|exact Prod.ext rfl (Prod.ext (yT (by assumption)) rfl))|(have e:j=v.length:=(by omega);subst e;rw[aC3,hD,yK,hA];rfl)
 ·intro hge
  have e:i=d.length:=by omega
  subst e
  rw[<-hD,<-hA]
def aR2:Con:=⟨348,bK,tP,[.val ⟨true,bK,[]⟩],[⟨true,tP,[0,0,0]⟩],true,none,
 ((fun _=>True):(fP)->Prop),
 ((fun x=>aI6 x):(fP)->(Int×cP))⟩
def bJ4:T:=iG bL aAL wV (fG bK 3)
theorem bL3:Con.Holds Tryz.prog aR2:=tk ⟨[],[]⟩ bJ4 aH fun(x:fP) hx hp=>by
 dsimp only [aR2] at hx hp⊢
 delta bJ4;refine dR ?_;try with_reducible exact True.intro
 rfl
def aJS:Con:=⟨309,(.cMV bK aA),aE2,[.val ⟨true,bK,[]⟩,.val ⟨false,aA,[]⟩],[⟨false,aA,[2]⟩,⟨false,.bool,[0]⟩],false,none,
 ((fun _=>True):(fP×bX)->Prop),
 ((fun x=>aAX x.1 x.2):(fP×bX)->(bX×Bool))⟩
def aS4:T:=gH 0 (bS bK aA) 1 2 (nA aA bA) <| gH 1 aA6 3 4 (nA aA bA) <| cK aA6 <| rO fF (eV bK 1 bK aA) 6 (nA aA bA) <| nE (dT tI bL bK aA) bF 7 (uS 2 bK aA <| mT 3 bL cM aA6 <| cF 9) <| iL (dT tI bL bK aA) 2 8 (fN 4 aA6 (iP bK 3 bK aA) <| cF 9) <| iL (dT tI bL bK aA) 3 9 (.call 5 aA6 <| lW aA cI aX) <| iL (dT tI bL bK aA) 4 10 (jZ 3 (iP bK 3 bK aA) aN <| mT 6 tI cO aA6 <| cF 12) <| uS 2 bK aA <| mT 3 bL cO aA6 <| fN 4 aA6 (jE 12) <| nF aA 1 12 (lW aA (jE 13) bD) <| cF 13
theorem bIC:Con.Holds Tryz.prog aJS:=tk ⟨[],[]⟩ aS4 (aC bH6 (aC nN (aC bL3 (aC bU8 (aC bFG (aC bP6 (aC aW3 aH))))))) fun(x:fP×bX) hx hp=>by
 dsimp only [aJS] at hx hp⊢
 obtain⟨⟨kd,i,ou,P⟩,v⟩:=x
 delta aS4 aQ7 lQ aR2 aTV aMA aNY aFD;refine dR ?_
 simp only[Bool.not_eq_true',Bool.not_eq_false',aEU,aEG]
 refine⟨fun h=>?_,fun h1=>⟨fun h=>?_,fun h2 _=>⟨fun h=>?_,fun h3=>?_⟩⟩⟩
 ·unfold aAX;rw[if_pos (by rw[h];simp)]
 ·unfold aAX dX;rw[if_pos (by rw[h];simp)]
 ·unfold aAX;rw[if_pos (fun hh=>h ((cS _ _).1 hh.2).2)]
 have h9:dX v i=true:=(cS _ _).2 ⟨h2,h3⟩
 clear h2 h3
 have h4:=bCD h1
 have hk:=((lO _).1 h1).1
 dsimp only at h4 hk
 (refine dQ ?_;try with_reducible exact True.intro)
 (repeat' first|intro _|(with_reducible apply And.intro))
 all_goals first|omega|(simp_all[aAX];done)|(have e5:kd=5:=(by omega);subst e5;simp_all[aAX];done)
def aH8:Con:=⟨312,(.cMV bK aL),(.cMV aA aE2),[.val ⟨true,bK,[]⟩,.val ⟨false,aA,[]⟩,.val ⟨false,aA,[]⟩],[⟨false,aA,[2]⟩,⟨false,aA,[2]⟩,⟨false,.bool,[0]⟩],false,none,
 ((fun _=>True):(fP×bT)->Prop),
 ((fun x=>rG x.1 x.2.1 x.2.2):(fP×bT)->(bX×(bX×Bool)))⟩
def aNU:T:=gH 0 (bS bK aL) 1 2 (oH mV [bA,bA,aX]) <| gH 1 (eI bK aL 1) 3 4 (oH mV [bA,bA,aX]) <| cK (eI bK aL 1) <| rO fF (eV bK 1 bK aL) 6 (oH mV [bA,bA,aX]) <| gH 1 (fA bK aL 2) 7 8 (oH mV [bA,bA,aX]) <| cK (fA bK aL 2) <| rO cU (eV bK 2 bK aL) 10 (oH mV [bA,bA,aX]) <| iL (dT tI bL bK aL) 2 11 (jM (yV 3 8) aA aA bA (fA bK aL 2) <| jM (yV 3 8) aA aA bA (fA bK aL 2) <| iG mV fE eM aX) <| iL (dT tI bL bK aL) 3 12 (aBK (kE bK aL) <| iG mV eM bA aX) <| iL (dT tI bL bK aL) 4 13 (jZ 3 (iP bK 3 bK aL) aN <| mT 3 tI dK (fA bK aL 2) <| fN 4 (fA bK aL 2) (eI bK aL 1) <| gD 3 tI (eL 16) <| nF aA 1 15 (iG mV (jE 15) iR bD) <| iG mV (jE 15) iR (gK tI 1 16)) <| uS 5 bK aL <| mT 6 bL dK (fA bK aL 2) <| fN 7 (fA bK aL 2) (eI bK aL 1) <| nE (dT tI bL bK aL) bF 17 (nF aA 1 15 (iG mV (jE 15) (prA bL 2 (mM bL 16)) bD) <| iG mV (jE 15) (prA bL 2 (mM bL 16)) (gK bL 1 16)) <| fN 8 (fA bK aL 2) (jE 15) <| nF aA 1 15 (iG mV (jE 18) (prA bL 2 (mM bL 16)) bD) <| nF bL 1 16 (iG mV (jE 18) (prA bL 2 (mM bL 16)) bD) <| iG mV (jE 18) (prA bL 2 (mM bL 16)) (gK aA 1 18)
theorem bDK:Con.Holds Tryz.prog aH8:=tk ⟨[],[]⟩ aNU (aC bH6 (aC nN (aC bOS (aC aW3 (aC aLO (aC bL3 (aC bP4 (aC bZ5 (aC bFG aH))))))))) fun(x:fP×bT) hx hp=>by
 dsimp only [aH8] at hx hp⊢
 obtain⟨⟨kd,i,ou,P⟩,v,d⟩:=x
 delta aNU aQ7 lQ aNM aFD aCZ aR2 aPU aYN aMA;refine dR ?_
 simp only[Bool.not_eq_true',Bool.not_eq_false',aEU,aEG]
 refine⟨fun h=>?_,fun h1=>⟨fun h=>?_,fun h2 _=>⟨fun h=>?_,fun h3=>⟨fun h=>?_,fun h5 _=>⟨fun h=>?_,fun h6=>?_⟩⟩⟩⟩⟩
 ·unfold rG;rw[if_pos (by rw[h];simp)]
 ·unfold rG dX;rw[if_pos (by rw[h];simp)]
 ·unfold rG;rw[if_pos (fun hh=>h ((cS _ _).1 hh.2.1).2)]
 ·unfold rG dX;rw[if_pos (by rw[h];simp)]
 ·unfold rG;rw[if_pos (fun hh=>h ((cS _ _).1 hh.2.2).2)]
 have h9:dX v i=true:=(cS _ _).2 ⟨h2,h3⟩
 have h10:dX d ou=true:=(cS _ _).2 ⟨h5,h6⟩
 have hd:=(dH d).1 h5
 clear h2 h3 h5 h6
 have h4:=bCD h1
 have hk:=((lO _).1 h1).1
 dsimp only at h4 hk
 rcases(show kd=1\/kd=2\/kd=3\/kd=4\/kd=5 by omega) with rfl|rfl|rfl|rfl|rfl
 all_goals
  refine dQ ?_
  clear hk hx
  (repeat' first|intro _|(with_reducible apply And.intro))
  all_goals first|omega|(unfold maxLen;omega)|exact absurd trivial (by assumption)|(unfold rG;rw[if_neg (by simp[h1,h9,h10]),if_neg (by simp),if_neg (by simp),if_pos rfl];first|exact Prod.ext rfl (Prod.ext rfl (rV (by assumption)))|exact Prod.ext rfl (Prod.ext rfl (yT (by assumption))))|(simp[rG,h1,h9,h10, *];done)
def aO8 (y t:List Int):Int×Bool:=((oE (wT pJ y t).1 (wT pJ y t).1).1.fdiv 2,(wT pJ y t).2||(oE (wT pJ y t).1 (wT pJ y t).1).2)
def rQ (m:List fP) (x:List Int):Nat->cT×Bool
 | 0=>([x],false)
 | k+1=>((rQ m x k).1++[(aAX (m.getD k zOp) ((rQ m x k).1.getD k [])).1],(rQ m x k).2||(aAX (m.getD k zOp) ((rQ m x k).1.getD k [])).2)
def aQI (m:List fP) (x:List Int):cT×Bool:=if dD m=true/\dX x (kD m)=true then rQ m x m.length else([],false)
def lG (m:List fP) (r:cT) (d:List Int) (n:Nat):Nat->cT×(List Int×Bool)
 | 0=>(List.replicate n [],d,false)
 | k+1=>((lG m r d n k).1.set (n - 1 - k) (rG (m.getD (n - 1 - k) zOp) (r.getD (n - 1 - k) []) (lG m r d n k).2.1).2.1,(rG (m.getD (n - 1 - k) zOp) (r.getD (n - 1 - k) []) (lG m r d n k).2.1).1,
  (lG m r d n k).2.2||(rG (m.getD (n - 1 - k) zOp) (r.getD (n - 1 - k) []) (lG m r d n k).2.1).2.2)
def aBA (m:List fP) (r:cT) (d:List Int):cT×(List Int×Bool):=lG m r d m.length m.length
def wR (m:List fP) (p:bT):Bool:=dX p.1 (kD m)&&dX p.2 (eZ m)
def pD (m:List fP) (b:List bT):Bool:=dD m&&(decide (1<=b.length/\b.length<=5)&&b.all (wR m))
theorem bY7 {x:Int} (h:0<=x):0<=(bIA x).1:=by show 0<=mS x;unfold mS;omega
theorem bJ8 {x:Int} (h:0<=x):0<=mS x:=by unfold mS;omega
theorem bYS (x:Int):0<=(oI x x).1:=by
 refine bY7 ?_
 rw[Int.fdiv_eq_ediv_of_nonneg _ (by decide)]
 have h:0<=mS x * mS x:=by
  rcases Int.le_total 0 (mS x) with h|h
  ·exact Int.mul_nonneg h h
  ·exact Int.mul_nonneg_of_nonpos_of_nonpos h h
 omega
theorem bXT (a:List Int):(k:Nat)->0<=(aW6 a a k).1
 | 0=>Int.le_refl _
 | k+1=>bY7 (Int.add_nonneg (bJ8 (bXT a k)) (bJ8 (bYS _)))
theorem bZK (a:List Int):0<=(oE a a).1:=by
 unfold oE;split
 ·exact bXT a _
 ·exact Int.le_refl _
theorem cIO {x:Int} (h:0<=x):x.tdiv 2=x.fdiv 2:=by rw[Int.fdiv_eq_ediv_of_nonneg _ (by decide),Int.tdiv_eq_ediv_of_nonneg h]
theorem zT (m:List fP) (x:List Int):(k:Nat)->(rQ m x k).1.length=k+1
 | 0=>rfl
 | k+1=>by rw[rQ,List.length_append,zT m x k];rfl
theorem aG1 (m:List fP) (r:cT) (d:List Int) (n:Nat):(k:Nat)->(lG m r d n k).1.length=n
 | 0=>List.length_replicate
 | k+1=>by rw[lG,List.length_set,aG1 m r d n k]
theorem cC1 {m:List fP} {b:List bT} (h:dD m=false):false=pD m b:=by unfold pD;rw[h];rfl
theorem cEU {m:List fP} {b:List bT} (h:¬(1<=b.length/\b.length<=5)):false=pD m b:=by unfold pD;rw[decide_eq_false h,Bool.false_and,Bool.and_false]
theorem cFA {m:List fP} {b:List bT} (h:b.all (wR m)=false):false=pD m b:=by unfold pD;rw[h,Bool.and_false,Bool.and_false]
theorem cHN {m:List fP} {b:List bT} (h1:dD m=true) (h2:1<=b.length/\b.length<=5) (h3:b.all (wR m)=true):true=pD m b:=by unfold pD;rw[h1,h3,decide_eq_true h2];rfl
theorem aLB (m:List fP) (b:List bT):pD m b=true↔dD m=true/\(1<=b.length/\b.length<=5)/\b.all (wR m)=true:=by unfold pD;simp only[Bool.and_eq_true,decide_eq_true_eq]
theorem bLZ {m:List fP} {p:bT} (h:tQ p.1=false\/tQ p.2=false\/¬(p.1.length:Int)=kD m\/¬(p.2.length:Int)=eZ m):wR m p=false:=by
 unfold wR dX
 rcases h with h|h|h|h
 ·rw[h];simp
 ·rw[h];simp
 ·rw[decide_eq_false h];simp
 ·rw[decide_eq_false h];simp
theorem cJH {m:List fP} {p:bT} (h1:tQ p.1=true) (h2:tQ p.2=true) (h3:(p.1.length:Int)=kD m) (h4:(p.2.length:Int)=eZ m):wR m p=true:=by
 unfold wR dX;rw[h1,h2,decide_eq_true h3,decide_eq_true h4];rfl
def aTC:Con:=⟨299,aL,aB4,[.val ⟨false,aA,[]⟩,.val ⟨false,aA,[]⟩],[⟨false,tI,[0]⟩,⟨false,.bool,[0]⟩],false,none,
 ((fun _=>True):(bT)->Prop),
 ((fun x=>aO8 x.1 x.2):(bT)->(Int×Bool))⟩
def bFP:T:=hZ <| fN 1 (jE 1) (jE 1) <| vC (.shr .i64 .u64) (.int .u64) (eL 2) (.ci .u64 1) <| nF aA 1 1 (lW tI eG bD) <| lW tI eG (gK tI 1 2)
theorem bT8:Con.Holds Tryz.prog aTC:=tk ⟨[],[]⟩ bFP (aC bCU (aC aTU aH)) fun(x:bT) hx hp=>by
 dsimp only [aTC] at hx hp⊢
 delta bFP aLA aGD;refine dR ?_
 exact fun _ _=>⟨by omega,fun _=>⟨fun h=>Prod.ext rfl (rV h),fun h=>Prod.ext rfl (yT h)⟩⟩
def aT9:Con:=⟨233,aL,aB4,[.val ⟨false,aA,[]⟩,.val ⟨false,aA,[]⟩],[⟨false,tI,[0]⟩,⟨false,.bool,[0]⟩],false,none,
 ((fun _=>True):(bT)->Prop),
 ((fun x=>aO8 x.1 x.2):(bT)->(Int×Bool))⟩
def bHW:T:=hZ <| fN 1 (jE 1) (jE 1) <| mL (.quo .i64) (eL 2) 2 <| nF aA 1 1 (lW tI eG bD) <| lW tI eG (gK tI 1 2)
theorem bU6:Con.Holds Tryz.prog aT9:=tk ⟨[],[]⟩ bHW (aC bEB (aC aLO aH)) fun(x:bT) hx hp=>by
 dsimp only [aT9] at hx hp⊢
 delta bHW aKS aCZ;refine dR ?_
 intro _ ho
 have h0:=bZK (wT pJ x.1 x.2).1
 have h1:(oE (wT pJ x.1 x.2).1 (wT pJ x.1 x.2).1).1<=9223372036854775807:=ho.1.2
 rw[cIO h0]
 have h2:(oE (wT pJ x.1 x.2).1 (wT pJ x.1 x.2).1).1.fdiv 2=(oE (wT pJ x.1 x.2).1 (wT pJ x.1 x.2).1).1 / 2:=Int.fdiv_eq_ediv_of_nonneg _ (by decide)
 exact⟨⟨by omega,by omega,by omega⟩,fun _=>⟨fun h=>Prod.ext rfl (rV h),fun h=>Prod.ext rfl (yT h)⟩⟩
def aMJ:Con:=⟨298,(.cMV aG aA),(.cMV aF .bool),[.val ⟨true,aG,[]⟩,.val ⟨false,aA,[]⟩],[⟨false,aF,[2]⟩,⟨false,.bool,[0]⟩],false,none,
 ((fun _=>True):(cC×bX)->Prop),
 ((fun x=>aQI x.1 x.2):(cC×bX)->(cT×Bool))⟩
def bFS:T:=gH 0 (bS aG aA) 1 2 (nA aF qC) <| uS 1 aG aA <| dF 2 aA (tO aG) eG <| dL 4 5 (nA aF qC) <| .call 3 (tO aG) <| kO 253 aA 6 <| iE (bS aG aA) <| xF pM pM (kM aN aX 7) <| cX (lH aF 9) 8 10 (bZ 243 bK aG (bS aG aA) (lH aF 9) <| bZ 253 aA aF (kN aF 2 9) (lH aF 9) <| bZ 253 aA aF (kN aF 2 9) (lH aF 9) <| mT 4 bK cO eM <| gD 253 aA (jE 14) <| eF (wE aA 24) aF aF (kN aF 2 9) 15 <| xY aF 1 9 (lI (lH aF 9) 0 pM iR bD 16) <| lI (lH aF 9) 0 pM iR (gK aA 1 14) 16) <| qX aF (kN aF 2 9) aF 1 9
theorem bHL:Con.Holds Tryz.prog aMJ:=tk ⟨[(2984,4009,iZ 26 12++[.dr 2,.dr 0,.dr 1,.tm 29 0,.tm 7 0,.sl 3])],[(2991,4006,[23],[]),(2971,12015,[],[6])]⟩ bFS (aC aIJ (aC bH1 (aC vQ (aC qQ (aC bIG aH))))) fun(x:cC×bX) hx hp=>by
 dsimp only [aMJ] at hx hp⊢
 obtain⟨m,v⟩:=x
 delta bFS aAT aP1 sH nK aJC;refine dR ?_
 simp only[Bool.not_eq_true',Bool.not_eq_false']
 refine⟨fun h=>?_,fun h1 _=>⟨fun h=>?_,fun h2=>?_⟩⟩
 ·unfold aQI;rw[if_neg (by rw[h];simp)]
 ·unfold aQI;rw[if_neg (by rw[h];simp)]
 ·have hv:=(dH v).1 ((cS _ _).1 h2).1
  have hm:=(bO m).1 h1
  rw[show aQI m v=_ from if_pos ⟨h1,h2⟩]
  refine⟨by omega,fun _ _ _=>?_⟩
  refine eY (fun k=>((k:Int),(rQ m v k).2,(rQ m v k).1)) m.length rfl fun I μ k hk _ go=>?_
  dsimp only
  simp only[dzx,zT]
  (repeat' first|intro _|(refine go _ ?_ ?_ ?_)|(refine go _ ?_ ?_)|(with_reducible apply And.intro))
  all_goals first|omega|(unfold maxLen;omega)|exact Prod.ext rfl (Prod.ext (rV (by assumption)) rfl)|exact Prod.ext rfl (Prod.ext (yT (by assumption)) rfl)|(have e:k=m.length:=(by omega);subst e;rfl)
def aFH:Con:=⟨232,(.cMV aG aA),(.cMV aF .bool),[.val ⟨false,aG,[]⟩,.val ⟨false,aA,[]⟩],[⟨false,aF,[2]⟩,⟨false,.bool,[0]⟩],false,none,
 ((fun x=>tQ x.2=true/\List.length x.1<=8):(cC×bX)->Prop),
 ((fun x=>rQ x.1 x.2 (x.1:List fP).length):(cC×bX)->(cT×Bool))⟩
def aVL:T:=jM (yV 3 8) aA aA bA (tO aG) <| kO 253 aA 1 <| aAC pM (oH pM (kM aN aX 2)) 243 bK (bS aG aA) <| cX (lH aF 3) 4 5 (bZ 243 bK aG (bS aG aA) (lH aF 3) <| bZ 253 aA aF (kN aF 2 3) (lH aF 3) <| bZ 253 aA aF (kN aF 2 3) (lH aF 3) <| mT 0 bK cQ cM <| gD 253 aA (jE 9) <| eF (wE aA 24) aF aF (kN aF 2 3) 10 <| xY aF 1 3 (lI (lH aF 3) 0 pM fE bD 11) <| lI (lH aF 3) 0 pM fE (gK aA 1 9) 11) <| qX aF (kN aF 2 3) aF 1 3
theorem aVG:Con.Holds Tryz.prog aFH:=tk ⟨[(2989,1003,iZ 15 11++[.dr 1,.tm 8 0,.tm 7 0,.sl 2])],[(2996,1001,[13],[]),(2978,3010,[],[3])]⟩ aVL (aC bIC aH) fun(x:cC×bX) hx hp=>by
 dsimp only [aFH] at hx hp⊢
 obtain⟨m,v⟩:=x
 obtain⟨h1,hm⟩:tQ v=true/\m.length<=8:=hp
 have hv:=(dH v).1 h1
 delta aVL aJS;refine dR ?_
 refine dQ ?_
 refine⟨⟨by omega,by unfold maxLen;omega⟩,fun _ _=>?_⟩
 ·skip
  refine eY (fun k=>((k:Int),(rQ m v k).2,(rQ m v k).1)) m.length rfl fun I μ k hk _ go=>?_
  dsimp only
  simp only[dzx,zT]
  (repeat' first|intro _|(refine go _ ?_ ?_ ?_)|(refine go _ ?_ ?_)|(with_reducible apply And.intro))
  all_goals first|omega|(unfold maxLen;omega)|exact Prod.ext rfl (Prod.ext (rV (by assumption)) rfl)|exact Prod.ext rfl (Prod.ext (yT (by assumption)) rfl)|(have e:k=m.length:=(by omega);subst e;rfl)
def aTO:Con:=⟨302,(.cMV aG (.cMV aF aA)),(.cMV aF aE2),[.val ⟨false,aG,[]⟩,.val ⟨false,aF,[]⟩,.val ⟨false,aA,[1]⟩],[⟨false,aF,[1]⟩,⟨false,aA,[1]⟩,⟨false,.bool,[0]⟩],false,none,
 ((fun x=>List.length x.1<=8/\List.length x.1<=List.length x.2.1):(cC×(cT×bX))->Prop),
 ((fun x=>aBA x.1 x.2.1 x.2.2):(cC×(cT×bX))->(cT×(bX×Bool)))⟩
def bGN:T:=iE (lU aG aF aA 0) <| aEP 253 aA 24 1 <| iE (lU aG aF aA 0) <| lL eG <| xF (xM vV) (xM vV) [dY,aX,fG aCW 2,bM,fG aCW 2] <| rX .geq (lH vV 5) aN 6 (bZ 243 bK aG (lU aG aF aA 0) (lH vV 5) <| bZ 253 aA aF (qE aCW) (lH vV 5) <| sX 0 bK aL [cY,cM,kN vV 4 5] <| bZ 253 aA aF (wG vV 3 5) (lH vV 5) <| sZ 253 aA (.cMV aF aM) [wG vV 3 5,lH vV 5,dZ mV 9] <| xY vV 1 5 (aCH mY (lH vV 5) 0 (oH (xM vV) [fE,bD,oY aA aA 9,cO,oY aA aA 9])) <| aCH mY (lH vV 5) 0 (oH (xM vV) [fE,dO mV 2 9,oY aA aA 9,cO,oY aA aA 9])) (oH rY [wG vV 3 5,kN vV 4 5,wG vV 1 5])
theorem bW5:Con.Holds Tryz.prog aTO:=tk ⟨[(2989,1005,iZ 20 15++[.tm 11 0,.tm 10 0,.tm 2 0,.sl 2,.sl 1])],[(2978,3010,[],[4])]⟩ bGN (aC bDR aH) fun(x:cC×(cT×bX)) hx hp=>by
 dsimp only [aTO] at hx hp⊢
 obtain⟨m,r,d⟩:=x
 obtain⟨hm,hr⟩:m.length<=8/\m.length<=r.length:=hp
 delta bGN aHG;refine dR ?_
 refine dQ ?_
 obtain⟨n,hn⟩:∃n,n=m.length:=⟨_,rfl⟩
 rw[show aBA m r d=lG m r d n n by rw[hn];rfl,<-hn]
 refine fun _=>⟨⟨by omega,by omega,by omega⟩,fun _ _=>⟨by omega,fun _=>?_⟩⟩
 refine eY (fun k=>((n:Int) - 1 - (k:Int),(lG m r d n k).2.2,(lG m r d n k).2.1,(lG m r d n k).1,(lG m r d n k).2.1)) n (by show(_,_)=(_,_);simp only[lG,Int.natCast_zero,Int.sub_zero];rfl) fun I μ k hk _ go=>?_
 dsimp only
 have hgl:=aG1 m r d n k
 by_cases hkn:k<n
 ·obtain⟨j,hj⟩:∃j,j=n - 1 - k:=⟨_,rfl⟩
  have e:(n:Int) - 1 - (k:Int)=(j:Int):=by omega
  rw[e] at go
  simp only[e,dzx]
  have e2:∀(F:Bool) (hF:F=((lG m r d n k).2.2||(rG (m.getD j zOp) (r.getD j []) (lG m r d n k).2.1).2.2)),((j:Int) - 1,F,(rG (m.getD j zOp) (r.getD j []) (lG m r d n k).2.1).1,(lG m r d n k).1.set j (rG (m.getD j zOp) (r.getD j []) (lG m r d n k).2.1).2.1,(rG (m.getD j zOp) (r.getD j []) (lG m r d n k).2.1).1)=((n:Int) - 1 - ((k+1:Nat):Int),(lG m r d n (k+1)).2.2,(lG m r d n (k+1)).2.1,(lG m r d n (k+1)).1,(lG m r d n (k+1)).2.1):=fun F hF=>by
   rw[hF,lG,<-hj]
   exact Prod.ext (by show(j:Int) - 1=(n:Int) - 1 - ((k+1:Nat):Int);omega) rfl
  (repeat' first|intro _|(refine go _ ?_ ?_ ?_)|(refine go _ ?_ ?_)|(with_reducible apply And.intro))
  all_goals first|omega|exact e2 _ (rV (by assumption))|exact e2 _ (yT (by assumption))
 ·have e:k=n:=by omega
  subst e
  simp only[show(k:Int) - 1 - (k:Int) = -1 by omega,dzx]
  (repeat' first|intro _|(refine go _ ?_ ?_ ?_)|(refine go _ ?_ ?_)|(with_reducible apply And.intro))
  all_goals first|omega|trivial|rfl
def aUG:Con:=⟨235,(.cMV aG (.cMV aF aA)),(.cMV aF aE2),[.val ⟨false,aG,[]⟩,.val ⟨false,aF,[]⟩,.val ⟨false,aA,[]⟩],[⟨false,aF,[0]⟩,⟨false,aA,[0]⟩,⟨false,.bool,[0]⟩],true,none,
 ((fun x=>List.length x.1<=8/\List.length x.1<=List.length x.2.1):(cC×(cT×bX))->Prop),
 ((fun x=>aBA x.1 x.2.1 x.2.2):(cC×(cT×bX))->(cT×(bX×Bool)))⟩
def bHG:T:=iE (lU aG aF aA 0) <| aEP 253 aA 24 1 <| iE (lU aG aF aA 0) <| lL eG <| xF (fM (kT aA aF)) (fM (kT aA aF)) [dY,aX,fG aCW 2,bM] <| rX .geq (cB (kT aA aF) 5) aN 6 (cW 243 bK aG (lU aG aF aA 0) (kT aA aF) 5 <| cW 253 aA aF (qE aCW) (kT aA aF) 5 <| sX 0 bK aL [cY,cM,cL (kT aA aF) 2 5] <| cW 253 aA aF (fY (kT aA aF) 3 5) (kT aA aF) 5 <| sZ 253 aA (.cMV aF aM) [fY (kT aA aF) 3 5,cB (kT aA aF) 5,dZ mV 9] <| .ite (cL (kT aA aF) 1 5) (aCH mY (cB (kT aA aF) 5) 0 (oH (fM (kT aA aF)) [fE,bD,oY aA aA 9,cO])) <| aCH mY (cB (kT aA aF) 5) 0 (oH (fM (kT aA aF)) [fE,dO mV 2 9,oY aA aA 9,cO])) (oH rY [fY (kT aA aF) 3 5,cL (kT aA aF) 2 5,cL (kT aA aF) 1 5])
theorem bTD:Con.Holds Tryz.prog aUG:=tk ⟨[(2989,1005,iZ 20 15++[.tm 11 0,.tm 10 0,.tm 2 0,.sl 1])],[(2978,3010,[],[3])]⟩ bHG (aC bDK aH) fun(x:cC×(cT×bX)) hx hp=>by
 dsimp only [aUG] at hx hp⊢
 obtain⟨m,r,d⟩:=x
 obtain⟨hm,hr⟩:m.length<=8/\m.length<=r.length:=hp
 delta bHG aH8;refine dR ?_
 refine dQ ?_
 obtain⟨n,hn⟩:∃n,n=m.length:=⟨_,rfl⟩
 rw[show aBA m r d=lG m r d n n by rw[hn];rfl,<-hn]
 refine fun _=>⟨⟨by omega,by omega,by omega⟩,fun _ _=>⟨by omega,fun _=>?_⟩⟩
 refine eY (fun k=>((n:Int) - 1 - (k:Int),(lG m r d n k).2.2,(lG m r d n k).2.1,(lG m r d n k).1)) n (by show(_,_)=(_,_);simp only[lG,Int.natCast_zero,Int.sub_zero];rfl) fun I μ k hk _ go=>?_
 dsimp only
 have hgl:=aG1 m r d n k
 by_cases hkn:k<n
 ·obtain⟨j,hj⟩:∃j,j=n - 1 - k:=⟨_,rfl⟩
  have e:(n:Int) - 1 - (k:Int)=(j:Int):=by omega
  rw[e] at go
  simp only[e,dzx]
  have e2:∀(F:Bool) (hF:F=((lG m r d n k).2.2||(rG (m.getD j zOp) (r.getD j []) (lG m r d n k).2.1).2.2)),((j:Int) - 1,F,(rG (m.getD j zOp) (r.getD j []) (lG m r d n k).2.1).1,(lG m r d n k).1.set j (rG (m.getD j zOp) (r.getD j []) (lG m r d n k).2.1).2.1)=((n:Int) - 1 - ((k+1:Nat):Int),(lG m r d n (k+1)).2.2,(lG m r d n (k+1)).2.1,(lG m r d n (k+1)).1):=fun F hF=>by
   rw[hF,lG,<-hj]
   exact Prod.ext (by show(j:Int) - 1=(n:Int) - 1 - ((k+1:Nat):Int);omega) rfl
  (repeat' first|intro _|(refine go _ ?_ ?_ ?_)|(refine go _ ?_ ?_)|(with_reducible apply And.intro))
  all_goals first|omega|exact e2 _ (rV (by assumption))|exact e2 _ (yT (by assumption))
 ·have e:k=n:=by omega
  subst e
  simp only[show(k:Int) - 1 - (k:Int) = -1 by omega,dzx]
  (repeat' first|intro _|(refine go _ ?_ ?_ ?_)|(refine go _ ?_ ?_)|(with_reducible apply And.intro))
  all_goals first|omega|trivial|rfl
def aWE:Con:=⟨221,aG,tI,[.val ⟨true,aG,[]⟩],[⟨false,tI,[0]⟩],false,none,
 ((fun _=>True):(cC)->Prop),
 ((fun x=>kD x):(cC)->(Int))⟩
def bRS:T:=hZ <| dL 1 2 aN <| bZ 243 bK aG bJ aN <| .ret (dZ bK 3)
theorem bQL:Con.Holds Tryz.prog aWE:=tk ⟨[],[]⟩ bRS (aC uW aH) fun(x:cC) hx hp=>by
 dsimp only [aWE] at hx hp⊢
 delta bRS rE;refine dR ?_
 simp only[Bool.not_eq_true',Bool.not_eq_false']
 refine⟨fun h=>?_,fun h=>?_⟩
 ·unfold kD;rw[h];rfl
 ·have:=(bO x).1 h
  refine⟨by omega,fun _=>?_⟩
  unfold kD;rw[if_pos h];rfl
def aQO:Con:=⟨222,aG,tI,[.val ⟨true,aG,[]⟩],[⟨false,tI,[0]⟩],false,none,
 ((fun _=>True):(cC)->Prop),
 ((fun x=>eZ x):(cC)->(Int))⟩
def bJ1:T:=hZ <| dL 1 2 aN <| iE bJ <| kK eG 243 bK aG bJ 4 <| .ret (qR 5)
theorem bJB:Con.Holds Tryz.prog aQO:=tk ⟨[],[]⟩ bJ1 (aC uW aH) fun(x:cC) hx hp=>by
 dsimp only [aQO] at hx hp⊢
 delta bJ1 rE;refine dR ?_
 simp only[Bool.not_eq_true',Bool.not_eq_false']
 refine⟨fun h=>?_,fun h=>?_⟩
 ·unfold eZ;rw[h];rfl
 ·have:=(bO x).1 h
  refine fun _=>⟨by omega,fun _=>⟨by omega,fun _=>?_⟩⟩
  unfold eZ;rw[if_pos h,aL4];rfl
def aPD:Con:=⟨120,(.cMV aG aO),.bool,[.val ⟨true,aG,[]⟩,.val ⟨false,aO,[]⟩],[⟨false,.bool,[0]⟩],false,none,
 ((fun _=>True):(cC×iC)->Prop),
 ((fun x=>pD x.1 x.2):(cC×iC)->(Bool))⟩
def bA6:T:=gH 0 (bS aG aO) 1 2 aX <| vB aL aYM <| mI 1 iK eG bF 5 <| dU 4 5 <| jY 138 aL aYM <| gB cQ 7 8 (cH 138 aL aO aYM 6 <| gH 2 (aBG 9) 10 11 aX <| cH 138 aL aO aYM 6 <| gH 2 (wK 12) 13 14 aX <| cH 138 aL aO aYM 6 <| cK (aBG 15) <| uS 3 aG aO <| dW gM iR 18 <| cH 138 aL aO aYM 6 <| cK (wK 19) <| uS 4 aG aO <| dW qJ wX 22 <| oM cQ 0 23) bD
theorem bQT:Con.Holds Tryz.prog aPD:=tk ⟨[(2988,4006,iZ 14 6++[.dr 0,.tm 5 0])],[]⟩ bA6 (aC uW (aC lV (aC nN (aC bQL (aC bJB aH))))) fun(x:cC×iC) hx hp=>by
 dsimp only [aPD] at hx hp⊢
 obtain⟨m,b⟩:=x
 have hm:b.length<=9223372036854775807:=hx.2.1
 delta bA6 rE kI lQ aWE aQO;refine dR ?_
 simp only[dzx,aEU,aEG]
 refine⟨fun h=>cC1 h,fun h1 _=>⟨fun h=>cEU (by omega),fun h2=>?_⟩⟩
 refine aC6 (fun k=>(k:Int)) (fun k=>(List.take k b).all (wR m)=true) b.length rfl rfl fun I μ k hk hG _ go=>?_
 try dsimp only
 refine dQ ?_
 intro _
 constructor
 ·intro hlt
  have hk':k<b.length:=by omega
  have e:=xC (wR m) b hk'
  rw[hG,Bool.true_and] at e
  have bad:wR m b[k]=false->false=pD m b:=fun h=>cFA (aFB hk' h)
  simp only[aP hk']
  (repeat' first|intro _|(refine go _ ?_ ?_ ?_)|(refine go _ ?_ ?_)|(with_reducible apply And.intro))
  all_goals first|omega|exact bad (bLZ (.inl (by assumption)))|exact bad (bLZ (.inr (.inl (by assumption))))|exact bad (bLZ (.inr (.inr (.inl (by assumption)))))|exact bad (bLZ (.inr (.inr (.inr (by assumption)))))|exact e.trans (cJH (by assumption) (by assumption) (by assumption) (by assumption))|rfl
 ·intro hge
  rw[List.take_of_length_le (by omega)] at hG
  exact cHN h1 ⟨by omega,by omega⟩ hG
end
theorem bKQ (d x:List Int):(aF9 d x).1.2.2.length<=36:=by
 unfold aF9
 split
 ·rename_i h
  have h1:=(dH d).1 h.1
  have h2:=(dH x).1 h.2
  show(aC3 (aGG d x) d.length).length<=36
  rw[aE5 (f:=aGG d x) (L:=x.length) (fun i=>kF _ _)]
  exact Nat.le_trans (Nat.mul_le_mul h1.2.1 h2.2.1) (by decide)
 ·exact Nat.zero_le _
theorem cAB (o:fP) (x d:List Int):(rG o x d).2.1.length<=36:=by
 unfold rG
 split
 ·exact Nat.zero_le _
 ·rename_i h
  rw[Classical.not_not] at h
  have hd:=(dH _).1 ((cS _ _).1 h.2.2).1
  split
  ·exact bKQ d x
  ·split
   ·show d.length<=36;omega
   ·split
    ·exact(by decide:1<=36)
    ·split
     ·exact bKQ d x
     ·exact Nat.zero_le _
theorem bHK (m:List fP) (r:cT) (d:List Int) (n:Nat):(k:Nat)->∀v∈(lG m r d n k).1,List.length v<=36
 | 0=>fun v hv=>by rw[List.eq_of_mem_replicate hv];exact Nat.zero_le _
 | k+1=>fun v hv=>by
  rcases List.mem_or_eq_of_mem_set hv with h|rfl
  ·exact bHK m r d n k v h
  ·exact cAB _ _ _
def GB (g:gI):Prop:=g.1.length<=8/\∀r∈g.1,List.length r<=36
theorem GB.ok {g:gI} (h:GB g):aAD g:=⟨Nat.le_trans h.1 (by decide),fun r hr=>Nat.le_trans (h.2 r hr) (by decide)⟩
theorem cIY {o:fP} (h:opB o=true):o.2.2.2.length<=36:=by
 have h1:=((lO o).1 h).1
 have h2:lJ o<=36:=by
  unfold lJ
  split
  ·omega
  ·have:=bEP (a:=o.2.1) (b:=o.2.2.1) (by omega) (by omega) (by omega) (by omega)
   split
   ·omega
   ·split
    ·omega
    ·split<;>omega
 omega
theorem cD6 (m:List fP):GB (aI7 m):=by
 unfold aI7
 split
 ·rename_i h
  have hm:=(bO m).1 h
  refine⟨by show(rP m).length<=8;rw[aBC];omega,fun r hr=>?_⟩
  obtain⟨o,ho,rfl⟩:=List.mem_map.1 (show r∈m.map fun o=>List.replicate o.2.2.2.length 0 from hr)
  obtain⟨i,hi,rfl⟩:=List.getElem_of_mem ho
  rw[List.length_replicate]
  exact cIY ((vO m hi).1 (hm.2.2 i hi)).1
 ·exact⟨Nat.zero_le _,fun r hr=>by cases hr⟩
noncomputable section
set_option maxRecDepth 100000
def pB (P:Prop):Bool:=@decide P (Classical.propDecidable P)
theorem kW {P:Prop}:pB P=true↔P:=by unfold pB;rw[@decide_eq_true_eq]
theorem cLR {P:Prop}:pB P=false↔¬P:=⟨fun h hp=>(by rw[kW.2 hp] at h;cases h),fun h=>Bool.eq_false_iff.2 fun h2=>h (kW.1 h2)⟩
theorem pF {P:Prop} (h:¬P):false=pB P:=(cLR.2 h).symm
theorem pT {P:Prop} (h:P):true=pB P:=(kW.2 h).symm
theorem cJ7 {k n:Nat}:((k:Int)==(n:Int) - 1)=decide (k+1=n):=by rw[Bool.eq_iff_iff,beq_iff_eq,decide_eq_true_eq];omega
theorem cEG {x y:Bool}:aES .bool x y=true↔x=y:=by cases x<;>cases y<;>simp[aES]
theorem cBR {x y:Bool}:aES .bool x y=false↔¬x=y:=by cases x<;>cases y<;>simp[aES]
def aNE (x:cP):Bool:=tQ x.2&&decide (0<=x.1/\x.1<5)
theorem oR (x:cP):aNE x=true↔tQ x.2=true/\0<=x.1/\x.1<5:=by unfold aNE;rw[Bool.and_eq_true,decide_eq_true_eq]
def mR (q:bE):Bool:=pB ((1<=q.1/\q.1<=5/\(q.2.length:Int)<=q.1)/\∀i,i<q.2.length->aNE (q.2.getD i (aK aM))=true)
theorem aHO {P:Nat->Prop} {k:Nat} (h:∀i,i<k->P i) (h2:P k):∀i,i<k+1->P i:=fun i hi=>by
 rcases Nat.lt_or_eq_of_le (Nat.le_of_lt_succ hi) with h'|rfl
 ·exact h i h'
 ·exact h2
def aRB (p:aW) (i:Nat):Prop:=gY (p.2.1.getD i (aK aB))=true/\(p.2.1.getD i (aK aB)).2.2.2.1=decide (i+1=p.2.1.length) /\
 ∀k,k<(p.2.1.getD i (aK aB)).2.1.length->0<=((p.2.1.getD i (aK aB)).2.1.getD k (aK aU)).2/\((p.2.1.getD i (aK aB)).2.1.getD k (aK aU)).2<(p.1.length:Int)
def cL3 (p:aW):Prop:=(1<=p.2.1.length/\p.2.1.length<=4/\p.2.2.1.length+1=p.2.1.length/\p.2.2.2.length+1=p.2.1.length/\1<=p.1.length/\p.1.length<=5) /\
 (∀i,i<p.1.length->tQ (p.1.getD i (aK aL)).1=true/\tQ (p.1.getD i (aK aL)).2=true) /\
 (∀i,i<p.2.2.1.length->mR (p.2.2.1.getD i (aK aD))=true/\mR (p.2.2.2.getD i (aK aD))=true)/\∀i,i<p.2.1.length->aRB p i
def nQ (p:aW):Bool:=pB (cL3 p)
def aL0:Con:=⟨279,aM,.bool,[.val ⟨true,aM,[]⟩],[⟨false,.bool,[0]⟩],false,none,
 ((fun _=>True):(cP)->Prop),
 ((fun x=>aNE x):(cP)->(Bool))⟩
def bI0:T:=nC (iA 0) <| jL 1 (rX .geq (kV 0) aN 2 (xA tI tI (kV 0) aCV <| cF 3) aX) aX
theorem bFD:Con.Holds Tryz.prog aL0:=tk ⟨[],[]⟩ bI0 (aC aCP aH) fun(x:cP) hx hp=>by
 dsimp only [aL0] at hx hp⊢
 delta bI0 yH;refine dR ?_
 (refine dQ ?_;try with_reducible exact True.intro)
 (repeat' first|intro _|(with_reducible apply And.intro))
 all_goals first|(first|(refine(Bool.eq_false_iff.2 ?_).symm;rw[ne_eq,oR];intro hh;omega)|(refine(oR.2 ?_).symm;omega))|(rw[Bool.eq_iff_iff,oR,decide_eq_true_eq];exact⟨fun h=>⟨by assumption,by omega,h⟩,fun h=>h.2.2⟩)|(refine(Bool.eq_false_iff.2 fun h=>?_).symm;rw[oR] at h;simp_all)
def aE4:Con:=⟨188,aD,.bool,[.val ⟨true,aD,[]⟩],[⟨false,.bool,[0]⟩],false,none,
 ((fun _=>True):(bE)->Prop),
 ((fun x=>mR x):(bE)->(Bool))⟩
def bAG:T:=qY (cB bQ 0) bF 1 aX <| lN (cB bQ 0) aCV 2 aX <| pS aM tY <| lN eG (cB bQ 0) 4 aX <| pS aM tY <| zY aN <| gB cQ 5 7 (cH 249 aM bQ tY 6 <| nU 8 <| tL 9 10 cQ 0 cO) bD
theorem aP8:Con.Holds Tryz.prog aE4:=tk ⟨[(2988,8006,iZ 21 5++[.dr 1,.dr 0,.tm 24 0])],[]⟩ bAG (aC bFD aH) fun(x:bE) hx hp=>by
 dsimp only [aE4] at hx hp⊢
 have hm:List.length x.2<=9223372036854775807:=hx.2.1
 delta bAG aL0;refine dR ?_
 (refine dQ ?_;try with_reducible exact True.intro)
 (repeat' first|intro _|(with_reducible apply And.intro))
 all_goals first|omega|(exact pF fun h=>by have:=h.1;omega)|skip
 refine⟨fun s=>∃k:Nat,k<=x.2.length/\s=(k:Int)/\∀i,i<k->aNE (x.2.getD i (aK aM))=true,fun s=>x.2.length - (s:Int).toNat,⟨0,by omega,rfl,by omega⟩,fun s _ hI=>?_⟩
 obtain⟨k,hk,rfl,ha⟩:=hI
 refine dQ ?_
 constructor
 ·intro hlt
  (repeat' first|intro _|(with_reducible apply And.intro))
  all_goals first|omega|(exact pF fun h=>by have:=h.2 k (by omega);simp_all)|(exact⟨k+1,by omega,rfl,aHO ha (by assumption)⟩)
 ·intro hge
  exact pT ⟨⟨by omega,by omega,by omega⟩,fun i hi=>ha i (by omega)⟩
def aDZ:Con:=⟨106,aD,.bool,[.val ⟨true,aD,[]⟩],[⟨false,.bool,[0]⟩],false,none,
 ((fun _=>True):(bE)->Prop),
 ((fun x=>mR x):(bE)->(Bool))⟩
def bAJ:T:=jY 249 aM tY <| cX aZ 2 3 (cH 249 aM bQ tY 1 <| gH 0 (iA 4) 5 6 aX <| cH 249 aM bQ tY 1 <| mI 1 iK (kV 7) aN 4 <| tL 8 9 aZ 0 cI) <| mI 1 iK (cB bQ 0) bF 5 <| jL 4 (pS aM tY <| sS .leq fF (cB bQ 0) <| cF 6) aX
theorem aOC:Con.Holds Tryz.prog aDZ:=tk ⟨[(2993,1001,[.dr 0,.tm 3 0])],[]⟩ bAJ (aC nN (aC lV aH)) fun(x:bE) hx hp=>by
 dsimp only [aDZ] at hx hp⊢
 have hm:List.length x.2<=9223372036854775807:=hx.2.1
 delta bAJ lQ kI;refine dR ?_
 refine⟨fun s=>∃k:Nat,k<=x.2.length/\s=(k:Int)/\∀i,i<k->aNE (x.2.getD i (aK aM))=true,fun s=>x.2.length - (s:Int).toNat,⟨0,by omega,rfl,by omega⟩,fun s _ hI=>?_⟩
 obtain⟨k,hk,rfl,ha⟩:=hI
 refine dQ ?_
 intro _
 have hi:=oR (x.2.getD k (aK aM))
 constructor
 ·intro hlt
  (repeat' first|intro _|(with_reducible apply And.intro))
  all_goals first|omega|(exact pF fun h=>by have h5:=hi.1 (h.2 k (by omega));first|omega|simp_all)|(exact⟨k+1,by omega,rfl,aHO ha (hi.2 ⟨by assumption,by omega,by omega⟩)⟩)
 ·intro hge
  (repeat' first|intro _|(with_reducible apply And.intro))
  all_goals first|(exact pF fun h=>by have:=h.1;omega)|(unfold mR;rw[Bool.eq_iff_iff,kW,decide_eq_true_eq];exact⟨fun h=>⟨⟨by omega,by omega,h⟩,fun i hi=>ha i (by omega)⟩,fun h=>h.1.2.2⟩)
def aGQ:Con:=⟨94,aE,.bool,[.val ⟨true,aE,[]⟩],[⟨false,.bool,[0]⟩],false,none,
 ((fun _=>True):(aW)->Prop),
 ((fun x=>nQ x):(aW)->(Bool))⟩
def bHT:T:=tN aB wB <| qY aZ bF 2 aX <| lN aZ aMI 3 aX <| gL 147 aD (aBU 0) <| lL aZ <| dW dY fF 6 <| gL 147 aD (jD 3 0) <| lL aZ <| dW cY cM 9 <| vB aL (bS aO eD) <| qY cI bF 11 aX <| vB aL (bS aO eD) <| lN fE aCV 13 aX <| vB aL (bS aO eD) <| zY aN <| cX fC 14 16 (cH 138 aL aO (bS aO eD) 15 <| gH 0 (aBG 17) 18 19 aX <| gH 0 (wK 17) 20 21 aX <| uZ fC 0 qS) <| gL 147 aD (aBU 0) <| zY aN <| cX nJ 17 19 (cH 147 aD aI (aBU 0) 18 <| cD 1 20 <| dU 21 22 <| cH 147 aD aI (jD 3 0) 18 <| cD 1 23 <| dU 24 25 <| oM nJ 0 26) <| tN aB wB <| zY aN <| gB wX 20 22 (cH 142 aB bV wB 21 <| cD 2 23 <| dU 24 25 <| lL aZ <| sS .eql wX tJ <| eF (aMO true) .bool .bool (bN 3 23) 27 <| sY 28 aX <| wA aU (bN 1 23) <| zY aN <| cX (.Z 30) 29 31 (cH 159 aU bI (bN 1 23) 30 <| aEH (aAJ 32) 33 aX <| vB aL (bS aO eD) <| aBJ .geq (aAJ 32) aLC 35 aX <| oM (.Z 30) 0 36) <| oM wX 1 32) bD
theorem aST:Con.Holds Tryz.prog aGQ:=tk ⟨[(2981,64015,iZ 46 11++[.dr 0,.tm 49 0]),(2971,128018,[.dr 65,.dr 64]++iZ 50 47++[.tm 67 0]),(2961,256021,[.dr 87]++iZ 68 66++[.tm 90 0]),(2943,2304030,[.tm 110 0])],[]⟩ bHT (aC aCP (aC aP8 (aC aEC aH))) fun(x:aW) hx hp=>by
 dsimp only [aGQ] at hx hp⊢
 obtain⟨batch,stages,acts,backs⟩:=x
 have As:batch.length<=9223372036854775807:=hx.1.1
 have hm2:stages.length<=9223372036854775807:=hx.2.1.1
 have L1:acts.length<=9223372036854775807:=hx.2.2.1.1
 have Hx:∀k,k<stages.length->(stages.getD k (aK aB)).2.1.length<=9223372036854775807:=fun k hk=>by rw[aP hk];exact(hx.2.1.2 _ (List.getElem_mem hk)).2.1.1
 delta bHT yH aE4 xG;refine dR ?_
 (refine dQ ?_;try with_reducible exact True.intro)
 (repeat' first|intro _|(with_reducible apply And.intro))
 all_goals first|omega|(exact pF fun h=>by have:=h.1;dsimp only at this;omega)|skip
 refine⟨fun s=>∃k:Nat,k<=batch.length/\s=(k:Int)/\∀i,i<k->tQ (batch.getD i (aK aL)).1=true/\tQ (batch.getD i (aK aL)).2=true,fun s=>batch.length - (s:Int).toNat,⟨0,by omega,rfl,by omega⟩,fun s _ hI=>?_⟩
 obtain⟨k,hk,rfl,ha⟩:=hI
 refine dQ ?_
 constructor
 ·intro hlt
  (repeat' first|intro _|(with_reducible apply And.intro))
  all_goals first|omega|(exact pF fun h=>by have:=h.2.1 k (by dsimp only;omega);dsimp only at this;simp_all)|(exact⟨k+1,by omega,rfl,aHO ha ⟨by assumption,by assumption⟩⟩)
 intro hge _
 have hb:∀i,i<batch.length->tQ (batch.getD i (aK aL)).1=true/\tQ (batch.getD i (aK aL)).2=true:=fun i hi=>ha i (by omega)
 clear ha
 refine⟨fun s=>∃k:Nat,k<=acts.length/\s=(k:Int)/\∀i,i<k->mR (acts.getD i (aK aD))=true/\mR (backs.getD i (aK aD))=true,fun s=>acts.length - (s:Int).toNat,⟨0,by omega,rfl,by omega⟩,fun s _ hI=>?_⟩
 obtain⟨k2,hk2,rfl,ha⟩:=hI
 refine dQ ?_
 constructor
 ·intro hlt
  (repeat' first|intro _|(with_reducible apply And.intro))
  all_goals first|omega|(exact pF fun h=>by have:=h.2.2.1 k2 (by dsimp only;omega);dsimp only at this;simp_all)|(exact⟨k2+1,by omega,rfl,aHO ha ⟨by assumption,by assumption⟩⟩)
 intro Fj _
 have hq:∀i,i<acts.length->mR (acts.getD i (aK aD))=true/\mR (backs.getD i (aK aD))=true:=fun i hi=>ha i (by omega)
 clear ha
 refine⟨fun s=>∃k:Nat,k<=stages.length/\s=(k:Int)/\∀i,i<k->aRB (batch,stages,acts,backs) i,fun s=>stages.length - (s:Int).toNat,⟨0,by omega,rfl,by omega⟩,fun s _ hI=>?_⟩
 obtain⟨k3,hk3,rfl,ha⟩:=hI
 simp only[dzx,cJ7,cEG,cBR]
 have J2:=Hx k3
 constructor
 ·intro hlt
  have bad:¬aRB (batch,stages,acts,backs) k3->false=nQ (batch,stages,acts,backs):=fun h=>pF fun hh=>h (hh.2.2.2 k3 (by dsimp only;omega))
  (repeat' first|intro _|(with_reducible apply And.intro))
  all_goals first|omega|(exact bad fun h=>absurd h.2.1 (by assumption))|(exact bad fun h=>Bool.noConfusion (h.1.symm.trans (by assumption:_=false)))|skip
  refine⟨fun s=>∃k:Nat,k<=(stages.getD k3 (aK aB)).2.1.length/\s=(k:Int)/\∀i,i<k->0<=((stages.getD k3 (aK aB)).2.1.getD i (aK aU)).2/\((stages.getD k3 (aK aB)).2.1.getD i (aK aU)).2<(batch.length:Int),fun s=>(stages.getD k3 (aK aB)).2.1.length - (s:Int).toNat,⟨0,by omega,rfl,by omega⟩,fun s _ hI=>?_⟩
  obtain⟨k4,hk4,rfl,hc⟩:=hI
  (refine dQ ?_;try with_reducible exact True.intro)
  (repeat' first|intro _|(with_reducible apply And.intro))
  all_goals first|omega|(exact bad fun h=>by have h5:=h.2.2 k4 (by dsimp only;omega);dsimp only at h5;omega)|(exact⟨k4+1,by omega,rfl,aHO hc ⟨by omega,by omega⟩⟩)|(exact⟨k3+1,by omega,rfl,aHO ha ⟨by assumption,by assumption,fun i hi=>hc i (by dsimp only at hi;omega)⟩⟩)
 ·intro Ec
  exact pT ⟨⟨by dsimp only;omega,by dsimp only;omega,by dsimp only;omega,by dsimp only;omega,by dsimp only;omega,by dsimp only;omega⟩,hb,hq,fun i hi=>ha i (by dsimp only at hi;omega)⟩
def aD1:Con:=⟨24,aE,.bool,[.val ⟨true,aE,[]⟩],[⟨false,.bool,[0]⟩],false,none,
 ((fun _=>True):(aW)->Prop),
 ((fun x=>nQ x):(aW)->(Bool))⟩
def bEL:T:=tN aB wB <| mI 0 iK aZ bF 4 <| dU 2 3 <| gL 147 aD (aBU 0) <| lL aZ <| dW dY fF 6 <| gL 147 aD (jD 3 0) <| lL aZ <| dW cY cM 9 <| vB aL (bS aO eD) <| mI 0 iK cI bF 5 <| dU 11 12 <| zY aN <| cX eM 1 14 (cH 142 aB bV wB 13 <| cD 1 15 <| dU 16 17 <| lL aZ <| sS .eql eM nJ <| eF (aMO true) .bool .bool (bN 3 15) 19 <| sY 20 aX <| jY 159 aU (bN 1 15) <| cX wX 22 23 (cH 159 aU bI (bN 1 15) 21 <| vB aL (bS aO eD) <| lL (.Z 25) <| gQ 0 iK (kM (aAJ 24) aN 26) <| dU 27 28 <| oM wX 0 29) <| vH .gtr eM aN 24 (kK eM 147 aD aI (aBU 0) 25 <| cD 2 26 <| dU 27 28 <| kK eM 147 aD aI (jD 3 0) 29 <| cD 2 30 <| dU 31 32 <| oM eM 1 33) <| oM eM 1 25) <| jY 138 aL (bS aO eD) <| gB fC 16 17 (cH 138 aL aO (bS aO eD) 15 <| gH 3 (aBG 18) 19 20 aX <| cH 138 aL aO (bS aO eD) 15 <| gH 3 (wK 21) 22 23 aX <| oM fC 0 24) bD
theorem aL1:Con.Holds Tryz.prog aD1:=tk ⟨[(2986,16013,iZ 36 8++[.dr 0,.tm 4 0]),(2967,144021,[.tm 6 0]),(2976,32015,iZ 39 37++[.dr 4,.dr 3,.tm 7 0])],[]⟩ bEL (aC lV (aC aDU (aC aOC (aC nN aH)))) fun(x:aW) hx hp=>by
 dsimp only [aD1] at hx hp⊢
 obtain⟨batch,stages,acts,backs⟩:=x
 have As:batch.length<=9223372036854775807:=hx.1.1
 have hm2:stages.length<=9223372036854775807:=hx.2.1.1
 have L1:acts.length<=9223372036854775807:=hx.2.2.1.1
 have Hx:∀k,k<stages.length->(stages.getD k (aK aB)).2.1.length<=9223372036854775807:=fun k hk=>by rw[aP hk];exact(hx.2.1.2 _ (List.getElem_mem hk)).2.1.1
 delta bEL kI wY aDZ lQ;refine dR ?_
 (refine dQ ?_;try with_reducible exact True.intro)
 (repeat' first|intro _|(with_reducible apply And.intro))
 all_goals first|omega|(exact pF fun h=>by have:=h.1;dsimp only at this;omega)|skip
 refine⟨fun s=>∃k:Nat,k<=stages.length/\s=(k:Int)/\∀i,i<k->aRB (batch,stages,acts,backs) i/\(0<i->mR (acts.getD (i - 1) (aK aD))=true/\mR (backs.getD (i - 1) (aK aD))=true),fun s=>stages.length - (s:Int).toNat,⟨0,by omega,rfl,by omega⟩,fun s _ hI=>?_⟩
 obtain⟨k3,hk3,rfl,ha⟩:=hI
 simp only[dzx,cJ7,cEG,cBR]
 have J2:=Hx k3
 constructor
 ·intro hlt
  have bad:¬aRB (batch,stages,acts,backs) k3->false=nQ (batch,stages,acts,backs):=fun h=>pF fun hh=>h (hh.2.2.2 k3 (by dsimp only;omega))
  have bad2:0<k3->¬(mR (acts.getD (k3 - 1) (aK aD))=true/\mR (backs.getD (k3 - 1) (aK aD))=true)->false=nQ (batch,stages,acts,backs):=fun h0 h=>pF fun hh=>h (hh.2.2.1 (k3 - 1) (by have:=hh.1;dsimp only at this⊢;omega))
  (repeat' first|intro _|(with_reducible apply And.intro))
  all_goals first|omega|(exact bad fun h=>absurd h.2.1 (by assumption))|(exact bad fun h=>Bool.noConfusion (h.1.symm.trans (by assumption:_=false)))|skip
  refine⟨fun s=>∃k:Nat,k<=(stages.getD k3 (aK aB)).2.1.length/\s=(k:Int)/\∀i,i<k->0<=((stages.getD k3 (aK aB)).2.1.getD i (aK aU)).2/\((stages.getD k3 (aK aB)).2.1.getD i (aK aU)).2<(batch.length:Int),fun s=>(stages.getD k3 (aK aB)).2.1.length - (s:Int).toNat,⟨0,by omega,rfl,by omega⟩,fun s _ hI=>?_⟩
  obtain⟨k4,hk4,rfl,hc⟩:=hI
  (refine dQ ?_;try with_reducible exact True.intro)
  (repeat' first|intro _|(with_reducible apply And.intro))
  all_goals first|omega|(exact bad fun h=>by have h5:=h.2.2 k4 (by dsimp only;omega);dsimp only at h5;omega)|(exact⟨k4+1,by omega,rfl,aHO hc ⟨by omega,by omega⟩⟩)|(exact bad2 (by omega) fun h=>by simp_all;done)|(exact⟨k3+1,by omega,rfl,aHO ha ⟨⟨by assumption,by assumption,fun i hi=>hc i (by dsimp only at hi;omega)⟩,fun _=>⟨by first|assumption|omega,by first|assumption|omega⟩⟩⟩)
 intro Ec
 have hs:∀i,i<stages.length->aRB (batch,stages,acts,backs) i:=fun i hi=>(ha i (by omega)).1
 have hq:∀i,i<acts.length->mR (acts.getD i (aK aD))=true/\mR (backs.getD i (aK aD))=true:=fun i hi=>(ha (i+1) (by omega)).2 (by omega)
 clear ha
 refine⟨fun s=>∃k:Nat,k<=batch.length/\s=(k:Int)/\∀i,i<k->tQ (batch.getD i (aK aL)).1=true/\tQ (batch.getD i (aK aL)).2=true,fun s=>batch.length - (s:Int).toNat,⟨0,by omega,rfl,by omega⟩,fun s _ hI=>?_⟩
 obtain⟨k,hk,rfl,ha⟩:=hI
 refine dQ ?_
 intro _
 constructor
 ·intro hlt
  (repeat' first|intro _|(with_reducible apply And.intro))
  all_goals first|omega|(exact pF fun h=>by have:=h.2.1 k (by dsimp only;omega);dsimp only at this;simp_all)|(exact⟨k+1,by omega,rfl,aHO ha ⟨by assumption,by assumption⟩⟩)
 intro hge
 exact pT ⟨⟨by dsimp only;omega,by dsimp only;omega,by dsimp only;omega,by dsimp only;omega,by dsimp only;omega,by dsimp only;omega⟩,fun i hi=>ha i (by dsimp only at hi;omega),hq,hs⟩
end
end Go.Proofs.YtfmfeplebgbpmaaGreat
