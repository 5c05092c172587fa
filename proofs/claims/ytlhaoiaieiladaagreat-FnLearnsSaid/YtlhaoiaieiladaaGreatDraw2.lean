/- Draw2: lemmas. No conditions. -/
import Derived.Test.YtlhaoiaieiladaaGreatLin2
namespace Go.Proofs.YtlhaoiaieiladaaGreat
open Go.ChangeShapes Go.WideShapes Go.ChangeAt Go.RowKit Go.Deep
set_option linter.unusedVariables false
set_option linter.unusedSimpArgs false
noncomputable section
set_option maxRecDepth 100000
abbrev aK2:=Int × (Int × List Int)
def aNB (m:aK2):Bool:=decide (1<=m.1/\m.1<=6/\1<=m.2.1/\m.2.1<=6/\(m.2.2.length:Int)=m.1 * m.2.1)&&m.2.2.all mK
theorem vP (m:aK2):aNB m=true↔(1<=m.1/\m.1<=6/\1<=m.2.1/\m.2.1<=6/\(m.2.2.length:Int)=m.1 * m.2.1)/\m.2.2.all mK=true:=by unfold aNB;simp only[Bool.and_eq_true,decide_eq_true_eq]
def aNW (m:aK2) (i:Nat):List Int:=(m.2.2.take ((i+1) * m.2.1.toNat)).drop (i * m.2.1.toNat)
def aFG (m:aK2) (k:Nat):List Int:=mp m.1.toNat fun i=>m.2.2.getD (i * m.2.1.toNat+k) 0
def tQ (m:aK2) (x:List Int):List Int × Bool:=if aNB m=true/\dJ x m.2.1=true then (mp m.1.toNat fun r=>(nW (aNW m r) x).1,an m.1.toNat fun r=>(nW (aNW m r) x).2) else ([],false)
def pQ (m:aK2) (d:List Int):List Int × Bool:=if aNB m=true/\dJ d m.1=true then (mp m.2.1.toNat fun k=>(nW (aFG m k) d).1,an m.2.1.toNat fun k=>(nW (aFG m k) d).2) else ([],false)
def cC4:aK2:=(0,0,[])
def zZ (f:Nat->List Int):Nat->List Int
 | 0=>[]
 | n+1=>zZ f n++f n
def aEN (m:aK2):aK2:=if aNB m=true then (m.2.1,m.1,zZ (aFG m) m.2.1.toNat) else cC4
def aDS (d x:List Int) (i:Nat):List Int:=mp x.length fun j=>(gO (d.getD i 0) (x.getD j 0)).1
def aY4 (d x:List Int) (i:Nat):Bool:=an x.length fun j=>(gO (d.getD i 0) (x.getD j 0)).2
def aC7 (d x:List Int):aK2 × Bool:=if sV d=true/\sV x=true then (((d.length:Int),(x.length:Int),zZ (aDS d x) d.length),an d.length (aY4 d x)) else (cC4,false)
def aFT (o:dU):aK2:=(o.2.2.1,o.2.1,o.2.2.2)
def sX (o:dU) (x:List Int):List Int × Bool:=if ¬ (opB o=true/\dJ x o.2.1=true) then ([],false) else
 if o.1=1 then tQ (aFT o) x else if o.1=2 then qE gI x o.2.2.2 else if o.1=4 then aED (o.2.2.2.getD 0 0) x else
 if o.1=5 then ((qE gI x (tQ (aFT o) x).1).1,(tQ (aFT o) x).2 || (qE gI x (tQ (aFT o) x).1).2) else (aB4 x,false)
def lR (o:dU) (x d:List Int):List Int × (List Int × Bool):=if ¬ (opB o=true/\dJ x o.2.1=true/\dJ d o.2.2.1=true) then ([],[],false) else
 if o.1=1 then ((pQ (aFT o) d).1,(aC7 d x).1.2.2,(pQ (aFT o) d).2 || (aC7 d x).2) else
 if o.1=2 then (d,d,false) else
 if o.1=4 then ((aED (o.2.2.2.getD 0 0) d).1,[(nW d x).1],(aED (o.2.2.2.getD 0 0) d).2 || (nW d x).2) else
 if o.1=5 then ((qE gI d (pQ (aFT o) d).1).1,(aC7 d x).1.2.2,(pQ (aFT o) d).2 || (qE gI d (pQ (aFT o) d).1).2 || (aC7 d x).2) else
 (aB1 x d,[],false)
theorem wQ {m:aK2} (h:aNB m=true):∃ (R C:Nat) (data:List Int),m=((R:Int),(C:Int),data)/\1<=R/\R<=6/\1<=C/\C<=6/\data.length=R * C/\R * C<=36/\data.all mK=true:=by
 obtain ⟨a,b,data⟩:=m
 obtain ⟨⟨h1,h2,h3,h4,h5⟩,h6⟩:=(vP _).1 h
 dsimp only at h1 h2 h3 h4 h5 h6
 refine ⟨a.toNat,b.toNat,data,?_,by omega,by omega,by omega,by omega,?_,Nat.le_trans (Nat.mul_le_mul (show a.toNat<=6 by omega) (show b.toNat<=6 by omega)) (by decide),h6⟩
 ·rw[Int.toNat_of_nonneg (by omega),Int.toNat_of_nonneg (by omega)]
 ·have:((a.toNat * b.toNat:Nat):Int)=a * b:=by rw[Int.natCast_mul,Int.toNat_of_nonneg (by omega),Int.toNat_of_nonneg (by omega)]
  omega
theorem aT9 {R C k:Nat} (h:k<R):k * C+C<=R * C:=by
 have:=Nat.mul_le_mul_right C (show k+1<=R from h)
 rwa [Nat.succ_mul] at this
theorem bB8 (R C k p:Nat) (data:List Int) (e:p=k * C):aNW ((R:Int),(C:Int),data) k=(data.take (p+C)).drop p:=by
 unfold aNW;simp only[Int.toNat_natCast,Nat.succ_mul,<- e]
theorem aBJ {f:Nat->List Int} {L:Nat} (h:∀ i,(f i).length=L):(n:Nat)->(zZ f n).length=n * L
 | 0=>by simp[zZ]
 | n+1=>by rw[zZ,List.length_append,aBJ h n,h,Nat.succ_mul]
theorem aWR {f:Nat->List Int} {L:Nat} (h:∀ i,(f i).length=L) {k:Nat}:(n:Nat)->k<n->((zZ f n).take (k * L+L)).drop (k * L)=f k
 | 0,hk=>by omega
 | n+1,hk=>by
  have hl:=aBJ h n
  rcases Nat.lt_or_eq_of_le (Nat.le_of_lt_succ hk) with h'|rfl
  ·have h1:=aT9 (C:=L) h'
   rw[zZ,List.take_append_of_le_length (by omega)]
   exact aWR h n h'
  ·rw[zZ,List.take_of_length_le (by rw[List.length_append,hl,h];exact Nat.le_refl _),List.drop_append_of_le_length (by omega),List.drop_of_length_le (by omega),List.nil_append]
theorem bCZ (m:aK2) (k:Nat):(aFG m k).length=m.1.toNat:=eX _ _
theorem bK3 {f:Nat->List Int} {x:Int}:(n:Nat)->x∈zZ f n->∃ k,k<n/\x∈f k
 | 0,h=>by simp[zZ] at h
 | n+1,h=>by
  rw[zZ,List.mem_append] at h
  rcases h with h|h
  ·obtain ⟨k,h1,h2⟩:=bK3 n h;exact ⟨k,by omega,h2⟩
  ·exact ⟨n,by omega,h⟩
theorem bSA {m:aK2} (h:aNB m=true):aNB (aEN m)=true/\∀ k,k<m.2.1.toNat->aNW (aEN m) k=aFG m k:=by
 obtain ⟨R,C,data,rfl,h1,h2,h3,h4,h5,h6,h7⟩:=wQ h
 have e:aEN ((R:Int),(C:Int),data)=((C:Int),(R:Int),zZ (aFG ((R:Int),(C:Int),data)) C):=if_pos h
 have hl:∀ i,(aFG ((R:Int),(C:Int),data) i).length=R:=fun i=>bCZ _ _
 constructor
 ·rw[e,vP]
  refine ⟨⟨?_,?_,?_,?_,?_⟩,?_⟩
  ·dsimp only;omega
  ·dsimp only;omega
  ·dsimp only;omega
  ·dsimp only;omega
  ·dsimp only;rw[aBJ hl,Int.natCast_mul]
  ·rw[List.all_eq_true]
   intro x hx
   obtain ⟨k,hk,hx⟩:=bK3 _ hx
   unfold aFG mp at hx
   rw[List.mem_map] at hx
   obtain ⟨i,hi,rfl⟩:=hx
   rw[List.mem_range] at hi
   dsimp only [Int.toNat_natCast] at hi ⊢
   have hb:=aT9 (C:=C) hi
   rw[aO (show i * C+k<data.length by omega)]
   exact (List.all_eq_true.1 h7) _ (List.getElem_mem _)
 ·intro k hk
  rw[e,bB8 C R k (k * R) _ rfl]
  exact aWR hl C hk
theorem bYO {m:aK2} {d:List Int} (h:aNB m=true) (h2:dJ d m.1=true):tQ (aEN m) d=pQ m d:=by
 obtain ⟨t1,t2⟩:=bSA h
 have e1:(aEN m).2.1=m.1:=by unfold aEN;rw[if_pos h]
 have e2:(aEN m).1=m.2.1:=by unfold aEN;rw[if_pos h]
 unfold tQ pQ
 rw[if_pos ⟨t1,by rw[e1];exact h2⟩,if_pos ⟨h,h2⟩,e2]
 exact Prod.ext (bOZ fun i hi=>by rw[t2 i hi]) (bYR fun i hi=>by rw[t2 i hi])
theorem aW4 {o:dU} (h:opB o=true) (h4:o.1=4):o.2.2.2.length=1:=by
 have:=((lQ o).1 h).1
 have e:=bAO (o:=o) (by omega)
 omega
def aGX:Con:=⟨231,rW,.bool,[.val ⟨true,rW,[]⟩],[⟨false,.bool,[0]⟩],false,none,
 ((fun _=>True):(Int × fF)->Prop),
 ((fun x=>aNB x):(Int × fF)->(Bool))⟩
def bCV:T:=iS bM (bO bF 0) 1 <| eQ 1 <| dY (bO bF 0) 6 <| eQ 2 <| iS bM (cQ bL 0) 1 <| eQ 3 <| dY (cQ bL 0) 6 <| eQ 4 <| cN (fQ bF 2 0) <| bX qR (bO bF 0) (cQ bL 0) <| kC vU 5 6 <| gV 7 <| lC (fQ bF 2 0) <| cM 8
theorem aSF:Con.Holds Tryz.prog aGX:=tk ⟨[],[]⟩ bCV (aD aOW aL) fun (x:Int × fF) hx hp=>by
 dsimp only [aGX] at hx hp ⊢
 delta bCV aDB;refine gH ?_
 (refine iC ?_;try with_reducible exact True.intro)
 (repeat' first|intro _|(with_reducible apply And.intro))
 all_goals first|(first|(refine (Bool.eq_false_iff.2 ?_).symm;rw[ne_eq,vP];intro hh;omega)|(refine (vP.2 ?_).symm;omega))|(have:=bCH (a:=x.1) (b:=x.2.1) (by omega) (by omega) (by omega) (by omega);omega)|(rw[Bool.eq_iff_iff,vP];exact ⟨fun h=>⟨⟨by omega,by omega,by omega,by omega,by assumption⟩,h⟩,fun h=>h.2⟩)
def aHX:Con:=⟨214,(.cD0 rW aA),yP,[.val ⟨true,rW,[]⟩,.val ⟨false,aA,[]⟩],[⟨false,aA,[2]⟩,⟨false,.bool,[0]⟩],false,none,
 ((fun _=>True):((Int × fF) × cK)->Prop),
 ((fun x=>tQ x.1 x.2):((Int × fF) × cK)->(cK × Bool))⟩
def aYD:T:=nD 0 (tX bL) 1 2 aA aT <| nD 1 (qO aA (gK bL aA 1) (fK bL 1 bL aA)) 3 4 aA aT <| .loop cB (cO cB aM cL aT) <| bX bM (jX aA 5) (iM tI bF bL aA 0) <| fY 6 (bX qR (jX aA 5) (fK bL 1 bL aA) <| iS cC (jX aA 5) 1 <| bX qR gP (fK bL 1 bL aA) <| aGP 3 tI aA (kG bL 2 bL aA) lN 9 <| nV 2 (.cD2 aA aA gN (gK bL aA 1)) 3 tI (cS 11) <| kB 3 8 aA aA (lU 5) 12 <| sJ cB 5 (gZ aA 5 1 0 cB (eE gW bK 13)) <| gZ aA 5 1 0 cB (eE gW (kP tI 1 11) 13)) (sI aA (lU 5) cB 5)
theorem aYY:Con.Holds Tryz.prog aHX:=tk ⟨[(2984,4005,oS 21 11++[.dr 0,.tm 8 0,.tm 7 0,.on 6,.sl 2])],[]⟩ aYD (aD aSF (aD rY (aD aOO aL))) fun (x:(Int × fF) × cK) hx hp=>by
 dsimp only [aHX] at hx hp ⊢
 obtain ⟨m,v⟩:=x
 delta aYD aGX qC aDD;refine gH ?_
 simp only[Bool.not_eq_true',Bool.not_eq_false']
 refine ⟨fun h=>?_,fun h1=>⟨fun h=>?_,fun h2=>?_⟩⟩
 ·unfold tQ;rw[if_neg (by rw[h];simp)]
 ·unfold tQ;rw[if_neg (by rw[h];simp)]
 rw[show tQ m v=_ from if_pos ⟨h1,h2⟩]
 obtain ⟨R,C,data,rfl,g1,g2,g3,g4,g5,g6,g7⟩:=wQ h1
 refine fN (fun k=>((k:Int),an k (fun r=>(nW (aNW ((R:Int),(C:Int),data) r) v).2),mp k fun r=>(nW (aNW ((R:Int),(C:Int),data) r) v).1)) R rfl fun I μ k hk _ go=>?_
 dsimp only
 obtain ⟨p,e0⟩:∃ p,p=k * C:=⟨_,rfl⟩
 have e1:(k:Int) * (C:Int)=(p:Int):=by rw[e0];exact (Int.natCast_mul k C).symm
 have e2:((k:Int)+1) * (C:Int)=((p+C:Nat):Int):=by rw[Int.add_mul,e1,Int.one_mul];rfl
 have e4:k<R->p+C<=data.length:=fun h=>by rw[e0,g5];exact aT9 h
 simp only[e1,e2,wC,eX,<- bB8 R C k p data e0]
 (repeat' first|intro _|(refine go _ ?_ ?_ ?_)|(refine go _ ?_ ?_)|(with_reducible apply And.intro))
 all_goals first|omega|(unfold maxLen;omega)|(rw[lE,rF];first|exact Prod.ext rfl (Prod.ext (qW (by assumption)) rfl)|exact Prod.ext rfl (Prod.ext (wW (by assumption)) rfl))|(have e:k=R:=(by omega);subst e;rfl)
def aFX:Con:=⟨233,rW,rW,[.val ⟨true,rW,[]⟩],[⟨true,rW,[0,0,2]⟩],false,none,
 ((fun _=>True):(Int × fF)->Prop),
 ((fun x=>aEN x):(Int × fF)->(Int × fF))⟩
def aO8:T:=dC 0 cX 1 2 (cO bL aM aM aT) <| .loop bF (gM aA aT) <| bX bM (bO aA 3) (cQ bL 0) <| fY 4 (.loop bF (gM aA (kD 3)) <| bX bM (bO aA 5) (bO bF 0) <| cG 6 (bX qR (bO aA 5) (cQ bL 0) <| bX cC lN (bO aA 3) <| bN 3 tI aA (fQ bF 2 0) 8 <| oP 3 tI mT <| kB 3 8 aA aA (kD 5) 10 <| fE aA 5 1 0 aA 12 11) <| bX9 aA 3 1 1 (aTJ aA 7 (kD 5))) (cO bL (cQ bL 0) (bO bF 0) (kD 3))
theorem bBU:Con.Holds Tryz.prog aFX:=tk ⟨[(2986,2003,oS 14 10++oS 8 6++[.dr 0,.tm 4 0,.sl 6]),(2975,6005,[.tm 5 0,.sl 6])],[]⟩ aO8 (aD aSF aL) fun (x:Int × fF) hx hp=>by
 dsimp only [aFX] at hx hp ⊢
 obtain ⟨m,rfl⟩:∃ m,m=x:=⟨_,rfl⟩
 delta aO8 aGX;refine gH ?_
 simp only[Bool.not_eq_true',Bool.not_eq_false']
 refine ⟨fun h=>?_,fun h1=>?_⟩
 ·unfold aEN;rw[if_neg (by rw[h];exact Bool.false_ne_true)];rfl
 rw[show aEN m=_ from if_pos h1]
 obtain ⟨R,C,data,rfl,g1,g2,g3,g4,g5,g6,g7⟩:=wQ h1
 refine fN (fun c=>((c:Int),zZ (aFG ((R:Int),(C:Int),data)) c)) C rfl fun I μ c hc _ go=>?_
 dsimp only
 refine iC ?_
 have hl:(zZ (aFG ((R:Int),(C:Int),data)) c).length=c * R:=aBJ (fun i=>bCZ _ _) c
 have hq:c * R<=36:=Nat.le_trans (Nat.mul_le_mul hc g2) (by omega)
 generalize hD:zZ (aFG ((R:Int),(C:Int),data)) c=D at *
 constructor
 ·intro hlt
  refine fN (fun r=>((r:Int),D++mp r fun i=>data.getD (i * C+c) 0)) R (by simp[bFS]) fun I2 μ2 k hk _ go2=>?_
  dsimp only
  obtain ⟨p,e0⟩:∃ p,p=k * C:=⟨_,rfl⟩
  have e1:(k:Int) * (C:Int)=(p:Int):=by rw[e0];exact (Int.natCast_mul k C).symm
  have e2:(p:Int)+(c:Int)=((p+c:Nat):Int):=rfl
  have e4:k<R->p+C<=data.length:=fun h=>by rw[e0,g5];exact aT9 h
  simp only[e1,e2,wC,eX]
  (repeat' first|intro _|(refine go2 _ ?_ ?_ ?_)|(refine go2 _ ?_ ?_)|(refine go _ ?_ ?_ ?_)|(refine go _ ?_ ?_)|(with_reducible apply And.intro))
  all_goals first|omega|(unfold maxLen;omega)|(rw[lE,<- List.append_assoc,<- e0];rfl)|(have e:k=R:=(by omega);subst e;rw[zZ,hD];rfl)
 ·intro hge
  have e:c=C:=by omega
  subst e
  rw[<- hD]
def aKA:Con:=⟨219,(.cD0 rW aA),yP,[.val ⟨true,rW,[]⟩,.val ⟨false,aA,[]⟩],[⟨false,aA,[2]⟩,⟨false,.bool,[0]⟩],false,none,
 ((fun _=>True):((Int × fF) × cK)->Prop),
 ((fun x=>pQ x.1 x.2):((Int × fF) × cK)->(cK × Bool))⟩
def aUA:T:=nD 0 (tX bL) 1 2 aA aT <| nD 1 (qO aA (gK bL aA 1) (iM tI bF bL aA 0)) 3 4 aA aT <| gG 2 bL aA 0 <| eI 3 bL iR (gK bL aA 1) <| cM 6
theorem bI2:Con.Holds Tryz.prog aKA:=tk ⟨[],[]⟩ aUA (aD aSF (aD rY (aD bBU (aD aYY aL)))) fun (x:(Int × fF) × cK) hx hp=>by
 dsimp only [aKA] at hx hp ⊢
 obtain ⟨m,d⟩:=x
 delta aUA aGX qC aFX aHX;refine gH ?_
 simp only[Bool.not_eq_true',Bool.not_eq_false']
 refine ⟨fun h=>?_,fun h1=>⟨fun h=>?_,fun h2 _ _=>bYO h1 h2⟩⟩
 ·unfold pQ;rw[if_neg (by rw[h];simp)]
 ·unfold pQ;rw[if_neg (by rw[h];simp)]
def aSN:Con:=⟨220,aF,(.cD0 rW .bool),[.val ⟨false,aA,[]⟩,.val ⟨false,aA,[]⟩],[⟨true,rW,[0,0,2]⟩,⟨false,.bool,[0]⟩],false,none,
 ((fun _=>True):(bA)->Prop),
 ((fun x=>aC7 x.1 x.2):(bA)->((Int × fF) × Bool))⟩
def bCN:T:=nD 0 kW 1 2 bL (cO bL aM aM aT) <| nD 0 pD 3 4 bL (cO bL aM aM aT) <| cN kW <| cN pD <| iN 3 tI kW cB (cO cB aM cL aT) <| kR bM (jX aA 8) 7 9 (iV 3 tI aA kW aA 8 <| iN 3 tI pD cB (gM (.cD0 .bool aA) (eH cB 8)) <| eM bM (jX aA 12) 11 <| cG 13 (iV 3 tI aA pD aA 12 <| nV 1 (zR tI 10 14) 3 tI (cS 15) <| kB 3 8 aA aA (lU 12) 16 <| sJ cB 12 (gZ aA 12 1 0 cB (eE uA bK 17)) <| gZ aA 12 1 0 cB (eE uA (kP tI 1 15) 17)) <| kF (jX aA 8) 1 1 (aTJ (.cD0 .bool aA) 14 (eH cB 12))) (sI bL (cO bL iR fB (lU 8)) cB 8)
theorem bS8:Con.Holds Tryz.prog aSN:=tk ⟨[(2984,4008,oS 27 23++oS 21 14++[.dr 0,.tm 30 0,.tm 7 0,.sl 5]),(2971,12012,[.tm 36 0,.tm 7 0,.sl 5])],[]⟩ bCN (aD aAS (aD aIV aL)) fun (x:bA) hx hp=>by
 dsimp only [aSN] at hx hp ⊢
 obtain ⟨d,v⟩:=x
 delta bCN wI mR;refine gH ?_
 simp only[Bool.not_eq_true',Bool.not_eq_false']
 refine ⟨fun h=>?_,fun h1=>⟨fun h=>?_,fun h2 _ _ _=>?_⟩⟩
 ·unfold aC7;rw[if_neg (by rw[h];simp)];rfl
 ·unfold aC7;rw[if_neg (by rw[h];simp)];rfl
 rw[show aC7 d v=_ from if_pos ⟨h1,h2⟩]
 have hd:=(eC d).1 h1
 have hv:=(eC v).1 h2
 refine fN (fun i=>((i:Int),an i (aY4 d v),zZ (aDS d v) i)) d.length rfl fun I μ i hi _ go=>?_
 dsimp only
 refine iC ?_
 have hl:(zZ (aDS d v) i).length=i * v.length:=aBJ (fun i=>eX _ _) i
 have hq:i * v.length<=36:=Nat.le_trans (Nat.mul_le_mul hi (show v.length<=6 by omega)) (by omega)
 generalize hD:zZ (aDS d v) i=D at *
 generalize hA:an i (aY4 d v)=A at *
 constructor
 ·intro hlt
  refine ⟨by omega,fun _ _=>?_⟩
  refine fN (fun j=>((j:Int),A || an j (fun j=>(gO (d.getD i 0) (v.getD j 0)).2),D++mp j fun j=>(gO (d.getD i 0) (v.getD j 0)).1)) v.length (by simp[bFS,bPL]) fun I2 μ2 j hj _ go2=>?_
  dsimp only
  simp only[wC,eX]
  have ea:(A || an (j+1) (fun j=>(gO (d.getD i 0) (v.getD j 0)).2))=((A || an j (fun j=>(gO (d.getD i 0) (v.getD j 0)).2)) || (gO (d.getD i 0) (v.getD j 0)).2):=by rw[rF,Bool.or_assoc]
  (repeat' first|intro _|(refine go2 _ ?_ ?_ ?_)|(refine go2 _ ?_ ?_)|(refine go _ ?_ ?_ ?_)|(refine go _ ?_ ?_)|(with_reducible apply And.intro))
  all_goals first|omega|(unfold maxLen;omega)|(rw[lE,<- List.append_assoc,ea];first|exact Prod.ext rfl (Prod.ext (qW (by assumption)) rfl)|exact Prod.ext rfl (Prod.ext (wW (by assumption)) rfl))|(have e:j=v.length:=(by omega);subst e;rw[zZ,hD,rF,hA];rfl)
 ·intro hge
  have e:i=d.length:=by omega
  subst e
  rw[<- hD,<- hA]
def aMQ:Con:=⟨215,bQ,rW,[.val ⟨true,bQ,[]⟩],[⟨true,rW,[0,0,0]⟩],true,none,
 ((fun _=>True):(dU)->Prop),
 ((fun x=>aFT x):(dU)->(Int × fF))⟩
def bDF:T:=fA bL (tK 0) wZ (dH bQ 0)
theorem bC7:Con.Holds Tryz.prog aMQ:=tk ⟨[],[]⟩ bDF aL fun (x:dU) hx hp=>by
 dsimp only [aMQ] at hx hp ⊢
 delta bDF;refine gH ?_;try with_reducible exact True.intro
 rfl
def aGA:Con:=⟨194,(.cD0 bQ aA),yP,[.val ⟨true,bQ,[]⟩,.val ⟨false,aA,[]⟩],[⟨false,aA,[2]⟩,⟨false,.bool,[0]⟩],false,none,
 ((fun _=>True):(dU × cK)->Prop),
 ((fun x=>sX x.1 x.2):(dU × cK)->(cK × Bool))⟩
def aO0:T:=nD 0 (tX bQ) 1 2 aA aT <| nD 1 (qO aA (jQ aA 1) (fK bQ 1 bQ aA)) 3 4 aA aT <| lW (iM tI bL bQ aA 0) 1 5 (gG 2 bQ aA 0 <| eI 3 bL fB (jQ aA 1) <| cM 7) <| lW (iM tI bL bQ aA 0) 2 6 (eI 4 aA (jQ aA 1) (kG bQ 3 bQ aA) <| cM 7) <| lW (iM tI bL bQ aA 0) 4 7 (dP 3 tI aA (kG bQ 3 bQ aA) aM <| eI 5 tI gP (jQ aA 1) <| cM 9) <| lW (iM tI bL bQ aA 0) 5 8 (gG 2 bQ aA 0 <| eI 3 bL mT (jQ aA 1) <| eI 4 aA (jQ aA 1) (iY 10) <| jJ aA 1 10 (.ret (aLG aA (iY 11) bK)) <| cM 11) <| .call 6 (jQ aA 1) <| .ret (vH aA mT)
theorem bBW:Con.Holds Tryz.prog aGA:=tk ⟨[],[]⟩ aO0 (aD aX5 (aD rY (aD bC7 (aD aYY (aD aZ2 (aD aQR (aD bKM aL))))))) fun (x:dU × cK) hx hp=>by
 dsimp only [aGA] at hx hp ⊢
 obtain ⟨⟨kd,i,ou,P⟩,v⟩:=x
 delta aO0 aLN qC aMQ aHX aHR aCO aKP;refine gH ?_
 simp only[Bool.not_eq_true',Bool.not_eq_false']
 refine ⟨fun h=>?_,fun h1=>⟨fun h=>?_,fun h2=>?_⟩⟩
 ·unfold sX;rw[if_pos (by rw[h];simp)]
 ·unfold sX;rw[if_pos (by rw[h];simp)]
 have h4:=aW4 h1
 have hk:=((lQ _).1 h1).1
 dsimp only at h4 hk
 (refine iC ?_;try with_reducible exact True.intro)
 (repeat' first|intro _|(with_reducible apply And.intro))
 all_goals first|omega|(obtain rfl:kd=3:=(by omega);simp[sX,h1,h2];done)|(simp_all[sX];done)
def aDW:Con:=⟨197,(.cD0 bQ aF),(.cD0 aA yP),[.val ⟨true,bQ,[]⟩,.val ⟨false,aA,[]⟩,.val ⟨false,aA,[]⟩],[⟨false,aA,[2]⟩,⟨false,aA,[2]⟩,⟨false,.bool,[0]⟩],false,none,
 ((fun _=>True):(dU × bA)->Prop),
 ((fun x=>lR x.1 x.2.1 x.2.2):(dU × bA)->(cK × (cK × Bool)))⟩
def aLJ:T:=dC 0 (dT bQ aF) 1 2 (cO nH aT aT cL) <| dC 1 (qO aA (mW bQ aF 0) (fK bQ 1 bQ aF)) 3 4 (cO nH aT aT cL) <| dC 1 (qO aA (jQ aF 2) (fK bQ 2 bQ aF)) 5 6 (cO nH aT aT cL) <| lW (iM tI bL bQ aF 0) 1 7 (gG 2 bQ aF 0 <| eI 3 bL gP (jQ aF 2) <| eI 4 aA (jQ aF 2) (mW bQ aF 0) <| jJ aA 1 9 (fA nH (iY 9) (prA bL 2 (lS bL 10)) bK) <| fA nH (iY 9) (prA bL 2 (lS bL 10)) (kP bL 1 10)) <| lW (iM tI bL bQ aF 0) 2 8 (.call 5 (jQ aF 2) <| .call 5 (jQ aF 2) <| fA nH mT gN cL) <| lW (iM tI bL bQ aF 0) 4 9 (dP 3 tI aA (kG bQ 3 bQ aF) aM <| eI 6 tI gN (jQ aF 2) <| nV 7 (.cD2 aA aA (jQ aF 2) (mW bQ aF 0)) 3 tI (cS 12) <| jJ aA 1 11 (fA nH (iY 11) jC bK) <| fA nH (iY 11) jC (kP tI 1 12)) <| lW (iM tI bL bQ aF 0) 5 10 (gG 2 bQ aF 0 <| eI 3 bL iX (jQ aF 2) <| eI 8 aA (jQ aF 2) (iY 12) <| eI 4 aA (jQ aF 2) (mW bQ aF 0) <| jJ aA 1 12 (fA nH (iY 13) (prA bL 2 (lS bL 14)) bK) <| jJ aA 1 13 (fA nH (iY 13) (prA bL 2 (lS bL 14)) bK) <| fA nH (iY 13) (prA bL 2 (lS bL 14)) (kP bL 1 14)) <| .call 9 (jQ aF 1) <| fA nH iX aT cL
theorem aZL:Con.Holds Tryz.prog aDW:=tk ⟨[],[]⟩ aLJ (aD aX5 (aD rY (aD bC7 (aD bI2 (aD bS8 (aD pN (aD aQR (aD aOO (aD aZ2 (aD bK4 aL)))))))))) fun (x:dU × bA) hx hp=>by
 dsimp only [aDW] at hx hp ⊢
 obtain ⟨⟨kd,i,ou,P⟩,v,d⟩:=x
 delta aLJ aLN qC aMQ aKA aSN mS aCO aDD aHR aJN;refine gH ?_
 simp only[Bool.not_eq_true',Bool.not_eq_false']
 refine ⟨fun h=>?_,fun h1=>⟨fun h=>?_,fun h2=>⟨fun h=>?_,fun h3=>?_⟩⟩⟩
 ·unfold lR;rw[if_pos (by rw[h];simp)]
 ·unfold lR;rw[if_pos (by rw[h];simp)]
 ·unfold lR;rw[if_pos (by rw[h];simp)]
 have h4:=aW4 h1
 have hk:=((lQ _).1 h1).1
 have hd:=(eC _).1 ((cP _ _).1 h3).1
 dsimp only at h4 hk
 (refine iC ?_;try with_reducible exact True.intro)
 (repeat' first|intro _|(with_reducible apply And.intro))
 all_goals first|omega|(obtain rfl:kd=3:=(by omega);simp[lR,h1,h2,h3];done)|(simp_all[lR];done)
def aM6:Con:=⟨234,rW,.bool,[.val ⟨true,rW,[]⟩],[⟨false,.bool,[0]⟩],false,none,
 ((fun _=>True):(Int × fF)->Prop),
 ((fun x=>aNB x):(Int × fF)->(Bool))⟩
def bCW:T:=kS 0 aQ (iO (bO bF 0) gF 6) 1 2 cL <| kS 0 aQ (iO (cQ bL 0) gF 6) 3 4 cL <| cN (fQ bF 2 0) <| bX qR (bO bF 0) (cQ bL 0) <| tM eW 5 6 7 <| dX tI aM 3 tI (fQ bF 2 0) <| tE 8 9 10 (bN 3 tI aA (fQ bF 2 0) 8 <| jE 1 iX 12 13 <| kF gP 1 0 gW) bK
theorem bCJ:Con.Holds Tryz.prog aM6:=tk ⟨[(2988,8008,oS 24 4++[.dr 0,.tm 3 0])],[]⟩ bCW (aD mC (aD aHJ aL)) fun (x:Int × fF) hx hp=>by
 dsimp only [aM6] at hx hp ⊢
 have hm:List.length x.2.2<=9223372036854775807:=hx.2.2.1
 delta bCW kY aAN;refine gH ?_
 simp only[wC,aI7,aIR]
 (repeat' first|intro _|(with_reducible apply And.intro))
 all_goals first|(first|(refine (Bool.eq_false_iff.2 ?_).symm;rw[ne_eq,vP];intro hh;omega)|(refine (vP.2 ?_).symm;omega))|(have:=bCH (a:=x.1) (b:=x.2.1) (by omega) (by omega) (by omega) (by omega);omega)|(refine (Bool.eq_false_iff.2 fun h=>?_).symm;rw[vP] at h;exact absurd h.1.2.2.2.2 (by assumption))|skip
 refine xL (fun k=>(k:Int)) (fun k=>(List.take k x.2.2).all mK=true) x.2.2.length rfl rfl fun I μ k hk hG _ go=>?_
 try dsimp only
 refine iC ?_
 have e:∀ h:k<x.2.2.length,(List.take (k+1) x.2.2).all mK=mK (x.2.2.getD k 0):=fun h=>by rw[xX mK x.2.2 h,hG,Bool.true_and,aO h]
 (repeat' first|intro _|(refine go _ ?_ ?_ ?_)|(refine go _ ?_ ?_)|(with_reducible apply And.intro))
 all_goals first|omega|(refine (Bool.eq_false_iff.2 fun hh=>?_).symm;have h1:=List.all_eq_true.1 ((vP x).1 hh).2 _ (List.getElem_mem (show k<x.2.2.length by omega));rw[<- aO (d:=0)] at h1;exact Bool.noConfusion (h1.symm.trans (by assumption:_=false)))|(exact (e (by omega)).trans (by assumption))|rfl|skip
 refine ((vP x).2 ⟨⟨by omega,by omega,by omega,by omega,by omega⟩,?_⟩).symm
 rwa [List.take_of_length_le (by omega)] at hG
def aSE:Con:=⟨235,(.cD0 rW tI),aA,[.val ⟨true,rW,[]⟩,.val ⟨false,tI,[]⟩],[⟨false,aA,[0]⟩],true,none,
 ((fun x=>aNB x.1=true/\0<=x.2/\x.2<x.1.1):((Int × fF) × Int)->Prop),
 ((fun x=>aNW x.1 x.2.toNat):((Int × fF) × Int)->(List Int))⟩
def bCY:T:=bX qR (iD bL 1 0) (fK bL 1 bL tI) <| iS cC (iD bL 1 0) 1 <| bX qR iZ (fK bL 1 bL tI) <| aGP 3 tI aA (kG bL 2 bL tI) aX 3 <| cM 4
theorem bSK:Con.Holds Tryz.prog aSE:=tk ⟨[],[]⟩ bCY aL fun (x:(Int × fF) × Int) hx hp=>by
 dsimp only [aSE] at hx hp ⊢
 obtain ⟨m,k⟩:=x
 obtain ⟨h1,h2,h3⟩:aNB m=true/\0<=k/\k<m.1:=hp
 obtain ⟨R,C,data,rfl,g1,g2,g3,g4,g5,g6,g7⟩:=wQ h1
 obtain ⟨k,rfl⟩:=Int.eq_ofNat_of_zero_le h2
 have h3:k<R:=by dsimp only at h3;omega
 delta bCY;refine gH ?_
 obtain ⟨p,e0⟩:∃ p,p=k * C:=⟨_,rfl⟩
 have e1:(k:Int) * (C:Int)=(p:Int):=by rw[e0];exact (Int.natCast_mul k C).symm
 have e2:((k:Int)+1) * (C:Int)=((p+C:Nat):Int):=by rw[Int.add_mul,e1,Int.one_mul];rfl
 have e4:p+C<=data.length:=by rw[e0,g5];exact aT9 h3
 simp only[e1,e2,wC,<- bB8 R C k p data e0]
 (repeat' first|intro _|(with_reducible apply And.intro))
 all_goals first|omega|trivial|rfl
def aT4:Con:=⟨237,(.cD0 rW tI),aA,[.val ⟨true,rW,[]⟩,.val ⟨false,tI,[]⟩],[⟨false,aA,[2]⟩],false,none,
 ((fun x=>aNB x.1=true/\0<=x.2/\x.2<x.1.2.1):((Int × fF) × Int)->Prop),
 ((fun x=>aFG x.1 x.2.toNat):((Int × fF) × Int)->(List Int))⟩
def bDW:T:=.loop bF (gM aA aT) <| bX bM (bO aA 1) (iM tI bF bL tI 0) <| fY 2 (bX qR (bO aA 1) (fK bL 1 bL tI) <| bX cC qN (iD bL 1 0) <| bN 3 tI aA (kG bL 2 bL tI) 4 <| oP 3 tI iR <| kB 3 8 aA aA (kD 1) 6 <| fE aA 1 1 0 aA 8 7) (kD 1)
theorem bS1:Con.Holds Tryz.prog aT4:=tk ⟨[(2991,1001,[.dr 7,.dr 0,.tm 6 0,.on 5,.sl 2])],[]⟩ bDW aL fun (x:(Int × fF) × Int) hx hp=>by
 dsimp only [aT4] at hx hp ⊢
 obtain ⟨m,c⟩:=x
 obtain ⟨h1,h2,h3⟩:aNB m=true/\0<=c/\c<m.2.1:=hp
 obtain ⟨R,C,data,rfl,g1,g2,g3,g4,g5,g6,g7⟩:=wQ h1
 obtain ⟨c,rfl⟩:=Int.eq_ofNat_of_zero_le h2
 have h3:c<C:=by dsimp only at h3;omega
 delta bDW;refine gH ?_
 refine fN (fun r=>((r:Int),mp r fun i=>data.getD (i * C+c) 0)) R rfl fun I μ k hk _ go=>?_
 dsimp only
 obtain ⟨p,e0⟩:∃ p,p=k * C:=⟨_,rfl⟩
 have e1:(k:Int) * (C:Int)=(p:Int):=by rw[e0];exact (Int.natCast_mul k C).symm
 have e2:(p:Int)+(c:Int)=((p+c:Nat):Int):=rfl
 have e4:k<R->p+C<=data.length:=fun h=>by rw[e0,g5];exact aT9 h
 simp only[e1,e2,wC,eX]
 (repeat' first|intro _|(refine go _ ?_ ?_ ?_)|(refine go _ ?_ ?_)|(with_reducible apply And.intro))
 all_goals first|omega|(unfold maxLen;omega)|(rw[lE,<- e0];rfl)|(have e:k=R:=(by omega);subst e;rfl)
def aPW:Con:=⟨222,(.cD0 rW aA),yP,[.val ⟨true,rW,[]⟩,.val ⟨false,aA,[]⟩],[⟨false,aA,[2]⟩,⟨false,.bool,[0]⟩],false,none,
 ((fun _=>True):((Int × fF) × cK)->Prop),
 ((fun x=>tQ x.1 x.2):((Int × fF) × cK)->(cK × Bool))⟩
def aWW:T:=nD 0 (tX bL) 1 2 aA aT <| nD 1 (gK bL aA 1) 3 4 aA aT <| cN (gK bL aA 1) <| bX eW iR (fK bL 1 bL aA) <| cE 6 (vH aA aT) <| .loop cB (cO cB aM cL aT) <| bX bM (jX aA 7) (iM tI bF bL aA 0) <| fY 8 (cI 2 bL (tX bL) (jX aA 7) <| nV 3 (.cD2 aA aA mT (gK bL aA 1)) 3 tI (cS 10) <| kB 3 8 aA aA (lU 7) 11 <| sJ cB 7 (gZ aA 7 1 0 cB (eE jC bK 12)) <| gZ aA 7 1 0 cB (eE jC (kP tI 1 10) 12)) (sI aA (lU 7) cB 7)
theorem bMK:Con.Holds Tryz.prog aPW:=tk ⟨[(2984,8007,oS 26 11++[.dr 0,.tm 8 0,.tm 7 0,.on 6,.sl 2])],[]⟩ aWW (aD bCJ (aD mZ (aD bSK (aD aIG aL)))) fun (x:(Int × fF) × cK) hx hp=>by
 dsimp only [aPW] at hx hp ⊢
 obtain ⟨m,v⟩:=x
 delta aWW aM6 lH aSE aAL;refine gH ?_
 simp only[Bool.not_eq_true',Bool.not_eq_false',aI7,aIR]
 refine ⟨fun h=>?_,fun h1=>⟨fun h=>?_,fun h2 _=>⟨fun h=>?_,fun h3=>?_⟩⟩⟩
 ·unfold tQ;rw[if_neg (by rw[h];simp)]
 ·unfold tQ dJ;rw[if_neg (by rw[h];simp)]
 ·unfold tQ dJ;rw[if_neg (fun hh=>h (by have:=hh.2;rw[Bool.and_eq_true,decide_eq_true_eq] at this;exact this.2))]
 have h4:dJ v m.2.1=true:=(cP _ _).2 ⟨h2,h3⟩
 rw[show tQ m v=_ from if_pos ⟨h1,h4⟩]
 obtain ⟨R,C,data,rfl,g1,g2,g3,g4,g5,g6,g7⟩:=wQ h1
 refine fN (fun k=>((k:Int),an k (fun r=>(nW (aNW ((R:Int),(C:Int),data) r) v).2),mp k fun r=>(nW (aNW ((R:Int),(C:Int),data) r) v).1)) R rfl fun I μ k hk _ go=>?_
 dsimp only
 simp only[wC,eX]
 (repeat' first|intro _|(refine go _ ?_ ?_ ?_)|(refine go _ ?_ ?_)|(with_reducible apply And.intro))
 all_goals first|omega|exact h1|(unfold maxLen;omega)|(rw[lE,rF];first|exact Prod.ext rfl (Prod.ext (qW (by assumption)) rfl)|exact Prod.ext rfl (Prod.ext (wW (by assumption)) rfl))|(have e:k=R:=(by omega);subst e;rfl)
def aKH:Con:=⟨228,(.cD0 rW aA),yP,[.val ⟨true,rW,[]⟩,.val ⟨false,aA,[]⟩],[⟨false,aA,[2]⟩,⟨false,.bool,[0]⟩],false,none,
 ((fun _=>True):((Int × fF) × cK)->Prop),
 ((fun x=>pQ x.1 x.2):((Int × fF) × cK)->(cK × Bool))⟩
def aUQ:T:=nD 0 (tX bL) 1 2 aA aT <| nD 1 (gK bL aA 1) 3 4 aA aT <| cN (gK bL aA 1) <| bX eW iR (iM tI bF bL aA 0) <| cE 6 (vH aA aT) <| .loop cB (cO cB aM cL aT) <| bX bM (jX aA 7) (fK bL 1 bL aA) <| fY 8 (cI 2 bL (tX bL) (jX aA 7) <| nV 3 (.cD2 aA aA mT (gK bL aA 1)) 3 tI (cS 10) <| kB 3 8 aA aA (lU 7) 11 <| sJ cB 7 (gZ aA 7 1 0 cB (eE jC bK 12)) <| gZ aA 7 1 0 cB (eE jC (kP tI 1 10) 12)) (sI aA (lU 7) cB 7)
theorem bLB:Con.Holds Tryz.prog aKH:=tk ⟨[(2984,8007,oS 26 11++[.dr 0,.tm 8 0,.tm 7 0,.on 6,.sl 2])],[]⟩ aUQ (aD bCJ (aD mZ (aD bS1 (aD aIG aL)))) fun (x:(Int × fF) × cK) hx hp=>by
 dsimp only [aKH] at hx hp ⊢
 obtain ⟨m,v⟩:=x
 delta aUQ aM6 lH aT4 aAL;refine gH ?_
 simp only[Bool.not_eq_true',Bool.not_eq_false',aI7,aIR]
 refine ⟨fun h=>?_,fun h1=>⟨fun h=>?_,fun h2 _=>⟨fun h=>?_,fun h3=>?_⟩⟩⟩
 ·unfold pQ;rw[if_neg (by rw[h];simp)]
 ·unfold pQ dJ;rw[if_neg (by rw[h];simp)]
 ·unfold pQ dJ;rw[if_neg (fun hh=>h (by have:=hh.2;rw[Bool.and_eq_true,decide_eq_true_eq] at this;exact this.2))]
 have h4:dJ v m.1=true:=(cP _ _).2 ⟨h2,h3⟩
 rw[show pQ m v=_ from if_pos ⟨h1,h4⟩]
 obtain ⟨R,C,data,rfl,g1,g2,g3,g4,g5,g6,g7⟩:=wQ h1
 refine fN (fun k=>((k:Int),an k (fun r=>(nW (aFG ((R:Int),(C:Int),data) r) v).2),mp k fun r=>(nW (aFG ((R:Int),(C:Int),data) r) v).1)) C rfl fun I μ k hk _ go=>?_
 dsimp only
 simp only[wC,eX]
 (repeat' first|intro _|(refine go _ ?_ ?_ ?_)|(refine go _ ?_ ?_)|(with_reducible apply And.intro))
 all_goals first|omega|exact h1|(unfold maxLen;omega)|(rw[lE,rF];first|exact Prod.ext rfl (Prod.ext (qW (by assumption)) rfl)|exact Prod.ext rfl (Prod.ext (wW (by assumption)) rfl))|(have e:k=C:=(by omega);subst e;rfl)
def aT8:Con:=⟨229,aF,(.cD0 rW .bool),[.val ⟨false,aA,[]⟩,.val ⟨false,aA,[]⟩],[⟨true,rW,[0,0,2]⟩,⟨false,.bool,[0]⟩],false,none,
 ((fun _=>True):(bA)->Prop),
 ((fun x=>aC7 x.1 x.2):(bA)->((Int × fF) × Bool))⟩
def bD0:T:=nD 0 kW 1 2 bL (cO bL aM aM aT) <| nD 0 pD 3 4 bL (cO bL aM aM aT) <| cN kW <| cN pD <| dX cB (cO cB aM cL aT) 3 tI kW <| kR bM (jX aA 7) 8 9 (dX cB (gM (.cD0 .bool aA) (eH cB 7)) 3 tI pD <| eM bM (jX aA 10) 11 <| cG 12 (iV 3 tI aA kW aA 7 <| iV 3 tI aA pD aA 10 <| nV 1 (zR tI 13 14) 3 tI (cS 15) <| kB 3 8 aA aA (lU 10) 16 <| sJ cB 10 (gZ aA 10 1 0 cB (eE uA bK 17)) <| gZ aA 10 1 0 cB (eE uA (kP tI 1 15) 17)) <| kF (jX aA 7) 1 1 (aTJ (.cD0 .bool aA) 13 (eH cB 10))) (sI bL (cO bL iR fB (lU 7)) cB 7)
theorem bRX:Con.Holds Tryz.prog aT8:=tk ⟨[(2984,4007,oS 25 21++oS 19 12++[.tm 8 0,.tm 7 0,.sl 5]),(2973,12010,[.tm 9 0,.tm 7 0,.sl 5])],[]⟩ bD0 (aD mZ (aD aHS aL)) fun (x:bA) hx hp=>by
 dsimp only [aT8] at hx hp ⊢
 obtain ⟨d,v⟩:=x
 delta bD0 lH aA5;refine gH ?_
 simp only[Bool.not_eq_true',Bool.not_eq_false']
 refine ⟨fun h=>?_,fun h1=>⟨fun h=>?_,fun h2 _ _=>?_⟩⟩
 ·unfold aC7;rw[if_neg (by rw[h];simp)];rfl
 ·unfold aC7;rw[if_neg (by rw[h];simp)];rfl
 rw[show aC7 d v=_ from if_pos ⟨h1,h2⟩]
 have hd:=(eC d).1 h1
 have hv:=(eC v).1 h2
 refine fN (fun i=>((i:Int),an i (aY4 d v),zZ (aDS d v) i)) d.length rfl fun I μ i hi _ go=>?_
 dsimp only
 refine iC ?_
 have hl:(zZ (aDS d v) i).length=i * v.length:=aBJ (fun i=>eX _ _) i
 have hq:i * v.length<=36:=Nat.le_trans (Nat.mul_le_mul hi (show v.length<=6 by omega)) (by omega)
 generalize hD:zZ (aDS d v) i=D at *
 generalize hA:an i (aY4 d v)=A at *
 intro _
 constructor
 ·intro hlt
  refine fN (fun j=>((j:Int),A || an j (fun j=>(gO (d.getD i 0) (v.getD j 0)).2),D++mp j fun j=>(gO (d.getD i 0) (v.getD j 0)).1)) v.length (by simp[bFS,bPL]) fun I2 μ2 j hj _ go2=>?_
  dsimp only
  simp only[wC,eX]
  have ea:(A || an (j+1) (fun j=>(gO (d.getD i 0) (v.getD j 0)).2))=((A || an j (fun j=>(gO (d.getD i 0) (v.getD j 0)).2)) || (gO (d.getD i 0) (v.getD j 0)).2):=by rw[rF,Bool.or_assoc]
  (repeat' first|intro _|(refine go2 _ ?_ ?_ ?_)|(refine go2 _ ?_ ?_)|(refine go _ ?_ ?_ ?_)|(refine go _ ?_ ?_)|(with_reducible apply And.intro))
  all_goals first|omega|(unfold maxLen;omega)|(rw[lE,<- List.append_assoc,ea];first|exact Prod.ext rfl (Prod.ext (qW (by assumption)) rfl)|exact Prod.ext rfl (Prod.ext (wW (by assumption)) rfl))|(have e:j=v.length:=(by omega);subst e;rw[zZ,hD,rF,hA];rfl)
 ·intro hge
  have e:i=d.length:=by omega
  subst e
  rw[<- hD,<- hA]
def aN4:Con:=⟨223,bQ,rW,[.val ⟨true,bQ,[]⟩],[⟨true,rW,[0,0,0]⟩],true,none,
 ((fun _=>True):(dU)->Prop),
 ((fun x=>aFT x):(dU)->(Int × fF))⟩
def bDI:T:=fA bL (tK 0) wZ (dH bQ 0)
theorem bEH:Con.Holds Tryz.prog aN4:=tk ⟨[],[]⟩ bDI aL fun (x:dU) hx hp=>by
 dsimp only [aN4] at hx hp ⊢
 delta bDI;refine gH ?_;try with_reducible exact True.intro
 rfl
def aGF:Con:=⟨199,(.cD0 bQ aA),yP,[.val ⟨true,bQ,[]⟩,.val ⟨false,aA,[]⟩],[⟨false,aA,[2]⟩,⟨false,.bool,[0]⟩],false,none,
 ((fun _=>True):(dU × cK)->Prop),
 ((fun x=>sX x.1 x.2):(dU × cK)->(cK × Bool))⟩
def aNI:T:=nD 0 (tX bQ) 1 2 aA aT <| nD 1 (jQ aA 1) 3 4 aA aT <| cN (jQ aA 1) <| bX eW iR (fK bQ 1 bQ aA) <| cE 6 (vH aA aT) <| lW (iM tI bL bQ aA 0) 1 7 (gG 2 bQ aA 0 <| eI 3 bL gP (jQ aA 1) <| cM 9) <| lW (iM tI bL bQ aA 0) 2 8 (eI 4 aA (jQ aA 1) (kG bQ 3 bQ aA) <| cM 9) <| lW (iM tI bL bQ aA 0) 3 9 (.call 5 (jQ aA 1) <| .ret (vH aA gN)) <| lW (iM tI bL bQ aA 0) 4 10 (dP 3 tI aA (kG bQ 3 bQ aA) aM <| eI 6 tI iX (jQ aA 1) <| cM 12) <| gG 2 bQ aA 0 <| eI 3 bL iX (jQ aA 1) <| eI 4 aA (jQ aA 1) (iY 12) <| jJ aA 1 12 (.ret (aLG aA (iY 13) bK)) <| cM 13
theorem bBI:Con.Holds Tryz.prog aGF:=tk ⟨[],[]⟩ aNI (aD bAW (aD mZ (aD bEH (aD bMK (aD bAH (aD bKO (aD aRJ aL))))))) fun (x:dU × cK) hx hp=>by
 dsimp only [aGF] at hx hp ⊢
 obtain ⟨⟨kd,i,ou,P⟩,v⟩:=x
 delta aNI aL2 lH aN4 aPW aI8 aKK aCH;refine gH ?_
 simp only[Bool.not_eq_true',Bool.not_eq_false',aI7,aIR]
 refine ⟨fun h=>?_,fun h1=>⟨fun h=>?_,fun h2 _=>⟨fun h=>?_,fun h3=>?_⟩⟩⟩
 ·unfold sX;rw[if_pos (by rw[h];simp)]
 ·unfold sX dJ;rw[if_pos (by rw[h];simp)]
 ·unfold sX;rw[if_pos (fun hh=>h ((cP _ _).1 hh.2).2)]
 have h9:dJ v i=true:=(cP _ _).2 ⟨h2,h3⟩
 clear h2 h3
 have h4:=aW4 h1
 have hk:=((lQ _).1 h1).1
 dsimp only at h4 hk
 (refine iC ?_;try with_reducible exact True.intro)
 (repeat' first|intro _|(with_reducible apply And.intro))
 all_goals first|omega|(simp_all[sX];done)|(have e5:kd=5:=(by omega);subst e5;simp_all[sX];done)
def aD9:Con:=⟨202,(.cD0 bQ aF),(.cD0 aA yP),[.val ⟨true,bQ,[]⟩,.val ⟨false,aA,[]⟩,.val ⟨false,aA,[]⟩],[⟨false,aA,[2]⟩,⟨false,aA,[2]⟩,⟨false,.bool,[0]⟩],false,none,
 ((fun _=>True):(dU × bA)->Prop),
 ((fun x=>lR x.1 x.2.1 x.2.2):(dU × bA)->(cK × (cK × Bool)))⟩
def aLP:T:=dC 0 (dT bQ aF) 1 2 (cO nH aT aT cL) <| dC 1 (mW bQ aF 0) 3 4 (cO nH aT aT cL) <| cN (mW bQ aF 0) <| bX eW iR (fK bQ 1 bQ aF) <| cE 6 (cO nH aT aT cL) <| dC 1 (jQ aF 2) 7 8 (cO nH aT aT cL) <| cN (jQ aF 2) <| bX eW mT (fK bQ 2 bQ aF) <| cE 10 (cO nH aT aT cL) <| lW (iM tI bL bQ aF 0) 2 11 (iT (sS 3 8) aA aA aT (jQ aF 2) <| iT (sS 3 8) aA aA aT (jQ aF 2) <| fA nH kO jC cL) <| lW (iM tI bL bQ aF 0) 3 12 (.call 2 (jQ aF 1) <| fA nH jC aT cL) <| lW (iM tI bL bQ aF 0) 4 13 (dP 3 tI aA (kG bQ 3 bQ aF) aM <| eI 3 tI gW (jQ aF 2) <| nV 4 (.cD2 aA aA (jQ aF 2) (mW bQ aF 0)) 3 tI (cS 16) <| jJ aA 1 15 (fA nH (iY 15) mV bK) <| fA nH (iY 15) mV (kP tI 1 16)) <| gG 5 bQ aF 0 <| eI 6 bL gW (jQ aF 2) <| eI 7 aA (jQ aF 2) (mW bQ aF 0) <| lW (iM tI bL bQ aF 0) 1 17 (jJ aA 1 15 (fA nH (iY 15) (prA bL 2 (lS bL 16)) bK) <| fA nH (iY 15) (prA bL 2 (lS bL 16)) (kP bL 1 16)) <| eI 8 aA (jQ aF 2) (iY 15) <| jJ aA 1 15 (fA nH (iY 18) (prA bL 2 (lS bL 16)) bK) <| jJ bL 1 16 (fA nH (iY 18) (prA bL 2 (lS bL 16)) bK) <| fA nH (iY 18) (prA bL 2 (lS bL 16)) (kP aA 1 18)
theorem aZ7:Con.Holds Tryz.prog aD9:=tk ⟨[],[]⟩ aLP (aD bAW (aD mZ (aD bKR (aD aRJ (aD aIG (aD bEH (aD bLB (aD bRX (aD bAH aL))))))))) fun (x:dU × bA) hx hp=>by
 dsimp only [aD9] at hx hp ⊢
 obtain ⟨⟨kd,i,ou,P⟩,v,d⟩:=x
 delta aLP aL2 lH aKY aCH aAL aN4 aKH aT8 aI8;refine gH ?_
 simp only[Bool.not_eq_true',Bool.not_eq_false',aI7,aIR]
 refine ⟨fun h=>?_,fun h1=>⟨fun h=>?_,fun h2 _=>⟨fun h=>?_,fun h3=>⟨fun h=>?_,fun h5 _=>⟨fun h=>?_,fun h6=>?_⟩⟩⟩⟩⟩
 ·unfold lR;rw[if_pos (by rw[h];simp)]
 ·unfold lR dJ;rw[if_pos (by rw[h];simp)]
 ·unfold lR;rw[if_pos (fun hh=>h ((cP _ _).1 hh.2.1).2)]
 ·unfold lR dJ;rw[if_pos (by rw[h];simp)]
 ·unfold lR;rw[if_pos (fun hh=>h ((cP _ _).1 hh.2.2).2)]
 have h9:dJ v i=true:=(cP _ _).2 ⟨h2,h3⟩
 have h10:dJ d ou=true:=(cP _ _).2 ⟨h5,h6⟩
 have hd:=(eC d).1 h5
 clear h2 h3 h5 h6
 have h4:=aW4 h1
 have hk:=((lQ _).1 h1).1
 dsimp only at h4 hk
 rcases (show kd=1\/kd=2\/kd=3\/kd=4\/kd=5 by omega) with rfl|rfl|rfl|rfl|rfl
 all_goals
  refine iC ?_
  clear hk hx
  (repeat' first|intro _|(with_reducible apply And.intro))
  all_goals first|omega|(unfold maxLen;omega)|exact absurd trivial (by assumption)|(unfold lR;rw[if_neg (by simp[h1,h9,h10]),if_neg (by simp),if_neg (by simp),if_pos rfl];first|exact Prod.ext rfl (Prod.ext rfl (qW (by assumption)))|exact Prod.ext rfl (Prod.ext rfl (wW (by assumption))))|(simp[lR,h1,h9,h10, *];done)
end
noncomputable section
set_option maxRecDepth 100000
def qQ (y t:List Int):Int × Bool:=((nW (qE fC y t).1 (qE fC y t).1).1.fdiv 2,(qE fC y t).2 || (nW (qE fC y t).1 (qE fC y t).1).2)
def jD (m:List dU) (x:List Int):Nat->dG × Bool
 | 0=>([x],false)
 | k+1=>((jD m x k).1++[(sX (m.getD k nO) ((jD m x k).1.getD k [])).1],(jD m x k).2 || (sX (m.getD k nO) ((jD m x k).1.getD k [])).2)
def oX (m:List dU) (x:List Int):dG × Bool:=if bY m=true/\dJ x (jP m)=true then jD m x m.length else ([],false)
def iI (m:List dU) (r:dG) (d:List Int) (n:Nat):Nat->dG × (List Int × Bool)
 | 0=>(List.replicate n [],d,false)
 | k+1=>((iI m r d n k).1.set (n - 1 - k) (lR (m.getD (n - 1 - k) nO) (r.getD (n - 1 - k) []) (iI m r d n k).2.1).2.1,(lR (m.getD (n - 1 - k) nO) (r.getD (n - 1 - k) []) (iI m r d n k).2.1).1,
  (iI m r d n k).2.2 || (lR (m.getD (n - 1 - k) nO) (r.getD (n - 1 - k) []) (iI m r d n k).2.1).2.2)
def kH (m:List dU) (r:dG) (d:List Int):dG × (List Int × Bool):=iI m r d m.length m.length
def lF (m:List dU) (p:bA):Bool:=dJ p.1 (jP m)&&dJ p.2 (eN m)
def iQ (m:List dU) (b:List bA):Bool:=bY m&&(decide (1<=b.length/\b.length<=5)&&b.all (lF m))
def mH (m:List dU) (p:bA):dV:=if bY m=true/\lF m p=true then
 ((kH m (oX m p.1).1 (qE fC ((oX m p.1).1.getD m.length []) p.2).1).1,(qQ ((oX m p.1).1.getD m.length []) p.2).1,
  (oX m p.1).2 || (qQ ((oX m p.1).1.getD m.length []) p.2).2 || (qE fC ((oX m p.1).1.getD m.length []) p.2).2 || (kH m (oX m p.1).1 (qE fC ((oX m p.1).1.getD m.length []) p.2).1).2.2) else ([],0,false)
theorem bQK {x:Int} (h:0<=x):0<=(aTL x).1:=by show 0<=lD x;unfold lD;omega
theorem bE5 {x:Int} (h:0<=x):0<=lD x:=by unfold lD;omega
theorem bSG (x:Int):0<=(gO x x).1:=by
 refine bQK ?_
 rw[Int.fdiv_eq_ediv_of_nonneg _ (by decide)]
 have h:0<=lD x * lD x:=by
  rcases Int.le_total 0 (lD x) with h|h
  ·exact Int.mul_nonneg h h
  ·exact Int.mul_nonneg_of_nonpos_of_nonpos h h
 omega
theorem bQ7 (a:List Int):(k:Nat)->0<=(aQ4 a a k).1
 | 0=>Int.le_refl _
 | k+1=>bQK (Int.add_nonneg (bE5 (bQ7 a k)) (bE5 (bSG _)))
theorem bSJ (a:List Int):0<=(nW a a).1:=by
 unfold nW;split
 ·exact bQ7 a _
 ·exact Int.le_refl _
theorem bZE {x:Int} (h:0<=x):x.tdiv 2=x.fdiv 2:=by rw[Int.fdiv_eq_ediv_of_nonneg _ (by decide),Int.tdiv_eq_ediv_of_nonneg h]
theorem tR (m:List dU) (x:List Int):(k:Nat)->(jD m x k).1.length=k+1
 | 0=>rfl
 | k+1=>by rw[jD,List.length_append,tR m x k];rfl
theorem rD (m:List dU) (r:dG) (d:List Int) (n:Nat):(k:Nat)->(iI m r d n k).1.length=n
 | 0=>List.length_replicate
 | k+1=>by rw[iI,List.length_set,rD m r d n k]
theorem bI0 {m:List dU} {b:List bA} (h:bY m=false):false=iQ m b:=by unfold iQ;rw[h];rfl
theorem aYR {m:List dU} {b:List bA} (h:¬ (1<=b.length/\b.length<=5)):false=iQ m b:=by unfold iQ;rw[decide_eq_false h,Bool.false_and,Bool.and_false]
theorem bJW {m:List dU} {b:List bA} (h:b.all (lF m)=false):false=iQ m b:=by unfold iQ;rw[h,Bool.and_false,Bool.and_false]
theorem bQ0 {m:List dU} {b:List bA} (h1:bY m=true) (h2:1<=b.length/\b.length<=5) (h3:b.all (lF m)=true):true=iQ m b:=by unfold iQ;rw[h1,h3,decide_eq_true h2];rfl
theorem vC (m:List dU) (b:List bA):iQ m b=true↔bY m=true/\(1<=b.length/\b.length<=5)/\b.all (lF m)=true:=by unfold iQ;simp only[Bool.and_eq_true,decide_eq_true_eq]
theorem bFC {m:List dU} {p:bA} (h:sV p.1=false\/sV p.2=false\/¬ (p.1.length:Int)=jP m\/¬ (p.2.length:Int)=eN m):lF m p=false:=by
 unfold lF dJ
 rcases h with h|h|h|h
 ·rw[h];simp
 ·rw[h];simp
 ·rw[decide_eq_false h];simp
 ·rw[decide_eq_false h];simp
theorem cBH {m:List dU} {p:bA} (h1:sV p.1=true) (h2:sV p.2=true) (h3:(p.1.length:Int)=jP m) (h4:(p.2.length:Int)=eN m):lF m p=true:=by
 unfold lF dJ;rw[h1,h2,decide_eq_true h3,decide_eq_true h4];rfl
def aHQ:Con:=⟨146,aF,aC2,[.val ⟨false,aA,[]⟩,.val ⟨false,aA,[]⟩],[⟨false,tI,[0]⟩,⟨false,.bool,[0]⟩],false,none,
 ((fun _=>True):(bA)->Prop),
 ((fun x=>qQ x.1 x.2):(bA)->(Int × Bool))⟩
def aZS:T:=dE 0 0 <| eI 1 aA (iY 1) (iY 1) <| iT (.shr .i64 .u64) tI (.int .u64) (cS 2) (.ci .u64 1) <| jJ aA 1 1 (aDR .bool 3 bK) <| aDR .bool 3 (kP tI 1 2)
theorem aY8:Con.Holds Tryz.prog aHQ:=tk ⟨[],[]⟩ aZS (aD aP5 (aD aOO aL)) fun (x:bA) hx hp=>by
 dsimp only [aHQ] at hx hp ⊢
 delta aZS aD2 aDD;refine gH ?_
 exact fun _ _=>⟨by omega,fun _=>⟨fun h=>Prod.ext rfl (qW h),fun h=>Prod.ext rfl (wW h)⟩⟩
def aJD:Con:=⟨153,aF,aC2,[.val ⟨false,aA,[]⟩,.val ⟨false,aA,[]⟩],[⟨false,tI,[0]⟩,⟨false,.bool,[0]⟩],false,none,
 ((fun _=>True):(bA)->Prop),
 ((fun x=>qQ x.1 x.2):(bA)->(Int × Bool))⟩
def aZA:T:=dE 0 0 <| eI 1 aA (iY 1) (iY 1) <| iS (.quo .i64) (cS 2) 2 <| jJ aA 1 1 (aDR .bool 3 bK) <| aDR .bool 3 (kP tI 1 2)
theorem aX9:Con.Holds Tryz.prog aJD:=tk ⟨[],[]⟩ aZA (aD aOS (aD aIG aL)) fun (x:bA) hx hp=>by
 dsimp only [aJD] at hx hp ⊢
 delta aZA aDH aAL;refine gH ?_
 intro _ ho
 have h0:=bSJ (qE fC x.1 x.2).1
 have h1:(nW (qE fC x.1 x.2).1 (qE fC x.1 x.2).1).1<=9223372036854775807:=ho.1.2
 rw[bZE h0]
 have h2:(nW (qE fC x.1 x.2).1 (qE fC x.1 x.2).1).1.fdiv 2=(nW (qE fC x.1 x.2).1 (qE fC x.1 x.2).1).1 / 2:=Int.fdiv_eq_ediv_of_nonneg _ (by decide)
 exact ⟨⟨by omega,by omega,by omega⟩,fun _=>⟨fun h=>Prod.ext rfl (qW h),fun h=>Prod.ext rfl (wW h)⟩⟩
def aD8:Con:=⟨145,(.cD0 aB aA),(.cD0 aJ .bool),[.val ⟨true,aB,[]⟩,.val ⟨false,aA,[]⟩],[⟨false,aJ,[2]⟩,⟨false,.bool,[0]⟩],false,none,
 ((fun _=>True):(aS × cK)->Prop),
 ((fun x=>oX x.1 x.2):(aS × cK)->(dG × Bool))⟩
def aXL:T:=nD 0 (tX aB) 1 2 aJ jF <| gG 1 aB aA 0 <| nD 2 (qO aA (kV aA 1) qN) 4 5 aJ jF <| yK 3 (kV aA 1) (kA 117 aA) 6 <| iN 98 bQ (tX aB) gX (mkA gX (eE aM cL 7)) <| kR bM (jX aJ 9) 8 10 (iV 98 bQ aB (tX aB) aJ 9 <| iV 117 aA aJ (dD gX 9) aJ 9 <| iV 117 aA aJ (dD gX 9) aJ 9 <| nV 4 (.cD2 bQ aA iX jC) 117 aA (iY 14) <| dM (tH 117 aA) aJ aJ (dD gX 9) 15 <| sJ gX 9 (gZ aJ 9 1 0 gX (eE mV bK 16)) <| gZ aJ 9 1 0 gX (eE mV (kP aA 1 14) 16)) (sI aJ (dD gX 9) gX 9)
theorem aOQ:Con.Holds Tryz.prog aD8:=tk ⟨[(2984,4009,oS 26 12++[.dr 2,.dr 0,.dr 1,.tm 29 0,.tm 7 0,.sl 3])],[(2991,4006,[23],[]),(2971,12015,[],[6])]⟩ aXL (aD oL (aD aQL (aD rY (aD pN (aD bBW aL))))) fun (x:aS × cK) hx hp=>by
 dsimp only [aD8] at hx hp ⊢
 obtain ⟨m,v⟩:=x
 delta aXL gB aH1 qC mS aGA;refine gH ?_
 simp only[Bool.not_eq_true',Bool.not_eq_false']
 refine ⟨fun h=>?_,fun h1 _=>⟨fun h=>?_,fun h2=>?_⟩⟩
 ·unfold oX;rw[if_neg (by rw[h];simp)]
 ·unfold oX;rw[if_neg (by rw[h];simp)]
 ·have hv:=(eC v).1 ((cP _ _).1 h2).1
  have hm:=(bR m).1 h1
  rw[show oX m v=_ from if_pos ⟨h1,h2⟩]
  refine ⟨by omega,fun _ _ _=>?_⟩
  refine fN (fun k=>((k:Int),(jD m v k).2,(jD m v k).1)) m.length rfl fun I μ k hk _ go=>?_
  dsimp only
  simp only[wC,tR]
  (repeat' first|intro _|(refine go _ ?_ ?_ ?_)|(refine go _ ?_ ?_)|(with_reducible apply And.intro))
  all_goals first|omega|(unfold maxLen;omega)|exact Prod.ext rfl (Prod.ext (qW (by assumption)) rfl)|exact Prod.ext rfl (Prod.ext (wW (by assumption)) rfl)|(have e:k=m.length:=(by omega);subst e;rfl)
def zV:Con:=⟨152,(.cD0 aB aA),(.cD0 aJ .bool),[.val ⟨false,aB,[]⟩,.val ⟨false,aA,[]⟩],[⟨false,aJ,[2]⟩,⟨false,.bool,[0]⟩],false,none,
 ((fun x=>sV x.2=true/\List.length x.1<=8):(aS × cK)->Prop),
 ((fun x=>jD x.1 x.2 (x.1:List dU).length):(aS × cK)->(dG × Bool))⟩
def aQ6:T:=iT (sS 3 8) aA aA aT (kV aA 1) <| oP 117 aA aX <| dX gX (mkA gX (eE aM cL 2)) 98 bQ (tX aB) <| kR bM (jX aJ 3) 4 5 (iV 98 bQ aB (tX aB) aJ 3 <| iV 117 aA aJ (dD gX 3) aJ 3 <| iV 117 aA aJ (dD gX 3) aJ 3 <| nV 0 (.cD2 bQ aA fB gP) 117 aA (iY 9) <| dM (tH 117 aA) aJ aJ (dD gX 3) 10 <| sJ gX 3 (gZ aJ 3 1 0 gX (eE kO bK 11)) <| gZ aJ 3 1 0 gX (eE kO (kP aA 1 9) 11)) (sI aJ (dD gX 3) gX 3)
theorem aI4:Con.Holds Tryz.prog zV:=tk ⟨[(2989,1003,oS 15 11++[.dr 1,.tm 8 0,.tm 7 0,.sl 2])],[(2996,1001,[13],[]),(2978,3010,[],[3])]⟩ aQ6 (aD bBI aL) fun (x:aS × cK) hx hp=>by
 dsimp only [zV] at hx hp ⊢
 obtain ⟨m,v⟩:=x
 obtain ⟨h1,hm⟩:sV v=true/\m.length<=8:=hp
 have hv:=(eC v).1 h1
 delta aQ6 aGF;refine gH ?_
 refine iC ?_
 refine ⟨⟨by omega,by unfold maxLen;omega⟩,fun _ _=>?_⟩
 ·skip
  refine fN (fun k=>((k:Int),(jD m v k).2,(jD m v k).1)) m.length rfl fun I μ k hk _ go=>?_
  dsimp only
  simp only[wC,tR]
  (repeat' first|intro _|(refine go _ ?_ ?_ ?_)|(refine go _ ?_ ?_)|(with_reducible apply And.intro))
  all_goals first|omega|(unfold maxLen;omega)|exact Prod.ext rfl (Prod.ext (qW (by assumption)) rfl)|exact Prod.ext rfl (Prod.ext (wW (by assumption)) rfl)|(have e:k=m.length:=(by omega);subst e;rfl)
def aIW:Con:=⟨148,(.cD0 aB (.cD0 aJ aA)),(.cD0 aJ yP),[.val ⟨false,aB,[]⟩,.val ⟨false,aJ,[]⟩,.val ⟨false,aA,[1]⟩],[⟨false,aJ,[1]⟩,⟨false,aA,[1]⟩,⟨false,.bool,[0]⟩],false,none,
 ((fun x=>List.length x.1<=8/\List.length x.1<=List.length x.2.1):(aS × (dG × cK))->Prop),
 ((fun x=>kH x.1 x.2.1 x.2.2):(aS × (dG × cK))->(dG × (cK × Bool)))⟩
def aWM:T:=bT 98 bQ (jO aB aJ aA 0) <| .cD1 (.rep 117 aA 24) aX <| kI 98 bQ (jO aB aJ aA 0) fJ 3 1 <| .loop (pM (eK aA aJ aA)) (mkA (pM (eK aA aJ aA)) [gD,cL,qJ aJ aA 0,iZ,qJ aJ aA 0]) <| sB .geq (jX (eK aA aJ aA) 5) 0 <| fY 6 (iV 98 bQ aB (jO aB aJ aA 0) (eK aA aJ aA) 5 <| iV 117 aA aJ (gQ aB aJ aA 1 0) (eK aA aJ aA) 5 <| sL 0 bQ aF [lN,gP,fV (pM (eK aA aJ aA)) 4 5] <| iV 117 aA aJ (aAM (pM (eK aA aJ aA)) 3 5) (eK aA aJ aA) 5 <| bFG 117 aA (.cD0 aJ bF) [aAM (pM (eK aA aJ aA)) 3 5,jX (eK aA aJ aA) 5,uN aA aA 1 9] <| sJ (pM (eK aA aJ aA)) 5 (aKR fJ (jX (eK aA aJ aA) 5) 1 0 (mkA (pM (eK aA aJ aA)) [kO,bK,lI aA 9,iX,lI aA 9])) <| aKR fJ (jX (eK aA aJ aA) 5) 1 0 (mkA (pM (eK aA aJ aA)) [kO,dD nH 9,lI aA 9,iX,lI aA 9])) (cO aC0 (aAM (pM (eK aA aJ aA)) 3 5) (fV (pM (eK aA aJ aA)) 4 5) (cQ (pM (eK aA aJ aA)) 5))
theorem aZE:Con.Holds Tryz.prog aIW:=tk ⟨[(2989,1005,oS 20 15++[.tm 11 0,.tm 10 0,.tm 2 0,.sl 2,.sl 1])],[(2978,3010,[],[4])]⟩ aWM (aD aZL aL) fun (x:aS × (dG × cK)) hx hp=>by
 dsimp only [aIW] at hx hp ⊢
 obtain ⟨m,r,d⟩:=x
 obtain ⟨hm,hr⟩:m.length<=8/\m.length<=r.length:=hp
 delta aWM aDW;refine gH ?_
 refine iC ?_
 obtain ⟨n,hn⟩:∃ n,n=m.length:=⟨_,rfl⟩
 rw[show kH m r d=iI m r d n n by rw[hn];rfl,<- hn]
 refine fun _=>⟨⟨by omega,by omega,by omega⟩,fun _ _=>⟨by omega,fun _=>?_⟩⟩
 refine fN (fun k=>((n:Int) - 1 - (k:Int),(iI m r d n k).2.2,(iI m r d n k).2.1,(iI m r d n k).1,(iI m r d n k).2.1)) n (by show (_,_)=(_,_);simp only[iI,Int.natCast_zero,Int.sub_zero];rfl) fun I μ k hk _ go=>?_
 dsimp only
 have hgl:=rD m r d n k
 by_cases hkn:k<n
 ·obtain ⟨j,hj⟩:∃ j,j=n - 1 - k:=⟨_,rfl⟩
  have e:(n:Int) - 1 - (k:Int)=(j:Int):=by omega
  rw[e] at go
  simp only[e,wC]
  have e2:∀ (F:Bool) (hF:F=((iI m r d n k).2.2 || (lR (m.getD j nO) (r.getD j []) (iI m r d n k).2.1).2.2)),((j:Int) - 1,F,(lR (m.getD j nO) (r.getD j []) (iI m r d n k).2.1).1,(iI m r d n k).1.set j (lR (m.getD j nO) (r.getD j []) (iI m r d n k).2.1).2.1,(lR (m.getD j nO) (r.getD j []) (iI m r d n k).2.1).1)=((n:Int) - 1 - ((k+1:Nat):Int),(iI m r d n (k+1)).2.2,(iI m r d n (k+1)).2.1,(iI m r d n (k+1)).1,(iI m r d n (k+1)).2.1):=fun F hF=>by
   rw[hF,iI,<- hj]
   exact Prod.ext (by show (j:Int) - 1=(n:Int) - 1 - ((k+1:Nat):Int);omega) rfl
  (repeat' first|intro _|(refine go _ ?_ ?_ ?_)|(refine go _ ?_ ?_)|(with_reducible apply And.intro))
  all_goals first|omega|exact e2 _ (qW (by assumption))|exact e2 _ (wW (by assumption))
 ·have e:k=n:=by omega
  subst e
  simp only[show (k:Int) - 1 - (k:Int) = -1 by omega,wC]
  (repeat' first|intro _|(refine go _ ?_ ?_ ?_)|(refine go _ ?_ ?_)|(with_reducible apply And.intro))
  all_goals first|omega|trivial|rfl
def aHO:Con:=⟨155,(.cD0 aB (.cD0 aJ aA)),(.cD0 aJ yP),[.val ⟨false,aB,[]⟩,.val ⟨false,aJ,[]⟩,.val ⟨false,aA,[]⟩],[⟨false,aJ,[0]⟩,⟨false,aA,[0]⟩,⟨false,.bool,[0]⟩],true,none,
 ((fun x=>List.length x.1<=8/\List.length x.1<=List.length x.2.1):(aS × (dG × cK))->Prop),
 ((fun x=>kH x.1 x.2.1 x.2.2):(aS × (dG × cK))->(dG × (cK × Bool)))⟩
def aXZ:T:=bT 98 bQ (jO aB aJ aA 0) <| .cD1 (.rep 117 aA 24) aX <| kI 98 bQ (jO aB aJ aA 0) fJ 3 1 <| yG (oJ aA aJ) (vQ (oJ aA aJ) [gD,cL,qJ aJ aA 0,iZ]) <| sB .geq (bO (oJ aA aJ) 5) 0 <| fY 6 (cR 98 bQ aB (jO aB aJ aA 0) (oJ aA aJ) 5 <| cR 117 aA aJ (gQ aB aJ aA 1 0) (oJ aA aJ) 5 <| sL 0 bQ aF [lN,gP,cJ (oJ aA aJ) 2 5] <| cR 117 aA aJ (fQ (oJ aA aJ) 3 5) (oJ aA aJ) 5 <| bFG 117 aA (.cD0 aJ bF) [fQ (oJ aA aJ) 3 5,bO (oJ aA aJ) 5,uN aA aA 1 9] <| .ite (cJ (oJ aA aJ) 1 5) (aKR fJ (bO (oJ aA aJ) 5) 1 0 (vQ (oJ aA aJ) [kO,bK,lI aA 9,iX])) <| aKR fJ (bO (oJ aA aJ) 5) 1 0 (vQ (oJ aA aJ) [kO,dD nH 9,lI aA 9,iX])) (cO aC0 (fQ (oJ aA aJ) 3 5) (cJ (oJ aA aJ) 2 5) (cJ (oJ aA aJ) 1 5))
theorem aZ1:Con.Holds Tryz.prog aHO:=tk ⟨[(2989,1005,oS 20 15++[.tm 11 0,.tm 10 0,.tm 2 0,.sl 1])],[(2978,3010,[],[3])]⟩ aXZ (aD aZ7 aL) fun (x:aS × (dG × cK)) hx hp=>by
 dsimp only [aHO] at hx hp ⊢
 obtain ⟨m,r,d⟩:=x
 obtain ⟨hm,hr⟩:m.length<=8/\m.length<=r.length:=hp
 delta aXZ aD9;refine gH ?_
 refine iC ?_
 obtain ⟨n,hn⟩:∃ n,n=m.length:=⟨_,rfl⟩
 rw[show kH m r d=iI m r d n n by rw[hn];rfl,<- hn]
 refine fun _=>⟨⟨by omega,by omega,by omega⟩,fun _ _=>⟨by omega,fun _=>?_⟩⟩
 refine fN (fun k=>((n:Int) - 1 - (k:Int),(iI m r d n k).2.2,(iI m r d n k).2.1,(iI m r d n k).1)) n (by show (_,_)=(_,_);simp only[iI,Int.natCast_zero,Int.sub_zero];rfl) fun I μ k hk _ go=>?_
 dsimp only
 have hgl:=rD m r d n k
 by_cases hkn:k<n
 ·obtain ⟨j,hj⟩:∃ j,j=n - 1 - k:=⟨_,rfl⟩
  have e:(n:Int) - 1 - (k:Int)=(j:Int):=by omega
  rw[e] at go
  simp only[e,wC]
  have e2:∀ (F:Bool) (hF:F=((iI m r d n k).2.2 || (lR (m.getD j nO) (r.getD j []) (iI m r d n k).2.1).2.2)),((j:Int) - 1,F,(lR (m.getD j nO) (r.getD j []) (iI m r d n k).2.1).1,(iI m r d n k).1.set j (lR (m.getD j nO) (r.getD j []) (iI m r d n k).2.1).2.1)=((n:Int) - 1 - ((k+1:Nat):Int),(iI m r d n (k+1)).2.2,(iI m r d n (k+1)).2.1,(iI m r d n (k+1)).1):=fun F hF=>by
   rw[hF,iI,<- hj]
   exact Prod.ext (by show (j:Int) - 1=(n:Int) - 1 - ((k+1:Nat):Int);omega) rfl
  (repeat' first|intro _|(refine go _ ?_ ?_ ?_)|(refine go _ ?_ ?_)|(with_reducible apply And.intro))
  all_goals first|omega|exact e2 _ (qW (by assumption))|exact e2 _ (wW (by assumption))
 ·have e:k=n:=by omega
  subst e
  simp only[show (k:Int) - 1 - (k:Int) = -1 by omega,wC]
  (repeat' first|intro _|(refine go _ ?_ ?_ ?_)|(refine go _ ?_ ?_)|(with_reducible apply And.intro))
  all_goals first|omega|trivial|rfl
def aR5:Con:=⟨88,(.cD0 aB aF),.bool,[.val ⟨true,aB,[]⟩,.val ⟨true,aF,[]⟩],[⟨false,.bool,[0]⟩],false,none,
 ((fun _=>True):(aS × bA)->Prop),
 ((fun x=>bY x.1&&lF x.1 x.2):(aS × bA)->(Bool))⟩
def bLM:T:=gG 0 aB aF 0 <| gV 1 <| gG 1 aB aF 0 <| cI 2 aA (mW aB aF 0) iZ <| gV 3 <| gG 3 aB aF 0 <| cI 2 aA (kV aF 2) gD <| cM 5
theorem bKC:Con.Holds Tryz.prog aR5:=tk ⟨[],[]⟩ bLM (aD oL (aD aQL (aD rY (aD aME aL)))) fun (x:aS × bA) hx hp=>by
 dsimp only [aR5] at hx hp ⊢
 delta bLM gB aH1 qC aCS;refine gH ?_
 refine ⟨fun h1 _=>⟨fun h2 _=>?_,fun h2=>?_⟩,fun h1=>?_⟩
 ·unfold lF;rw[h1,h2];simp
 ·unfold lF;rw[h2];simp
 ·rw[h1];rfl
def aBP:Con:=⟨54,(.cD0 aB aE),.bool,[.val ⟨true,aB,[]⟩,.val ⟨false,aE,[]⟩],[⟨false,.bool,[0]⟩],false,none,
 ((fun _=>True):(aS × bW)->Prop),
 ((fun x=>iQ x.1 x.2):(aS × bW)->(Bool))⟩
def aUU:T:=jE 0 (dT aB aE) 1 2 <| kI 77 aF (kV aE 1) bM 3 1 <| eQ 4 <| bT 77 aF (kV aE 1) <| dY iR 5 <| eQ 6 <| iN 77 aF (kV aE 1) tI aM <| tE 8 7 9 (bN 77 aF aE (kV aE 1) 8 <| jE 1 (.cD2 aB aF (dT aB aE) gN) 11 12 <| kF gP 1 0 jC) bK
theorem aK7:Con.Holds Tryz.prog aBP:=tk ⟨[(2988,8008,oS 19 7++[.dr 0,.dr 1,.tm 22 0])],[]⟩ aUU (aD oL (aD bKC aL)) fun (x:aS × bW) hx hp=>by
 dsimp only [aBP] at hx hp ⊢
 obtain ⟨m,b⟩:=x
 have hm:b.length<=9223372036854775807:=hx.2.1
 delta aUU gB aR5;refine gH ?_
 refine iC ?_
 refine ⟨fun h=>bI0 h,fun h1 _=>⟨fun h=>aYR (by omega),fun h2 _=>⟨fun h=>aYR (by omega),fun h3 _=>?_⟩⟩⟩
 refine xL (fun k=>(k:Int)) (fun k=>(List.take k b).all (lF m)=true) b.length rfl rfl fun I μ k hk hG _ go=>?_
 try dsimp only
 rw[h1]
 simp only[Bool.true_and]
 refine iC ?_
 constructor
 ·intro hlt
  have hk':k<b.length:=by omega
  have e:=xX (lF m) b hk'
  rw[hG,Bool.true_and] at e
  simp only[aO hk']
  (repeat' first|intro _|(refine go _ ?_ ?_ ?_)|(refine go _ ?_ ?_)|(with_reducible apply And.intro))
  all_goals first|omega|(rename_i hh;exact bJW (aFN hk' (hh.resolve_left (by simp[h1]))))|(rename_i hh _;exact e.trans hh.2)|rfl
 ·intro hge
  rw[List.take_of_length_le (by omega)] at hG
  exact bQ0 h1 ⟨by omega,by omega⟩ hG
def aHF:Con:=⟨94,aB,tI,[.val ⟨true,aB,[]⟩],[⟨false,tI,[0]⟩],false,none,
 ((fun _=>True):(aS)->Prop),
 ((fun x=>jP x):(aS)->(Int))⟩
def bLK:T:=dC 0 cX 1 2 aM <| dP 98 bQ aB cX aM <| .ret (rM 3)
theorem bK5:Con.Holds Tryz.prog aHF:=tk ⟨[],[]⟩ bLK (aD rH aL) fun (x:aS) hx hp=>by
 dsimp only [aHF] at hx hp ⊢
 delta bLK oG;refine gH ?_
 simp only[Bool.not_eq_true',Bool.not_eq_false']
 refine ⟨fun h=>?_,fun h=>?_⟩
 ·unfold jP;rw[h];rfl
 ·have:=(bR x).1 h
  refine ⟨by omega,fun _=>?_⟩
  unfold jP;rw[if_pos h];rfl
def aCX:Con:=⟨95,aB,tI,[.val ⟨true,aB,[]⟩],[⟨false,tI,[0]⟩],false,none,
 ((fun _=>True):(aS)->Prop),
 ((fun x=>eN x):(aS)->(Int))⟩
def bEK:T:=dC 0 cX 1 2 aM <| kI 98 bQ cX fJ 3 1 <| bN 98 bQ aB cX 4 <| .ret (tK 5)
theorem bCI:Con.Holds Tryz.prog aCX:=tk ⟨[],[]⟩ bEK (aD rH aL) fun (x:aS) hx hp=>by
 dsimp only [aCX] at hx hp ⊢
 delta bEK oG;refine gH ?_
 simp only[Bool.not_eq_true',Bool.not_eq_false']
 refine ⟨fun h=>?_,fun h=>?_⟩
 ·unfold eN;rw[h];rfl
 ·have:=(bR x).1 h
  refine fun _=>⟨by omega,fun _=>⟨by omega,fun _=>?_⟩⟩
  unfold eN;rw[if_pos h,aHU];rfl
def yN:Con:=⟨57,(.cD0 aB aE),.bool,[.val ⟨true,aB,[]⟩,.val ⟨false,aE,[]⟩],[⟨false,.bool,[0]⟩],false,none,
 ((fun _=>True):(aS × bW)->Prop),
 ((fun x=>iQ x.1 x.2):(aS × bW)->(Bool))⟩
def aU4:T:=jE 0 (dT aB aE) 1 2 <| bT 77 aF (kV aE 1) <| kS 1 aQ (iO qN gF 5) 4 5 cL <| dX tI aM 77 aF (kV aE 1) <| tE 6 7 8 (bN 77 aF aE (kV aE 1) 6 <| jE 2 (qT aA aA 9) 10 11 <| bN 77 aF aE (kV aE 1) 6 <| jE 2 (xA 12) 13 14 <| bN 77 aF aE (kV aE 1) 6 <| cN (qT aA aA 15) <| gG 3 aB aE 0 <| tM eW 16 17 18 <| bN 77 aF aE (kV aE 1) 6 <| cN (xA 19) <| gG 4 aB aE 0 <| tM eW 20 21 22 <| rR fB 1 0 23) bK
theorem aF0:Con.Holds Tryz.prog yN:=tk ⟨[(2988,4006,oS 14 6++[.dr 0,.tm 5 0])],[]⟩ aU4 (aD rH (aD mC (aD mZ (aD bK5 (aD bCI aL))))) fun (x:aS × bW) hx hp=>by
 dsimp only [yN] at hx hp ⊢
 obtain ⟨m,b⟩:=x
 have hm:b.length<=9223372036854775807:=hx.2.1
 delta aU4 oG kY lH aHF aCX;refine gH ?_
 simp only[wC,aI7,aIR]
 refine ⟨fun h=>bI0 h,fun h1 _=>⟨fun h=>aYR (by omega),fun h2=>?_⟩⟩
 refine xL (fun k=>(k:Int)) (fun k=>(List.take k b).all (lF m)=true) b.length rfl rfl fun I μ k hk hG _ go=>?_
 try dsimp only
 refine iC ?_
 intro _
 constructor
 ·intro hlt
  have hk':k<b.length:=by omega
  have e:=xX (lF m) b hk'
  rw[hG,Bool.true_and] at e
  have bad:lF m b[k]=false->false=iQ m b:=fun h=>bJW (aFN hk' h)
  simp only[aO hk']
  (repeat' first|intro _|(refine go _ ?_ ?_ ?_)|(refine go _ ?_ ?_)|(with_reducible apply And.intro))
  all_goals first|omega|exact bad (bFC (.inl (by assumption)))|exact bad (bFC (.inr (.inl (by assumption))))|exact bad (bFC (.inr (.inr (.inl (by assumption)))))|exact bad (bFC (.inr (.inr (.inr (by assumption)))))|exact e.trans (cBH (by assumption) (by assumption) (by assumption) (by assumption))|rfl
 ·intro hge
  rw[List.take_of_length_le (by omega)] at hG
  exact bQ0 h1 ⟨by omega,by omega⟩ hG
end
noncomputable section
set_option maxRecDepth 100000
theorem bC8 (d x:List Int):(aC7 d x).1.2.2.length<=36:=by
 unfold aC7
 split
 ·rename_i h
  have h1:=(eC d).1 h.1
  have h2:=(eC x).1 h.2
  show (zZ (aDS d x) d.length).length<=36
  rw[aBJ (f:=aDS d x) (L:=x.length) (fun i=>eX _ _)]
  exact Nat.le_trans (Nat.mul_le_mul h1.2.1 h2.2.1) (by decide)
 ·exact Nat.zero_le _
theorem bSM (o:dU) (x d:List Int):(lR o x d).2.1.length<=36:=by
 unfold lR
 split
 ·exact Nat.zero_le _
 ·rename_i h
  rw[Classical.not_not] at h
  have hd:=(eC _).1 ((cP _ _).1 h.2.2).1
  split
  ·exact bC8 d x
  ·split
   ·show d.length<=36;omega
   ·split
    ·exact (by decide:1<=36)
    ·split
     ·exact bC8 d x
     ·exact Nat.zero_le _
theorem aOP (m:List dU) (r:dG) (d:List Int) (n:Nat):(k:Nat)->∀ v∈(iI m r d n k).1,List.length v<=36
 | 0=>fun v hv=>by rw[List.eq_of_mem_replicate hv];exact Nat.zero_le _
 | k+1=>fun v hv=>by
  rcases List.mem_or_eq_of_mem_set hv with h|rfl
  ·exact aOP m r d n k v h
  ·exact bSM _ _ _
def GB (g:dV):Prop:=g.1.length<=8/\∀ r∈g.1,List.length r<=36
theorem GB.ok {g:dV} (h:GB g):yM g:=⟨Nat.le_trans h.1 (by decide),fun r hr=>Nat.le_trans (h.2 r hr) (by decide)⟩
theorem bIO (m:List dU) (p:bA):GB (mH m p):=by
 unfold mH
 split
 ·rename_i h
  have hm:=(bR m).1 h.1
  exact ⟨by show (iI _ _ _ _ _).1.length<=8;rw[rD];omega,aOP _ _ _ _ _⟩
 ·exact ⟨Nat.zero_le _,fun r hr=>by cases hr⟩
theorem bVT {o:dU} (h:opB o=true):o.2.2.2.length<=36:=by
 have h1:=((lQ o).1 h).1
 have h2:lM o<=36:=by
  unfold lM
  split
  ·omega
  ·have:=bCH (a:=o.2.1) (b:=o.2.2.1) (by omega) (by omega) (by omega) (by omega)
   split
   ·omega
   ·split
    ·omega
    ·split <;> omega
 omega
theorem bHY (m:List dU):GB (yQ m):=by
 unfold yQ
 split
 ·rename_i h
  have hm:=(bR m).1 h
  refine ⟨by show (kJ m).length<=8;rw[rE];omega,fun r hr=>?_⟩
  obtain ⟨o,ho,rfl⟩:=List.mem_map.1 (show r∈m.map fun o=>List.replicate o.2.2.2.length 0 from hr)
  obtain ⟨i,hi,rfl⟩:=List.getElem_of_mem ho
  rw[List.length_replicate]
  exact bVT ((uY m hi).1 (hm.2.2 i hi)).1
 ·exact ⟨Nat.zero_le _,fun r hr=>by cases hr⟩
theorem bP6:(a b:List (List Int))->(∀ r∈a,List.length r<=36)->∀ r∈eV a b,List.length r<=36
 | [],_,_,r,hr=>by simp[eV] at hr
 | _ :: _,[],_,r,hr=>by simp[eV] at hr
 | x :: a,y :: b,h,r,hr=>by
  rcases List.mem_cons.1 (show r∈aAU x y :: eV a b from hr) with rfl|h'
  ·rw[aBG];have:=h x List.mem_cons_self;omega
  ·exact bP6 a b (fun r hr=>h r (List.mem_cons_of_mem _ hr)) r h'
theorem cAU {a b:dV} (h:GB a):GB (qP a b):=⟨by show (eV a.1 b.1).length<=8;rw[nB];have:=h.1;omega,bP6 a.1 b.1 h.2⟩
def aA0 (m:List dU) (b:List bA):Nat->dV
 | 0=>yQ m
 | k+1=>qP (aA0 m b k) (mH m (b.getD k (aK aF)))
theorem aW0 (m:List dU) (b:List bA):(k:Nat)->GB (aA0 m b k)
 | 0=>bHY m
 | k+1=>cAU (aW0 m b k)
def aM0 (m:List dU) (b:List bA):dV:=if iQ m b=true then aA0 m b b.length else ([],0,false)
theorem bCF {m:List dU} (h:bY m=true):sQ m:=by
 have hm:=(bR m).1 h
 refine ⟨by omega,fun o ho=>?_⟩
 obtain ⟨i,hi,rfl⟩:=List.getElem_of_mem ho
 exact Nat.le_trans (bVT ((uY m hi).1 (hm.2.2 i hi)).1) (by decide)
theorem bSB (m:List dU) (p:bA):iQ m [p]=(bY m&&lF m p):=by
 unfold iQ;simp
theorem bV6 {a b c d:Bool} (h:a=true):true=(((a || b) || c) || d):=by rw[h];simp
theorem bSY {a b c d:Bool} (h:a=false) (h2:b=true):true=(((a || b) || c) || d):=by rw[h,h2];simp
theorem bOS {a b c d:Bool} (h:a=false) (h2:b=false) (h3:c=true):true=(((a || b) || c) || d):=by rw[h,h2,h3];simp
theorem bO8 {a b c d:Bool} (h:a=false) (h2:b=false) (h3:c=false):d=(((a || b) || c) || d):=by rw[h,h2,h3];simp
def aE4:Con:=⟨91,(.cD0 aB aF),aG,[.val ⟨true,aB,[]⟩,.val ⟨true,aF,[]⟩],[⟨true,aG,[1,0,0]⟩],false,none,
 ((fun _=>True):(aS × bA)->Prop),
 ((fun x=>mH x.1 x.2):(aS × bA)->(dV))⟩
def aM4:T:=dC 0 cX 1 2 (cO aG jF aM cL) <| eI 1 aB (dT aB aF) (mW aB aF 0) <| bT 98 bQ (dT aB aF) <| kZ (oZ 3) 4 <| kZ (oZ 3) 4 <| eI 2 aA fB (kV aF 2) <| eI 3 aA fB (kV aF 2) <| uH 4 aJ aA [dT aB aF,oZ 3,iY 8] <| jJ aJ 1 3 (fA aG (lI aJ 9) (cS 7) bK) <| jJ tI 1 7 (fA aG (lI aJ 9) (cS 7) bK) <| jJ aA 1 8 (fA aG (lI aJ 9) (cS 7) bK) <| fA aG (lI aJ 9) (cS 7) (dD aC0 9)
theorem aXS:Con.Holds Tryz.prog aE4:=tk ⟨[],[(2983,2009,[],[5,6])]⟩ aM4 (aD bKC (aD aOQ (aD aY8 (aD aP5 (aD aZE aL))))) fun (x:aS × bA) hx hp=>by
 dsimp only [aE4] at hx hp ⊢
 obtain ⟨m,p⟩:=x
 delta aM4 aR5 aD8 aHQ aD2 aIW;refine gH ?_
 simp only[Bool.not_eq_true',Bool.not_eq_false',Bool.and_eq_true,Bool.and_eq_false_iff]
 refine ⟨fun h=>?_,fun h=>?_⟩
 ·unfold mH;rw[if_neg (fun hh=>by rcases h with h|h;rw[h] at hh;cases hh.1;rw[h] at hh;cases hh.2)]
 have hm:=(bR m).1 h.1
 have hv:dJ p.1 (jP m)=true:=by have:=h.2;unfold lF at this;exact (Bool.and_eq_true _ _ ▸ this).1
 have hin:oX m p.1=jD m p.1 m.length:=if_pos ⟨h.1,hv⟩
 have hl:(oX m p.1).1.length=m.length+1:=by rw[hin,tR]
 rw[show mH m p=_ from if_pos h]
 generalize oX m p.1=R at *
 clear hin
 (repeat' first|intro _|(with_reducible apply And.intro))
 all_goals first|omega|exact Prod.ext rfl (Prod.ext rfl (bV6 (by assumption)))|exact Prod.ext rfl (Prod.ext rfl (bSY (by assumption) (by assumption)))|exact Prod.ext rfl (Prod.ext rfl (bOS (by assumption) (by assumption) (by assumption)))|exact Prod.ext rfl (Prod.ext rfl (bO8 (by assumption) (by assumption) (by assumption)))
def aDJ:Con:=⟨98,(.cD0 aB aF),aG,[.val ⟨true,aB,[]⟩,.val ⟨true,aF,[]⟩],[⟨true,aG,[0,0,0]⟩],true,none,
 ((fun _=>True):(aS × bA)->Prop),
 ((fun x=>mH x.1 x.2):(aS × bA)->(dV))⟩
def aKB:T:=oP 77 aF (kV aF 1) <| dC 0 (.cD2 aB aE (dT aB aF) aX) 2 3 (cO aG jF aM cL) <| eI 1 aB (dT aB aF) (mW aB aF 0) <| kI 117 aA (oZ 4) fJ 5 1 <| kZ (oZ 4) 6 <| kZ (oZ 4) 6 <| eI 2 aA gP (kV aF 2) <| eI 3 aA gP (kV aF 2) <| uH 4 aJ aA [dT aB aF,oZ 4,iY 10] <| jJ aJ 1 4 (fA aG (lI aJ 11) (cS 9) bK) <| jJ tI 1 9 (fA aG (lI aJ 11) (cS 9) bK) <| jJ aA 1 10 (fA aG (lI aJ 11) (cS 9) bK) <| fA aG (lI aJ 11) (cS 9) (dD aC0 11)
theorem bB4:Con.Holds Tryz.prog aDJ:=tk ⟨[],[(2983,2011,[],[6,7])]⟩ aKB (aD aF0 (aD aI4 (aD aX9 (aD aOS (aD aZ1 aL))))) fun (x:aS × bA) hx hp=>by
 dsimp only [aDJ] at hx hp ⊢
 obtain ⟨m,p⟩:=x
 delta aKB yN zV aJD aDH aHO;refine gH ?_
 rw[bSB]
 simp only[Bool.not_eq_true',Bool.not_eq_false',Bool.and_eq_true,Bool.and_eq_false_iff]
 refine fun _=>⟨fun h=>?_,fun h=>?_⟩
 ·unfold mH;rw[if_neg (fun hh=>by rcases h with h|h;rw[h] at hh;cases hh.1;rw[h] at hh;cases hh.2)]
 have hm:=(bR m).1 h.1
 have hv:dJ p.1 (jP m)=true:=by have:=h.2;unfold lF at this;exact (Bool.and_eq_true _ _ ▸ this).1
 have hin:oX m p.1=jD m p.1 m.length:=if_pos ⟨h.1,hv⟩
 have hl:=tR m p.1 m.length
 rw[show mH m p=_ from if_pos h,hin]
 clear hin
 generalize jD m p.1 m.length=R at *
 have ek:((R.1.length:Int) - 1).toNat=m.length:=by omega
 rw[ek]
 (repeat' first|intro _|(with_reducible apply And.intro))
 all_goals first|omega|exact ((cP _ _).1 hv).1|exact Prod.ext rfl (Prod.ext rfl (bV6 (by assumption)))|exact Prod.ext rfl (Prod.ext rfl (bSY (by assumption) (by assumption)))|exact Prod.ext rfl (Prod.ext rfl (bOS (by assumption) (by assumption) (by assumption)))|exact Prod.ext rfl (Prod.ext rfl (bO8 (by assumption) (by assumption) (by assumption)))
def aD1:Con:=⟨55,(.cD0 aB aE),aG,[.val ⟨true,aB,[]⟩,.val ⟨false,aE,[]⟩],[⟨true,aG,[2,0,0]⟩],false,none,
 ((fun _=>True):(aS × bW)->Prop),
 ((fun x=>aM0 x.1 x.2):(aS × bW)->(dV))⟩
def aL5:T:=dC 0 cX 1 2 (cO aG jF aM cL) <| gG 1 aB aE 0 <| iN 77 aF (kV aE 1) (kL gX) (vQ gX [aM,cQ aG 3,dD aG 3,pX aJ tI 3]) <| nR gX 5 4 6 (cR 77 aF aE (kV aE 1) gX 5 <| yJ 2 aB aF (dT aB aE) lN <| yJ 3 aG aG (cO aG (fQ gX 3 5) (cJ gX 1 5) (cJ gX 2 5)) gP <| uM (bO gX 5) 1 0 gX [gN,cQ aG 9,dD aG 9,pX aJ tI 9]) (cO aG (fQ gX 3 5) (cJ gX 1 5) (cJ gX 2 5))
theorem aYS:Con.Holds Tryz.prog aD1:=tk ⟨[(2986,2005,[.dr 14,.dr 13]++oS 11 8++[.dr 0,.dr 1,.tm 17 0,.bx 5 1,.bx 5 2,.sl 4])],[]⟩ aL5 (aD aK7 (aD aNJ (aD aXS (aD aS7 aL)))) fun (x:aS × bW) hx hp=>by
 dsimp only [aD1] at hx hp ⊢
 obtain ⟨m,b⟩:=x
 delta aL5 aBP aB3 aE4 aCK;refine gH ?_
 simp only[Bool.not_eq_true',Bool.not_eq_false']
 refine ⟨fun h=>?_,fun h=>?_⟩
 ·unfold aM0;rw[if_neg (by rw[h];simp)]
 have hb:=(vC m b).1 h
 have hm:=(bR m).1 hb.1
 rw[show aM0 m b=_ from if_pos h]
 refine ⟨bCF hb.1,fun _ _=>?_⟩
 refine fN (fun k=>((k:Int),(aA0 m b k).2.1,(aA0 m b k).2.2,(aA0 m b k).1)) b.length rfl fun I μ k hk _ go=>?_
 dsimp only
 (refine iC ?_;try with_reducible exact True.intro)
 (repeat' first|intro _|(refine go _ ?_ ?_ ?_)|(refine go _ ?_ ?_)|(with_reducible apply And.intro))
 all_goals first|omega|exact (aW0 m b k).ok|exact (bIO _ _).ok|rfl|(have e:k=b.length:=(by omega);subst e;rfl)
def aDF:Con:=⟨58,(.cD0 aB aE),aG,[.val ⟨true,aB,[]⟩,.val ⟨false,aE,[]⟩],[⟨true,aG,[2,0,0]⟩],false,none,
 ((fun _=>True):(aS × bW)->Prop),
 ((fun x=>aM0 x.1 x.2):(aS × bW)->(dV))⟩
def aKG:T:=dC 0 cX 1 2 (cO aG jF aM cL) <| gG 1 aB aE 0 <| dX (kL gX) (vQ gX [aM,cQ aG 3,dD aG 3,pX aJ tI 3]) 77 aF (kV aE 1) <| nR gX 4 5 6 (cR 77 aF aE (kV aE 1) gX 4 <| yJ 2 aB aF (dT aB aE) lN <| yJ 3 aG aG (cO aG (fQ gX 3 4) (cJ gX 1 4) (cJ gX 2 4)) gP <| uM (bO gX 4) 1 0 gX [gN,cQ aG 9,dD aG 9,pX aJ tI 9]) (cO aG (fQ gX 3 4) (cJ gX 1 4) (cJ gX 2 4))
theorem aZC:Con.Holds Tryz.prog aDF:=tk ⟨[(2986,2004,[.dr 13,.dr 12]++oS 10 7++[.dr 0,.tm 6 0,.bx 5 1,.bx 5 2,.sl 4])],[]⟩ aKG (aD aF0 (aD aO7 (aD bB4 (aD aRS aL)))) fun (x:aS × bW) hx hp=>by
 dsimp only [aDF] at hx hp ⊢
 obtain ⟨m,b⟩:=x
 delta aKG yN aAW aDJ aCM;refine gH ?_
 simp only[Bool.not_eq_true',Bool.not_eq_false']
 refine ⟨fun h=>?_,fun h=>?_⟩
 ·unfold aM0;rw[if_neg (by rw[h];simp)]
 have hb:=(vC m b).1 h
 have hm:=(bR m).1 hb.1
 rw[show aM0 m b=_ from if_pos h]
 refine ⟨bCF hb.1,fun _=>?_⟩
 refine fN (fun k=>((k:Int),(aA0 m b k).2.1,(aA0 m b k).2.2,(aA0 m b k).1)) b.length rfl fun I μ k hk _ go=>?_
 dsimp only
 (refine iC ?_;try with_reducible exact True.intro)
 (repeat' first|intro _|(refine go _ ?_ ?_ ?_)|(refine go _ ?_ ?_)|(with_reducible apply And.intro))
 all_goals first|omega|exact (aW0 m b k).ok|exact (bIO _ _).ok|rfl|(have e:k=b.length:=(by omega);subst e;rfl)
end
noncomputable section
set_option maxRecDepth 100000
theorem bPK (x:Int):0<=aNX .and .i64 x 255/\aNX .and .i64 x 255<=255:=bI6 (m:=255) (by decide)
theorem cB0 {α:Type} {l:List α} (h:l.length<=maxLen):l.length<=9223372036854775807:=by unfold maxLen at h;omega
theorem tmB {a n:Int} (ha:0<=a) (hn:0<n):0<=a.tmod n/\a.tmod n<n:=by
 rw[Int.tmod_eq_emod_of_nonneg ha]
 exact ⟨Int.emod_nonneg _ (by omega),Int.emod_lt_of_pos _ hn⟩
theorem tdB {a p:Int} (h1:-600000<=a) (h2:a<=600000):-600000<=a.tdiv p/\a.tdiv p<=600000:=by
 have h:=Int.natAbs_tdiv a p
 have h3:=Nat.div_le_self a.natAbs p.natAbs
 have h4:a.natAbs.div p.natAbs=a.natAbs / p.natAbs:=rfl
 omega
theorem bOC {m:aS} (h:bY m=true) {k:Nat} (hk:k<m.length):1<=m[k].2.1/\m[k].2.1<=6/\1<=m[k].2.2.1/\m[k].2.2.1<=6:=by
 have:=((bR m).1 h).2.2 k hk
 obtain ⟨⟨_,_,h1,h2,h3,h4,_⟩,_⟩:=(lQ _).1 ((uY m hk).1 this).1
 exact ⟨h1,h2,h3,h4⟩
theorem cBP (m:aS):0<=jP m/\jP m<=6:=by
 unfold jP
 split
 ·rename_i h
  have hl:=(bR m).1 h
  have h0:0<m.length:=by omega
  have:=bOC h h0
  rw[aO h0]
  omega
 ·omega
theorem bZ6 (m:aS):0<=eN m/\eN m<=6:=by
 unfold eN
 split
 ·rename_i h
  have hl:=(bR m).1 h
  have h0:List.length m - 1<m.length:=by omega
  have:=bOC h h0
  rw[aO h0]
  omega
 ·omega
theorem cB7 {k i o:Int} (h1:1<=i) (h2:i<=6) (h3:1<=o) (h4:o<=6):0<=lM (k,i,o,[])/\lM (k,i,o,[])<=36:=by
 have:=bCH h1 h2 h3 h4
 unfold lM
 dsimp only
 repeat' split
 all_goals omega
theorem bWA {k i o:Int} {P:List Int} (k1:1<=k) (k5:k<=5) (h1:1<=i) (h2:i<=6) (h3:1<=o) (h4:o<=6) (hk:k≠1->i=o) (hl:P.length=(lM (k,i,o,[])).toNat) (ha:∀ v∈P,mK v=true):opB (k,i,o,P)=true:=by
 have hs:=cB7 (k:=k) h1 h2 h3 h4
 refine (lQ _).2 ⟨⟨k1,k5,h1,h2,h3,h4,hk,?_⟩,List.all_eq_true.2 ha⟩
 show (P.length:Int)=lM (k,i,o,[])
 omega
def chB (l:List dU) (g:Int):Prop:=(∀ i,i<l.length->aVF l i=true)/\(0<l.length->(l.getD (l.length - 1) nO).2.2.1=g)
theorem bUJ {l:List dU} {o:dU} {g:Int} (h:chB l g) (ho:opB o=true) (hi:o.2.1=g):chB (l++[o]) o.2.2.1:=by
 have e:∀ j,j<l.length->(l++[o]).getD j nO=l.getD j nO:=fun j hj=>by
  rw[List.getD_eq_getElem?_getD,List.getD_eq_getElem?_getD,List.getElem?_append_left hj]
 have e2:(l++[o]).getD l.length nO=o:=by
  rw[List.getD_eq_getElem?_getD,List.getElem?_append_right (Nat.le_refl _),Nat.sub_self];rfl
 have el:(l++[o]).length=l.length+1:=by rw[List.length_append];rfl
 refine ⟨fun i hlt=>?_,fun _=>?_⟩
 ·rw[el] at hlt
  rcases Nat.lt_or_eq_of_le (Nat.le_of_lt_succ hlt) with h1|rfl
  ·have:=h.1 i h1
   unfold aVF at this ⊢
   rw[e i h1,e (i - 1) (by omega)];exact this
  ·unfold aVF
   rw[e2,ho]
   by_cases h0:l.length=0
   ·rw[decide_eq_true h0];rfl
   ·rw[e (l.length - 1) (by omega),h.2 (by omega),decide_eq_true (show g=o.2.1 from hi.symm),Bool.or_true];rfl
 ·rw[el,Nat.add_sub_cancel,e2]
theorem bQL {v:List Int} {n:Int} (h1:1<=n) (h6:n<=6) (hl:v.length=n.toNat) (ha:∀ x∈v,mK x=true):dJ v n=true:=by
 unfold dJ
 rw[(eC v).2 ⟨by omega,by omega,List.all_eq_true.2 ha⟩,decide_eq_true (show (v.length:Int)=n by omega)];rfl
theorem cBL {m:aS} (h:bY m=true):1<=jP m/\1<=eN m:=by
 have hl:=(bR m).1 h
 unfold jP eN
 rw[if_pos h,if_pos h]
 have h0:=bOC h (show 0<m.length by omega)
 have h9:=bOC h (show m.length - 1<m.length by omega)
 rw[aO (show 0<m.length by omega),aO (show List.length m - 1<m.length by omega)]
 exact ⟨h0.1,h9.2.2.1⟩
theorem okI {n:Int} (h1:-9223372036854775808<=n) (h2:n<=9223372036854775807):okD tI n:=⟨h1,h2⟩
theorem okL {e:TypeId} {l:List Int} (hl:l.length<=1000) (h:∀ y∈l,-9223372036854775808<=y/\y<=9223372036854775807):okD (.slice e tI) l:=⟨by unfold maxLen;exact Nat.le_trans hl (by decide),h⟩
def aOG:Con:=⟨136,hZ,aU1,[.box 119 ⟨true,hZ,[]⟩],[⟨false,tI,[0]⟩],false,none,
 ((fun x=>0<=x.2.1):(aW)->Prop),
 ((fun _=>aK (.cD0 tI (.cD0 (.slice 5 (.int .u8)) aQ))):(aW)->(Int × aW))⟩
def aP8:T:=iS (.arw .mul .i64) (gK cF aQ 2) 6364136223846793005 <| iS (.arw .add .i64) aX 1442695040888963407 <| iT (.shr .i64 .u64) tI (.int .u64) iZ (.ci .u64 33) <| iT (.shr .i64 .u64) tI (.int .u64) iZ (.ci .u64 45) <| kC (.bits .xor .i64) 3 4 <| gT (.bits .and .i64) 5 255 <| bT 5 (.int .u8) (dT cF aQ) <| kR bM (cQ cD 0) 7 8 (dP 5 (.int .u8) cF (dT cF aQ) (cQ cD 0) <| .cD1 (.conv .u8 .i64) mT <| kC (.arw .add .i64) 6 10 <| gT (.bits .and .i64) 11 255 <| iS (.arw .add .i64) (cQ cD 0) 1 <| aEG mQ [kO,dT cF aQ,jC,iZ]) (mkA mQ [fB,dT cF aQ,cQ cD 0,iZ])
theorem bNI (f:(aW)->(Int × aW)):aGU Tryz.prog [] { aOG with fn:=f } true 3000 ⟨[],[]⟩ = .ok aP8:=by kernel_rfl
theorem bMJ (x:aW) (hx:okD (.cD0 (.slice 5 (.int .u8)) aQ) x) (hp:(fun x=>0<=x.2.1) x):aP8.wp [] [⟨(.cD0 (.slice 5 (.int .u8)) aQ),x⟩] [] (fun v=>(fun x r=>0<=r.1/\r.1<=255/\0<=r.2.2.1:(aW)->(Int × aW)->Prop) x (v.as (.cD0 tI (.cD0 (.slice 5 (.int .u8)) aQ)))):=by
 obtain ⟨b,i,h⟩:=x
 change 0<=i at hp
 have hb:b.length<=9223372036854775807:=cB0 hx.1.1
 delta aP8;refine gH ?_
 (refine iC ?_;try with_reducible exact True.intro)
 (repeat' first|intro _|(with_reducible apply And.intro))
 all_goals first|omega|exact (bPK _).1|exact (bPK _).2|(rw[aI9 (by show (-9223372036854775808:Int)<=_/\_<=(9223372036854775807:Int);omega)];omega)
theorem aPO:∃ f:(aW)->(Int × aW),(∀ x,okD (.cD0 (.slice 5 (.int .u8)) aQ) x->(fun x=>0<=x.2.1) x->(fun x r=>0<=r.1/\r.1<=255/\0<=r.2.2.1:(aW)->(Int × aW)->Prop) x (f x))/\Con.Holds Tryz.prog { aOG with fn:=f }:=zN (C:=aOG) yL aL bNI (fun x r=>0<=r.1/\r.1<=255/\0<=r.2.2.1:(aW)->(Int × aW)->Prop) bMJ
def aID:(aW)->(Int × aW):=Classical.choose aPO
def aIT:Con:=⟨136,hZ,aU1,[.box 119 ⟨true,hZ,[]⟩],[⟨false,tI,[0]⟩],false,none,
 ((fun x=>0<=x.2.1):(aW)->Prop),
 ((aID):(aW)->(Int × aW))⟩
theorem bMW:∀ x,okD (.cD0 (.slice 5 (.int .u8)) aQ) x->(fun x=>0<=x.2.1) x->(fun x r=>0<=r.1/\r.1<=255/\0<=r.2.2.1:(aW)->(Int × aW)->Prop) x (aID x):=(Classical.choose_spec aPO).1
theorem aXM:Con.Holds Tryz.prog aIT:=(Classical.choose_spec aPO).2
theorem aIA (x:aW) (hx:okD (.cD0 (.slice 5 (.int .u8)) aQ) x) (hp:(fun x=>0<=x.2.1) x):okD (.cD0 tI (.cD0 (.slice 5 (.int .u8)) aQ)) (aID x)/\(fun x r=>0<=r.1/\r.1<=255/\0<=r.2.2.1:(aW)->(Int × aW)->Prop) x (aID x):=⟨aXM.ok x hp hx,bMW x hx hp⟩
def aKN:Con:=⟨80,aVC,aU1,[.box 119 ⟨true,hZ,[]⟩,.val ⟨false,tI,[]⟩],[⟨false,tI,[0]⟩],false,none,
 ((fun x=>0<=x.1.2.1):(aW × Int)->Prop),
 ((fun _=>aK (.cD0 tI (.cD0 (.slice 5 (.int .u8)) aQ))):(aW × Int)->(Int × aW))⟩
def aJS:T:=sB .leq (iD cD 1 0) 0 <| cE 1 (gM cD (pC cD)) <| sB .leq (iD cD 1 0) 256 <| cG 2 (gG 0 cD tI 0 <| bX aPE (nJ 3) (iD cD 1 0) <| aDR cD 4 (eH mQ 3)) <| gG 0 cD tI 0 <| lC (eH mQ 3) <| lC (eH mQ 4) <| lC (eH mQ 5) <| iS qR (nJ 3) 16777216 <| iS qR (nJ 4) 65536 <| kC cC 7 8 <| iS qR (nJ 5) 256 <| kC cC 9 10 <| bX cC iX (nJ 6) <| bX aPE kO (iD cD 1 0) <| aDR cD 13 (eH mQ 6)
theorem bHM (f:(aW × Int)->(Int × aW)):aGU Tryz.prog [aIT] { aKN with fn:=f } false 3000 ⟨[],[]⟩ = .ok aJS:=by kernel_rfl
theorem bJY (x:aW × Int) (hx:okD (.cD0 (.cD0 (.slice 5 (.int .u8)) aQ) tI) x) (hp:(fun x=>0<=x.1.2.1) x):aJS.wp [aIT] [⟨(.cD0 (.cD0 (.slice 5 (.int .u8)) aQ) tI),x⟩] [] (fun v=>(fun x r=>0<=r.1/\(0<x.2->r.1<x.2)/\(x.2<=0->r.1=0)/\0<=r.2.2.1:(aW × Int)->(Int × aW)->Prop) x (v.as (.cD0 tI (.cD0 (.slice 5 (.int .u8)) aQ)))):=by
 obtain ⟨⟨b,i,h⟩,n⟩:=x
 change 0<=i at hp
 have q1:=aIA (b,i,h) hx.1 hp
 have q2:=aIA _ q1.1.2 q1.2.2.2
 have q3:=aIA _ q2.1.2 q2.2.2.2
 have q4:=aIA _ q3.1.2 q3.2.2.2
 replace q1:=q1.2
 replace q2:=q2.2
 replace q3:=q3.2
 replace q4:=q4.2
 dsimp only at q1 q2 q3 q4
 delta aJS aIT;refine gH ?_
 (refine iC ?_;try with_reducible exact True.intro)
 (repeat' first|intro _|(with_reducible apply And.intro))
 all_goals first|omega|exact (tmB (by omega) (by omega)).1|exact (tmB (by omega) (by omega)).2|trivial
theorem aLF:∃ f:(aW × Int)->(Int × aW),(∀ x,okD (.cD0 (.cD0 (.slice 5 (.int .u8)) aQ) tI) x->(fun x=>0<=x.1.2.1) x->(fun x r=>0<=r.1/\(0<x.2->r.1<x.2)/\(x.2<=0->r.1=0)/\0<=r.2.2.1:(aW × Int)->(Int × aW)->Prop) x (f x))/\Con.Holds Tryz.prog { aKN with fn:=f }:=zN (C:=aKN) yL (aD aXM aL) bHM (fun x r=>0<=r.1/\(0<x.2->r.1<x.2)/\(x.2<=0->r.1=0)/\0<=r.2.2.1:(aW × Int)->(Int × aW)->Prop) bJY
def iK:(aW × Int)->(Int × aW):=Classical.choose aLF
def dZ:Con:=⟨80,aVC,aU1,[.box 119 ⟨true,hZ,[]⟩,.val ⟨false,tI,[]⟩],[⟨false,tI,[0]⟩],false,none,
 ((fun x=>0<=x.1.2.1):(aW × Int)->Prop),
 ((iK):(aW × Int)->(Int × aW))⟩
theorem bJV:∀ x,okD (.cD0 (.cD0 (.slice 5 (.int .u8)) aQ) tI) x->(fun x=>0<=x.1.2.1) x->(fun x r=>0<=r.1/\(0<x.2->r.1<x.2)/\(x.2<=0->r.1=0)/\0<=r.2.2.1:(aW × Int)->(Int × aW)->Prop) x (iK x):=(Classical.choose_spec aLF).1
theorem rI:Con.Holds Tryz.prog dZ:=(Classical.choose_spec aLF).2
theorem kN (x:aW × Int) (hx:okD (.cD0 (.cD0 (.slice 5 (.int .u8)) aQ) tI) x) (hp:(fun x=>0<=x.1.2.1) x):okD (.cD0 tI (.cD0 (.slice 5 (.int .u8)) aQ)) (iK x)/\(fun x r=>0<=r.1/\(0<x.2->r.1<x.2)/\(x.2<=0->r.1=0)/\0<=r.2.2.1:(aW × Int)->(Int × aW)->Prop) x (iK x):=⟨rI.ok x hp hx,bJV x hx hp⟩
def aPA:Con:=⟨50,aVC,(.cD0 .bool hZ),[.box 119 ⟨true,hZ,[]⟩,.val ⟨false,tI,[]⟩],[⟨false,.bool,[0]⟩],false,none,
 ((fun x=>0<=x.1.2.1):(aW × Int)->Prop),
 ((fun _=>aK (.cD0 .bool (.cD0 (.slice 5 (.int .u8)) aQ))):(aW × Int)->(Bool × aW))⟩
def aPJ:T:=dE 0 0 <| oR (nJ 1) 0 <| .ret (.cD2 .bool cD iZ (eH mQ 1))
theorem bLS (f:(aW × Int)->(Bool × aW)):aGU Tryz.prog [dZ] { aPA with fn:=f } false 3000 ⟨[],[]⟩ = .ok aPJ:=by kernel_rfl
theorem bNZ (x:aW × Int) (hx:okD (.cD0 (.cD0 (.slice 5 (.int .u8)) aQ) tI) x) (hp:(fun x=>0<=x.1.2.1) x):aPJ.wp [dZ] [⟨(.cD0 (.cD0 (.slice 5 (.int .u8)) aQ) tI),x⟩] [] (fun v=>(fun x r=>0<=r.2.2.1:(aW × Int)->(Bool × aW)->Prop) x (v.as (.cD0 .bool (.cD0 (.slice 5 (.int .u8)) aQ)))):=by
 have q1:=(kN x hx hp).2
 delta aPJ dZ;refine gH ?_
 exact ⟨hp,fun _=>q1.2.2.2⟩
theorem aPM:∃ f:(aW × Int)->(Bool × aW),(∀ x,okD (.cD0 (.cD0 (.slice 5 (.int .u8)) aQ) tI) x->(fun x=>0<=x.1.2.1) x->(fun x r=>0<=r.2.2.1:(aW × Int)->(Bool × aW)->Prop) x (f x))/\Con.Holds Tryz.prog { aPA with fn:=f }:=zN (C:=aPA) yL (aD rI aL) bLS (fun x r=>0<=r.2.2.1:(aW × Int)->(Bool × aW)->Prop) bNZ
def yC:(aW × Int)->(Bool × aW):=Classical.choose aPM
def rQ:Con:=⟨50,aVC,(.cD0 .bool hZ),[.box 119 ⟨true,hZ,[]⟩,.val ⟨false,tI,[]⟩],[⟨false,.bool,[0]⟩],false,none,
 ((fun x=>0<=x.1.2.1):(aW × Int)->Prop),
 ((yC):(aW × Int)->(Bool × aW))⟩
theorem bNX:∀ x,okD (.cD0 (.cD0 (.slice 5 (.int .u8)) aQ) tI) x->(fun x=>0<=x.1.2.1) x->(fun x r=>0<=r.2.2.1:(aW × Int)->(Bool × aW)->Prop) x (yC x):=(Classical.choose_spec aPM).1
theorem aJ1:Con.Holds Tryz.prog rQ:=(Classical.choose_spec aPM).2
theorem aPH (x:aW × Int) (hx:okD (.cD0 (.cD0 (.slice 5 (.int .u8)) aQ) tI) x) (hp:(fun x=>0<=x.1.2.1) x):okD (.cD0 .bool (.cD0 (.slice 5 (.int .u8)) aQ)) (yC x)/\(fun x r=>0<=r.2.2.1:(aW × Int)->(Bool × aW)->Prop) x (yC x):=⟨aJ1.ok x hp hx,bNX x hx hp⟩
def aFU:Con:=⟨51,(.cD0 hZ aA),aU1,[.box 119 ⟨true,hZ,[]⟩,.val ⟨false,aA,[]⟩],[⟨false,tI,[0]⟩],false,none,
 ((fun x=>0<=x.1.2.1/\x.2≠[]):(aW × cK)->Prop),
 ((fun _=>aK (.cD0 tI (.cD0 (.slice 5 (.int .u8)) aQ))):(aW × cK)->(Int × aW))⟩
def aG6:T:=cN (gK cD aA 1) <| cI 0 cD (tX cD) aX <| dP 3 tI aA (gK cD aA 1) (nJ 2) <| aDR cD 3 (eH mQ 2)
theorem bBM (f:(aW × cK)->(Int × aW)):aGU Tryz.prog [dZ] { aFU with fn:=f } false 3000 ⟨[],[]⟩ = .ok aG6:=by kernel_rfl
theorem bC1 (x:aW × cK) (hx:okD (.cD0 (.cD0 (.slice 5 (.int .u8)) aQ) aA) x) (hp:(fun x=>0<=x.1.2.1/\x.2≠[]) x):aG6.wp [dZ] [⟨(.cD0 (.cD0 (.slice 5 (.int .u8)) aQ) aA),x⟩] [] (fun v=>(fun x r=>r.1∈x.2/\0<=r.2.2.1:(aW × cK)->(Int × aW)->Prop) x (v.as (.cD0 tI (.cD0 (.slice 5 (.int .u8)) aQ)))):=by
 obtain ⟨c,l⟩:=x
 obtain ⟨hp,hl⟩:0<=c.2.1/\l≠[]:=hp
 have hm:=cB0 (show List.length l<=maxLen from hx.2.1)
 have hl0:0<l.length:=List.length_pos_iff.2 hl
 have q1:=(kN (c,(l.length:Int)) ⟨hx.1,show (-9223372036854775808:Int)<=_/\_<=(9223372036854775807:Int) by omega⟩ hp).2
 dsimp only at q1
 delta aG6 dZ;refine gH ?_
 have hlt:((iK (c,(l.length:Int))).1:Int).toNat<l.length:=by omega
 refine fun _=>⟨hp,fun _=>⟨⟨q1.1,by omega⟩,fun _=>⟨?_,q1.2.2.2⟩⟩⟩
 rw[aO hlt]
 exact List.getElem_mem hlt
theorem aG1:∃ f:(aW × cK)->(Int × aW),(∀ x,okD (.cD0 (.cD0 (.slice 5 (.int .u8)) aQ) aA) x->(fun x=>0<=x.1.2.1/\x.2≠[]) x->(fun x r=>r.1∈x.2/\0<=r.2.2.1:(aW × cK)->(Int × aW)->Prop) x (f x))/\Con.Holds Tryz.prog { aFU with fn:=f }:=zN (C:=aFU) yL (aD rI aL) bBM (fun x r=>r.1∈x.2/\0<=r.2.2.1:(aW × cK)->(Int × aW)->Prop) bC1
def rO:(aW × cK)->(Int × aW):=Classical.choose aG1
def mN:Con:=⟨51,(.cD0 hZ aA),aU1,[.box 119 ⟨true,hZ,[]⟩,.val ⟨false,aA,[]⟩],[⟨false,tI,[0]⟩],false,none,
 ((fun x=>0<=x.1.2.1/\x.2≠[]):(aW × cK)->Prop),
 ((rO):(aW × cK)->(Int × aW))⟩
theorem bBJ:∀ x,okD (.cD0 (.cD0 (.slice 5 (.int .u8)) aQ) aA) x->(fun x=>0<=x.1.2.1/\x.2≠[]) x->(fun x r=>r.1∈x.2/\0<=r.2.2.1:(aW × cK)->(Int × aW)->Prop) x (rO x):=(Classical.choose_spec aG1).1
theorem aB0:Con.Holds Tryz.prog mN:=(Classical.choose_spec aG1).2
theorem aG0 (x:aW × cK) (hx:okD (.cD0 (.cD0 (.slice 5 (.int .u8)) aQ) aA) x) (hp:(fun x=>0<=x.1.2.1/\x.2≠[]) x):okD (.cD0 tI (.cD0 (.slice 5 (.int .u8)) aQ)) (rO x)/\(fun x r=>r.1∈x.2/\0<=r.2.2.1:(aW × cK)->(Int × aW)->Prop) x (rO x):=⟨aB0.ok x hp hx,bBJ x hx hp⟩
def aTP:Con:=⟨190,hZ,aU1,[.box 119 ⟨true,hZ,[]⟩],[⟨false,tI,[0]⟩],false,none,
 ((fun x=>0<=x.2.1):(aW)->Prop),
 ((fun _=>aK (.cD0 tI (.cD0 (.slice 5 (.int .u8)) aQ))):(aW)->(Int × aW))⟩
def aSL:T:=cI 0 cD cX (dR 12) <| lW (nJ 1) 0 2 (aLU (.lit 3 tI 6) (sE aDL) [dR 2147483647,dR (-2147483647),dR 2147483646,gF,dR (-1),aM] <| eI 1 cD (eH mQ 1) qN <| cM 4) <| lW (nJ 1) 1 3 (cI 0 cD (eH mQ 1) (dR 4000) <| iA (nJ 4) 2000 <| gT qR 5 997 <| aDR cD 6 (eH mQ 4)) <| lW (nJ 1) 2 4 (cI 0 cD (eH mQ 1) (dR 9) <| iA (nJ 5) 4 <| aDR cD 6 (eH mQ 5)) <| cI 0 cD (eH mQ 1) (dR 17) <| iA (nJ 5) 8 <| gT qR 6 65536 <| aLU (.lit 3 tI 5) (kL aDL) [gF,gF,dR 2,dR 4,dR 3] <| eI 1 cD (eH mQ 5) gP <| bX (.quo .i64) lN (nJ 9) <| aDR cD 10 (eH mQ 9)
theorem bRC (f:(aW)->(Int × aW)):aGU Tryz.prog [dZ,mN] { aTP with fn:=f } false 3000 ⟨[],[(2989,3003,[8],[]),(2981,8005,[26],[])]⟩ = .ok aSL:=by kernel_rfl
theorem bRE (x:aW) (hx:okD (.cD0 (.slice 5 (.int .u8)) aQ) x) (hp:(fun x=>0<=x.2.1) x):aSL.wp [dZ,mN] [⟨(.cD0 (.slice 5 (.int .u8)) aQ),x⟩] [] (fun v=>(fun x r=>mK r.1=true/\0<=r.2.2.1:(aW)->(Int × aW)->Prop) x (v.as (.cD0 tI (.cD0 (.slice 5 (.int .u8)) aQ)))):=by
 have q1:=kN (x,12) ⟨hx,okI (by omega) (by omega)⟩ hp
 delta aSL dZ mN;refine gH ?_
 refine iC ?_
 refine ⟨hp,fun _=>?_⟩
 generalize iK (x,12)=r at q1 ⊢;obtain ⟨n1,c1⟩:=r;obtain ⟨kq1,uq1⟩:=q1;replace kq1:okD aES c1:=kq1.2;dsimp only at uq1 ⊢
 refine ⟨fun _ _=>⟨⟨uq1.2.2.2,fun h=>by cases h⟩,fun _=>?_⟩,fun _=>⟨fun _=>⟨uq1.2.2.2,fun _=>?_⟩,fun _=>⟨fun _=>⟨uq1.2.2.2,fun _=>?_⟩,fun _=>⟨uq1.2.2.2,fun _=>?_⟩⟩⟩⟩
 ·have b0:=(aG0 (c1,[2147483647,-2147483647,2147483646,1,-1,0]) ⟨kq1,okL (e:=3) (by show 6<=1000;omega) (by intro y hy;simp at hy;omega)⟩ ⟨uq1.2.2.2,by simp⟩).2
  generalize rO (c1,[2147483647,-2147483647,2147483646,1,-1,0])=r at b0 ⊢
  have:=b0.1
  simp only[List.mem_cons,List.mem_nil_iff,or_false] at this
  exact ⟨(aBA _).2 ⟨by omega,by omega⟩,b0.2⟩
 ·have a1:=(kN (c1,4000) ⟨kq1,okI (by omega) (by omega)⟩ uq1.2.2.2).2
  generalize iK (c1,4000)=r at a1 ⊢
  dsimp only at a1
  (repeat' first|intro _|(with_reducible apply And.intro))
  all_goals first|omega|exact (aBA _).2 ⟨by omega,by omega⟩
 ·have a1:=(kN (c1,9) ⟨kq1,okI (by omega) (by omega)⟩ uq1.2.2.2).2
  generalize iK (c1,9)=r at a1 ⊢
  dsimp only at a1
  (repeat' first|intro _|(with_reducible apply And.intro))
  all_goals first|omega|exact (aBA _).2 ⟨by omega,by omega⟩
 ·have q2:=kN (c1,17) ⟨kq1,okI (by omega) (by omega)⟩ uq1.2.2.2
  generalize iK (c1,17)=r at q2 ⊢;obtain ⟨n2,c2⟩:=r;obtain ⟨kq2,uq2⟩:=q2;replace kq2:okD aES c2:=kq2.2;dsimp only at uq2 ⊢
  refine ⟨by omega,fun _=>⟨by omega,fun _ _=>⟨⟨uq2.2.2.2,fun h=>by cases h⟩,fun _=>?_⟩⟩⟩
  have b0:=(aG0 (c2,[1,1,2,4,3]) ⟨kq2,okL (e:=3) (by show 5<=1000;omega) (by intro y hy;simp at hy;omega)⟩ ⟨uq2.2.2.2,by simp⟩).2
  generalize rO (c2,[1,1,2,4,3])=r at b0 ⊢
  have:=b0.1
  simp only[List.mem_cons,List.mem_nil_iff,or_false] at this
  have t1:=tdB (a:=(n2 - 8) * 65536) (p:=r.1) (by omega) (by omega)
  (repeat' first|intro _|(with_reducible apply And.intro))
  all_goals first|omega|exact (aBA _).2 ⟨by omega,by omega⟩|exact b0.2
theorem aST:∃ f:(aW)->(Int × aW),(∀ x,okD (.cD0 (.slice 5 (.int .u8)) aQ) x->(fun x=>0<=x.2.1) x->(fun x r=>mK r.1=true/\0<=r.2.2.1:(aW)->(Int × aW)->Prop) x (f x))/\Con.Holds Tryz.prog { aTP with fn:=f }:=zN (C:=aTP) yL (aD rI (aD aB0 aL)) bRC (fun x r=>mK r.1=true/\0<=r.2.2.1:(aW)->(Int × aW)->Prop) bRE
def aM7:(aW)->(Int × aW):=Classical.choose aST
def aMH:Con:=⟨190,hZ,aU1,[.box 119 ⟨true,hZ,[]⟩],[⟨false,tI,[0]⟩],false,none,
 ((fun x=>0<=x.2.1):(aW)->Prop),
 ((aM7):(aW)->(Int × aW))⟩
theorem bQV:∀ x,okD (.cD0 (.slice 5 (.int .u8)) aQ) x->(fun x=>0<=x.2.1) x->(fun x r=>mK r.1=true/\0<=r.2.2.1:(aW)->(Int × aW)->Prop) x (aM7 x):=(Classical.choose_spec aST).1
theorem bD7:Con.Holds Tryz.prog aMH:=(Classical.choose_spec aST).2
theorem bRU (x:aW) (hx:okD (.cD0 (.slice 5 (.int .u8)) aQ) x) (hp:(fun x=>0<=x.2.1) x):okD (.cD0 tI (.cD0 (.slice 5 (.int .u8)) aQ)) (aM7 x)/\(fun x r=>mK r.1=true/\0<=r.2.2.1:(aW)->(Int × aW)->Prop) x (aM7 x):=⟨bD7.ok x hp hx,bQV x hx hp⟩
def aTC:Con:=⟨137,aVC,(.cD0 aA hZ),[.box 119 ⟨true,hZ,[]⟩,.val ⟨false,tI,[]⟩],[⟨false,aA,[2]⟩],false,none,
 ((fun x=>0<=x.1.2.1/\x.2<=1000):(aW × Int)->Prop),
 ((fun _=>aK (.cD0 aA (.cD0 (.slice 5 (.int .u8)) aQ))):(aW × Int)->(cK × aW))⟩
def aSU:T:=yG fZ (vQ fZ [aM,iM cF aQ cD tI 0,fK cD 1 cD tI,kG cD 2 cD tI,aT]) <| bX bM (bO fZ 1) (iD cD 1 0) <| fY 2 (nV 0 (cO cD (cJ fZ 1 1) (cJ fZ 2 1) (cJ fZ 3 1)) 3 tI (nJ 3) <| kB 3 8 aA aA (fQ fZ 4 1) 4 <| uM (bO fZ 1) 1 0 fZ [fB,nI cF aQ 1 3,nI cF aQ 2 3,dH mQ 3,iR]) (mkA (eK aA cF aQ) [fQ fZ 4 1,cJ fZ 1 1,cJ fZ 2 1,cJ fZ 3 1])
theorem bS9 (f:(aW × Int)->(cK × aW)):aGU Tryz.prog [aMH] { aTC with fn:=f } false 3000 ⟨[(2991,1001,[.dr 7,.tm 6 0,.on 5,.bx 1 0,.bx 1 1,.bx 1 2,.sl 2])],[]⟩ = .ok aSU:=by kernel_rfl
theorem bSH (x:aW × Int) (hx:okD (.cD0 (.cD0 (.slice 5 (.int .u8)) aQ) tI) x) (hp:(fun x=>0<=x.1.2.1/\x.2<=1000) x):aSU.wp [aMH] [⟨(.cD0 (.cD0 (.slice 5 (.int .u8)) aQ) tI),x⟩] [] (fun v=>(fun x r=>r.1.length=x.2.toNat/\(∀ v∈r.1,mK v=true)/\0<=r.2.2.1:(aW × Int)->(cK × aW)->Prop) x (v.as (.cD0 aA (.cD0 (.slice 5 (.int .u8)) aQ)))):=by
 obtain ⟨c,n⟩:=x
 obtain ⟨hp,hn⟩:0<=c.2.1/\n<=1000:=hp
 delta aSU aMH;refine gH ?_
 refine ⟨fun s=>∃ k:Nat,k<=n.toNat/\s.1=(k:Int)/\List.length s.2.2.2.2=k/\(∀ v∈s.2.2.2.2,mK v=true)/\@LE.le Int _ 0 s.2.2.1,fun s=>(n - s.1:Int).toNat,⟨0,Nat.zero_le _,rfl,rfl,fun v h=>by simp at h,hp⟩,fun s hs hI=>?_⟩
 obtain ⟨j,b,i,h,l⟩:=s
 obtain ⟨k,hk,e1,e2,e3,e4⟩:=hI
 change Int at j
 change j=(k:Int) at e1
 subst e1
 change List Int at l
 change l.length=k at e2
 change ∀ v∈l,mK v=true at e3
 change 0<=(i:Int) at e4
 have q:=(bRU (b,i,h) ⟨hs.2.1,hs.2.2.1,hs.2.2.2.1⟩ e4).2
 try dsimp only
 refine iC ?_
 refine ⟨fun hlt=>⟨e4,fun _ _=>⟨⟨by omega,by unfold maxLen;omega⟩,fun _=>⟨by omega,fun _=>⟨⟨k+1,by omega,pk1,by rw[e2],fun v hv=>?_,q.2⟩,by omega⟩⟩⟩⟩,fun hge=>⟨by omega,e3,e4⟩⟩
 rcases List.mem_append.1 hv with hv|hv
 ·exact e3 v hv
 ·rw[List.mem_singleton] at hv
  rw[hv];exact q.1
theorem aS9:∃ f:(aW × Int)->(cK × aW),(∀ x,okD (.cD0 (.cD0 (.slice 5 (.int .u8)) aQ) tI) x->(fun x=>0<=x.1.2.1/\x.2<=1000) x->(fun x r=>r.1.length=x.2.toNat/\(∀ v∈r.1,mK v=true)/\0<=r.2.2.1:(aW × Int)->(cK × aW)->Prop) x (f x))/\Con.Holds Tryz.prog { aTC with fn:=f }:=zN (C:=aTC) yL (aD bD7 aL) bS9 (fun x r=>r.1.length=x.2.toNat/\(∀ v∈r.1,mK v=true)/\0<=r.2.2.1:(aW × Int)->(cK × aW)->Prop) bSH
def aCW:(aW × Int)->(cK × aW):=Classical.choose aS9
def aAT:Con:=⟨137,aVC,(.cD0 aA hZ),[.box 119 ⟨true,hZ,[]⟩,.val ⟨false,tI,[]⟩],[⟨false,aA,[2]⟩],false,none,
 ((fun x=>0<=x.1.2.1/\x.2<=1000):(aW × Int)->Prop),
 ((aCW):(aW × Int)->(cK × aW))⟩
theorem bS5:∀ x,okD (.cD0 (.cD0 (.slice 5 (.int .u8)) aQ) tI) x->(fun x=>0<=x.1.2.1/\x.2<=1000) x->(fun x r=>r.1.length=x.2.toNat/\(∀ v∈r.1,mK v=true)/\0<=r.2.2.1:(aW × Int)->(cK × aW)->Prop) x (aCW x):=(Classical.choose_spec aS9).1
theorem aSZ:Con.Holds Tryz.prog aAT:=(Classical.choose_spec aS9).2
theorem aMG (x:aW × Int) (hx:okD (.cD0 (.cD0 (.slice 5 (.int .u8)) aQ) tI) x) (hp:(fun x=>0<=x.1.2.1/\x.2<=1000) x):okD (.cD0 aA (.cD0 (.slice 5 (.int .u8)) aQ)) (aCW x)/\(fun x r=>r.1.length=x.2.toNat/\(∀ v∈r.1,mK v=true)/\0<=r.2.2.1:(aW × Int)->(cK × aW)->Prop) x (aCW x):=⟨aSZ.ok x hp hx,bS5 x hx hp⟩
def bBC:Con:=⟨189,aVC,(.cD0 bQ hZ),[.box 119 ⟨true,hZ,[]⟩,.val ⟨false,tI,[]⟩],[⟨true,bQ,[0,0,0,2]⟩],false,none,
 ((fun x=>0<=x.1.2.1/\1<=x.2/\x.2<=6):(aW × Int)->Prop),
 ((fun _=>aK (.cD0 bQ (.cD0 (.slice 5 (.int .u8)) aQ))):(aW × Int)->(dU × aW))⟩
def aZB:T:=cI 0 cD (pC cD) (dR 5) <| bX cC gF (nJ 1) <| lW iZ 1 3 (cI 0 cD (eH mQ 1) (dR 3) <| bX cC gF (nJ 4) <| lY 1 bQ [iZ,iD cD 1 0,iR,aT] <| cI 2 cD (eH mQ 4) fB <| .ret (.cD2 bQ cD (mkA bQ [iZ,iD cD 1 0,iR,lJ aA 7]) (eH (eK aA cF aQ) 7))) <| lY 1 bQ [iZ,iD cD 1 0,iD cD 1 0,aT] <| cI 2 cD (eH mQ 1) gD <| .ret (.cD2 bQ cD (mkA bQ [iZ,iD cD 1 0,iD cD 1 0,lJ aA 5]) (eH (eK aA cF aQ) 5))
theorem bVQ (f:(aW × Int)->(dU × aW)):aGU Tryz.prog [dZ,aA8,aAT] { bBC with fn:=f } false 3000 ⟨[],[]⟩ = .ok aZB:=by kernel_rfl
theorem bWZ (x:aW × Int) (hx:okD (.cD0 (.cD0 (.slice 5 (.int .u8)) aQ) tI) x) (hp:(fun x=>0<=x.1.2.1/\1<=x.2/\x.2<=6) x):aZB.wp [dZ,aA8,aAT] [⟨(.cD0 (.cD0 (.slice 5 (.int .u8)) aQ) tI),x⟩] [] (fun v=>(fun x r=>(opB r.1=true/\r.1.2.1=x.2)/\0<=r.2.2.1:(aW × Int)->(dU × aW)->Prop) x (v.as (.cD0 bQ (.cD0 (.slice 5 (.int .u8)) aQ)))):=by
 obtain ⟨c,n⟩:=x
 obtain ⟨hp,hn1,hn2⟩:0<=c.2.1/\1<=n/\n<=6:=hp
 have q1:=kN (c,5) ⟨hx.1,okI (by omega) (by omega)⟩ hp
 delta aZB dZ aA8 aAT;refine gH ?_
 refine iC ?_
 refine ⟨hp,fun _=>?_⟩
 generalize iK (c,5)=r at q1 ⊢;obtain ⟨n1,c1⟩:=r;obtain ⟨k1,u1⟩:=q1;replace k1:okD aES c1:=k1.2;dsimp only at u1 ⊢
 refine ⟨by omega,fun _=>⟨fun h1=>⟨u1.2.2.2,fun _=>?_⟩,fun h1 hs=>?_⟩⟩
 ·have q2:=kN (c1,3) ⟨k1,okI (by omega) (by omega)⟩ u1.2.2.2
  generalize iK (c1,3)=r at q2 ⊢;obtain ⟨n2,c2⟩:=r;obtain ⟨k2,u2⟩:=q2;replace k2:okD aES c2:=k2.2;dsimp only at u2 ⊢
  have hz:=cB7 (k:=1+n1) (i:=n) (o:=1+n2) hn1 hn2 (by omega) (by omega)
  refine ⟨by omega,fun _ hs=>⟨⟨u2.2.2.2,by omega⟩,fun _=>?_⟩⟩
  have q3:=(aMG (c2,lM (1+n1,n,1+n2,[])) ⟨k2,hs⟩ ⟨u2.2.2.2,by show lM (1+n1,n,1+n2,[])<=1000;omega⟩).2
  exact ⟨⟨bWA (by omega) (by omega) hn1 hn2 (by omega) (by omega) (by omega) q3.1 q3.2.1,trivial⟩,q3.2.2⟩
 ·have hz:=cB7 (k:=1+n1) (i:=n) (o:=n) hn1 hn2 hn1 hn2
  refine ⟨⟨u1.2.2.2,by omega⟩,fun _=>?_⟩
  have q3:=(aMG (c1,lM (1+n1,n,n,[])) ⟨k1,hs⟩ ⟨u1.2.2.2,by show lM (1+n1,n,n,[])<=1000;omega⟩).2
  exact ⟨⟨bWA (by omega) (by omega) hn1 hn2 hn1 hn2 (fun _=>rfl) q3.1 q3.2.1,trivial⟩,q3.2.2⟩
theorem bAL:∃ f:(aW × Int)->(dU × aW),(∀ x,okD (.cD0 (.cD0 (.slice 5 (.int .u8)) aQ) tI) x->(fun x=>0<=x.1.2.1/\1<=x.2/\x.2<=6) x->(fun x r=>(opB r.1=true/\r.1.2.1=x.2)/\0<=r.2.2.1:(aW × Int)->(dU × aW)->Prop) x (f x))/\Con.Holds Tryz.prog { bBC with fn:=f }:=zN (C:=bBC) yL (aD rI (aD aY6 (aD aSZ aL))) bVQ (fun x r=>(opB r.1=true/\r.1.2.1=x.2)/\0<=r.2.2.1:(aW × Int)->(dU × aW)->Prop) bWZ
def aLW:(aW × Int)->(dU × aW):=Classical.choose bAL
def aRD:Con:=⟨189,aVC,(.cD0 bQ hZ),[.box 119 ⟨true,hZ,[]⟩,.val ⟨false,tI,[]⟩],[⟨true,bQ,[0,0,0,2]⟩],false,none,
 ((fun x=>0<=x.1.2.1/\1<=x.2/\x.2<=6):(aW × Int)->Prop),
 ((aLW):(aW × Int)->(dU × aW))⟩
theorem bW0:∀ x,okD (.cD0 (.cD0 (.slice 5 (.int .u8)) aQ) tI) x->(fun x=>0<=x.1.2.1/\1<=x.2/\x.2<=6) x->(fun x r=>(opB r.1=true/\r.1.2.1=x.2)/\0<=r.2.2.1:(aW × Int)->(dU × aW)->Prop) x (aLW x):=(Classical.choose_spec bAL).1
theorem bKX:Con.Holds Tryz.prog aRD:=(Classical.choose_spec bAL).2
theorem bWJ (x:aW × Int) (hx:okD (.cD0 (.cD0 (.slice 5 (.int .u8)) aQ) tI) x) (hp:(fun x=>0<=x.1.2.1/\1<=x.2/\x.2<=6) x):okD (.cD0 bQ (.cD0 (.slice 5 (.int .u8)) aQ)) (aLW x)/\(fun x r=>(opB r.1=true/\r.1.2.1=x.2)/\0<=r.2.2.1:(aW × Int)->(dU × aW)->Prop) x (aLW x):=⟨bKX.ok x hp hx,bW0 x hx hp⟩
def aKD:Con:=⟨134,hZ,(.cD0 aB hZ),[.box 119 ⟨true,hZ,[]⟩],[⟨true,aB,[2]⟩],false,none,
 ((fun x=>0<=x.2.1):(aW)->Prop),
 ((fun _=>aK (.cD0 aB (.cD0 (.slice 5 (.int .u8)) aQ))):(aW)->(aS × aW))⟩
def aKZ:T:=cI 0 cD cX (dR 3) <| bX cC gF (nJ 1) <| cI 0 cD (eH mQ 1) (dR 6) <| bX cC gF (nJ 3) <| yG zJ (vQ zJ [gD,iZ,nI cF aQ 1 3,nI cF aQ 2 3,dH mQ 3,.nl 98 bQ]) <| dY (bO zJ 5) 0 <| fY 6 (nV 1 (qO cD (cO cD (cJ zJ 2 5) (cJ zJ 3 5) (cJ zJ 4 5)) (cJ zJ 1 5)) 98 bQ (lJ bQ 7) <| dM (.cD7 98 bQ 48) aB aB (fQ zJ 5 5) 8 <| aKR fJ (bO zJ 5) 1 0 (vQ zJ [gN,pjA bQ 2 (lJ bQ 7),gQ bQ cF aQ 1 7,gQ bQ cF aQ 2 7,dH (eK bQ cF aQ) 7,mT])) (mkA (rS cF aQ) [fQ zJ 5 5,cJ zJ 2 5,cJ zJ 3 5,cJ zJ 4 5])
theorem bHR (f:(aW)->(aS × aW)):aGU Tryz.prog [dZ,aRD] { aKD with fn:=f } false 3000 ⟨[(2989,1005,oS 13 7++[.tm 5 0,.tm 4 0,.bx 1 0,.bx 1 1,.bx 1 2,.sl 6])],[(2978,3008,[],[7])]⟩ = .ok aKZ:=by kernel_rfl
theorem bHI (x:aW) (hx:okD (.cD0 (.slice 5 (.int .u8)) aQ) x) (hp:(fun x=>0<=x.2.1) x):aKZ.wp [dZ,aRD] [⟨(.cD0 (.slice 5 (.int .u8)) aQ),x⟩] [] (fun v=>(fun x r=>(1<=r.1.length/\bY r.1=true)/\r.1.length<=6/\(∀ o∈r.1,opB o=true)/\0<=r.2.2.1:(aW)->(aS × aW)->Prop) x (v.as (.cD0 aB (.cD0 (.slice 5 (.int .u8)) aQ)))):=by
 have q1:=kN (x,3) ⟨hx,okI (by omega) (by omega)⟩ hp
 delta aKZ dZ aRD;refine gH ?_
 refine iC ?_
 refine ⟨hp,fun _=>?_⟩
 generalize iK (x,3)=r at q1 ⊢;obtain ⟨n1,c1⟩:=r;obtain ⟨k1,u1⟩:=q1;replace k1:okD aES c1:=k1.2;dsimp only at u1 ⊢
 refine ⟨by omega,fun _=>⟨u1.2.2.2,fun _=>?_⟩⟩
 have q2:=kN (c1,6) ⟨k1,okI (by omega) (by omega)⟩ u1.2.2.2
 generalize iK (c1,6)=r at q2 ⊢;obtain ⟨n2,c2⟩:=r;obtain ⟨k2,u2⟩:=q2;replace k2:okD aES c2:=k2.2;dsimp only at u2 ⊢
 refine ⟨by omega,fun _=>⟨fun s=>@LE.le Int _ 0 s.1/\(List.length s.2.2.2.2.2:Int)+s.1=1+n2/\@LE.le Int _ 1 s.2.1/\@LE.le Int _ s.2.1 6/\((∀ o∈s.2.2.2.2.2,opB o=true)/\chB s.2.2.2.2.2 s.2.1)/\@LE.le Int _ 0 s.2.2.2.1,fun s=>(s.1:Int).toNat,⟨by show 0<=1+n2;omega,by show (0:Int)+(1+n2)=1+n2;omega,by show 1<=1+n1;omega,by show 1+n1<=6;omega,⟨fun o h=>by simp at h,fun i h=>absurd h (Nat.not_lt_zero _),fun h=>absurd h (Nat.lt_irrefl _)⟩,u2.2.2.2⟩,fun s hs hI=>?_⟩⟩
 obtain ⟨j,g,b,i,h,l⟩:=s
 obtain ⟨e1,e2,e3,e4,⟨e5,e7⟩,e6⟩:=hI
 change Int at j
 change Int at g
 change List dU at l
 change 0<=j at e1
 change (l.length:Int)+j=1+n2 at e2
 change 1<=g at e3
 change g<=6 at e4
 change ∀ o∈l,opB o=true at e5
 change chB l g at e7
 have q:=(bWJ ((b,i,h),g) ⟨⟨hs.2.2.1,hs.2.2.2.1,hs.2.2.2.2.1⟩,hs.2.1⟩ ⟨e6,e3,e4⟩).2
 try dsimp only
 refine ⟨fun hlt=>⟨⟨e6,e3,e4⟩,fun _ _=>⟨⟨by omega,by unfold maxLen;omega⟩,fun _=>⟨by omega,fun _=>⟨⟨by omega,?_,?_,?_,⟨fun o ho=>?_,bUJ e7 q.1.1 q.1.2⟩,q.2⟩,?_⟩⟩⟩⟩,fun hge=>?_⟩
 ·show (((l++[(aLW ((b,i,h),g)).fst]).length:Nat):Int)+(j - 1)=1+n2
  rw[List.length_append];simp;omega
 ·obtain ⟨⟨_,_,_,_,j1,j2,_⟩,_⟩:=(lQ _).1 q.1.1
  exact j1
 ·obtain ⟨⟨_,_,_,_,j1,j2,_⟩,_⟩:=(lQ _).1 q.1.1
  exact j2
 ·rcases List.mem_append.1 ho with ho|ho
  ·exact e5 o ho
  ·rw[List.mem_singleton] at ho
   rw[ho];exact q.1.1
 ·show (j - 1).toNat<j.toNat
  omega
 ·have hj:j<=0:=by simpa using hge
  exact ⟨⟨by omega,(bR l).2 ⟨by omega,by omega,e7.1⟩⟩,by omega,e5,e6⟩
theorem aJP:∃ f:(aW)->(aS × aW),(∀ x,okD (.cD0 (.slice 5 (.int .u8)) aQ) x->(fun x=>0<=x.2.1) x->(fun x r=>(1<=r.1.length/\bY r.1=true)/\r.1.length<=6/\(∀ o∈r.1,opB o=true)/\0<=r.2.2.1:(aW)->(aS × aW)->Prop) x (f x))/\Con.Holds Tryz.prog { aKD with fn:=f }:=zN (C:=aKD) yL (aD rI (aD bKX aL)) bHR (fun x r=>(1<=r.1.length/\bY r.1=true)/\r.1.length<=6/\(∀ o∈r.1,opB o=true)/\0<=r.2.2.1:(aW)->(aS × aW)->Prop) bHI
def aBF:(aW)->(aS × aW):=Classical.choose aJP
def aF3:Con:=⟨134,hZ,(.cD0 aB hZ),[.box 119 ⟨true,hZ,[]⟩],[⟨true,aB,[2]⟩],false,none,
 ((fun x=>0<=x.2.1):(aW)->Prop),
 ((aBF):(aW)->(aS × aW))⟩
theorem bJO:∀ x,okD (.cD0 (.slice 5 (.int .u8)) aQ) x->(fun x=>0<=x.2.1) x->(fun x r=>(1<=r.1.length/\bY r.1=true)/\r.1.length<=6/\(∀ o∈r.1,opB o=true)/\0<=r.2.2.1:(aW)->(aS × aW)->Prop) x (aBF x):=(Classical.choose_spec aJP).1
theorem aU5:Con.Holds Tryz.prog aF3:=(Classical.choose_spec aJP).2
theorem bL3 (x:aW) (hx:okD (.cD0 (.slice 5 (.int .u8)) aQ) x) (hp:(fun x=>0<=x.2.1) x):okD (.cD0 aB (.cD0 (.slice 5 (.int .u8)) aQ)) (aBF x)/\(fun x r=>(1<=r.1.length/\bY r.1=true)/\r.1.length<=6/\(∀ o∈r.1,opB o=true)/\0<=r.2.2.1:(aW)->(aS × aW)->Prop) x (aBF x):=⟨aU5.ok x hp hx,bJO x hx hp⟩
def aLC:Con:=⟨81,bDY,(.cD0 aE hZ),[.box 119 ⟨true,hZ,[]⟩,.val ⟨true,aB,[]⟩],[⟨false,aE,[2]⟩],false,none,
 ((fun x=>0<=x.1.2.1):(aW × aS)->Prop),
 ((fun _=>aK (.cD0 aE (.cD0 (.slice 5 (.int .u8)) aQ))):(aW × aS)->(bW × aW))⟩
def aLO:T:=cI 0 cD (dT cD aB) (dR 4) <| bX cC gF (nJ 1) <| .loop (aSV aE) (mkA (aSV aE) [iZ,nI cF aQ 1 1,nI cF aQ 2 1,dH mQ 1,.nl 77 aF]) <| dY (aWZ tI (sE aE) 3) 0 <| fY 4 (.call 1 (gK cD aB 1) <| cI 2 cD (cO cD (nI cF (sE aE) 1 3) (nI cF (sE aE) 2 3) (nI cF (sE aE) 3 3)) iR <| .call 3 (gK cD aB 1) <| cI 2 cD (eH (eK aA cF aQ) 6) lN <| iT (kA 77 aF) aA aA (lJ aA 6) (lJ aA 8) <| dM (.cD7 77 aF 48) aE aE (fV (aSV aE) 4 3) 9 <| aKR fJ (aWZ tI (sE aE) 3) 1 0 (mkA (aSV aE) [iX,gQ aA cF aQ 1 8,gQ aA cF aQ 2 8,dH (eK aA cF aQ) 8,gN])) (mkA (eK aE cF aQ) [fV (aSV aE) 4 3,nI cF (sE aE) 1 3,nI cF (sE aE) 2 3,nI cF (sE aE) 3 3])
theorem bHH (f:(aW × aS)->(bW × aW)):aGU Tryz.prog [dZ,aHF,aAT,aCX] { aLC with fn:=f } false 3000 ⟨[(2991,1003,oS 10 7++[.dr 1,.tm 6 0,.on 5,.bx 1 0,.bx 1 1,.bx 1 2,.sl 3])],[(2983,3005,[23,19],[])]⟩ = .ok aLO:=by kernel_rfl
theorem bIE (x:aW × aS) (hx:okD (.cD0 (.cD0 (.slice 5 (.int .u8)) aQ) aB) x) (hp:(fun x=>0<=x.1.2.1) x):aLO.wp [dZ,aHF,aAT,aCX] [⟨(.cD0 (.cD0 (.slice 5 (.int .u8)) aQ) aB),x⟩] [] (fun v=>(fun x r=>(1<=r.1.length/\(bY x.2=true->iQ x.2 r.1=true))/\r.1.length<=4/\(∀ p∈r.1,p.1.length<=6/\p.2.length<=6)/\0<=r.2.2.1:(aW × aS)->(bW × aW)->Prop) x (v.as (.cD0 aE (.cD0 (.slice 5 (.int .u8)) aQ)))):=by
 obtain ⟨c,m⟩:=x
 have q1:=kN (c,4) ⟨hx.1,okI (by omega) (by omega)⟩ hp
 have ib:=cBP m
 have ob:=bZ6 m
 delta aLO dZ aHF aAT aCX;refine gH ?_
 refine iC ?_
 refine ⟨hp,fun _=>?_⟩
 generalize iK (c,4)=r at q1 ⊢;obtain ⟨n1,c1⟩:=r;obtain ⟨k1,u1⟩:=q1;replace k1:okD aES c1:=k1.2;dsimp only at u1 ⊢
 refine ⟨by omega,fun _=>⟨fun s=>@LE.le Int _ 0 s.1/\(List.length s.2.2.2.2:Int)+s.1=1+n1/\((∀ p∈s.2.2.2.2,List.length p.1<=6/\List.length p.2<=6)/\∀ p∈s.2.2.2.2,bY m=true->lF m p=true)/\@LE.le Int _ 0 s.2.2.1,fun s=>(s.1:Int).toNat,⟨by show 0<=1+n1;omega,by show (0:Int)+(1+n1)=1+n1;omega,⟨fun o h=>(by simp at h),fun o h=>by simp at h⟩,u1.2.2.2⟩,fun s hs hI=>?_⟩⟩
 obtain ⟨j,b,i,h,l⟩:=s
 obtain ⟨e1,e2,⟨e5,e7⟩,e6⟩:=hI
 change Int at j
 change List bA at l
 change 0<=j at e1
 change (l.length:Int)+j=1+n1 at e2
 change ∀ p∈l,List.length p.1<=6/\List.length p.2<=6 at e5
 change ∀ p∈l,bY m=true->lF m p=true at e7
 try dsimp only
 refine ⟨fun hlt hi=>⟨⟨e6,by omega⟩,fun _ ho=>?_⟩,fun hge=>?_⟩
 ·have q2:=aMG ((b,i,h),jP m) ⟨⟨hs.2.1,hs.2.2.1,hs.2.2.2.1⟩,hi⟩ ⟨e6,by show jP m<=1000;omega⟩
  generalize aCW ((b,i,h),jP m)=r at q2 ⊢;obtain ⟨v2,c2⟩:=r;obtain ⟨k2,u2⟩:=q2;replace k2:okD aES c2:=k2.2;dsimp only at u2 ⊢
  refine ⟨⟨u2.2.2,by omega⟩,fun _=>?_⟩
  have q3:=(aMG (c2,eN m) ⟨k2,ho⟩ ⟨u2.2.2,by show eN m<=1000;omega⟩).2
  generalize aCW (c2,eN m)=r at q3 ⊢;obtain ⟨v3,c3⟩:=r;dsimp only at q3 ⊢
  refine fun _=>⟨⟨by omega,by unfold maxLen;omega⟩,fun _=>⟨by omega,fun _=>⟨⟨by omega,?_,⟨fun p hp=>?_,fun p hp hm=>?_⟩,q3.2.2⟩,?_⟩⟩⟩
  ·show (((l++[(v2,v3)]).length:Nat):Int)+(j - 1)=1+n1
   rw[List.length_append];simp;omega
  ·rcases List.mem_append.1 hp with hp|hp
   ·exact e5 p hp
   ·rw[List.mem_singleton] at hp
    subst hp
    exact ⟨by show List.length v2<=6;rw[u2.1];omega,by show List.length v3<=6;rw[q3.1];omega⟩
  ·rcases List.mem_append.1 hp with hp|hp
   ·exact e7 p hp hm
   ·rw[List.mem_singleton] at hp
    subst hp
    have h1:=cBL hm
    show (dJ v2 (jP m)&&dJ v3 (eN m))=true
    rw[bQL h1.1 ib.2 u2.1 u2.2.1,bQL h1.2 ob.2 q3.1 q3.2.1];rfl
  ·show (j - 1).toNat<j.toNat
   omega
 ·have hj:j<=0:=by simpa using hge
  exact ⟨⟨by omega,fun hm=>(vC m l).2 ⟨hm,⟨by omega,by omega⟩,List.all_eq_true.2 fun p hp=>e7 p hp hm⟩⟩,by omega,e5,e6⟩
theorem aLS:∃ f:(aW × aS)->(bW × aW),(∀ x,okD (.cD0 (.cD0 (.slice 5 (.int .u8)) aQ) aB) x->(fun x=>0<=x.1.2.1) x->(fun x r=>(1<=r.1.length/\(bY x.2=true->iQ x.2 r.1=true))/\r.1.length<=4/\(∀ p∈r.1,p.1.length<=6/\p.2.length<=6)/\0<=r.2.2.1:(aW × aS)->(bW × aW)->Prop) x (f x))/\Con.Holds Tryz.prog { aLC with fn:=f }:=zN (C:=aLC) yL (aD rI (aD bK5 (aD aSZ (aD bCI aL)))) bHH (fun x r=>(1<=r.1.length/\(bY x.2=true->iQ x.2 r.1=true))/\r.1.length<=4/\(∀ p∈r.1,p.1.length<=6/\p.2.length<=6)/\0<=r.2.2.1:(aW × aS)->(bW × aW)->Prop) bIE
def yW:(aW × aS)->(bW × aW):=Classical.choose aLS
def uX:Con:=⟨81,bDY,(.cD0 aE hZ),[.box 119 ⟨true,hZ,[]⟩,.val ⟨true,aB,[]⟩],[⟨false,aE,[2]⟩],false,none,
 ((fun x=>0<=x.1.2.1):(aW × aS)->Prop),
 ((yW):(aW × aS)->(bW × aW))⟩
theorem bLA:∀ x,okD (.cD0 (.cD0 (.slice 5 (.int .u8)) aQ) aB) x->(fun x=>0<=x.1.2.1) x->(fun x r=>(1<=r.1.length/\(bY x.2=true->iQ x.2 r.1=true))/\r.1.length<=4/\(∀ p∈r.1,p.1.length<=6/\p.2.length<=6)/\0<=r.2.2.1:(aW × aS)->(bW × aW)->Prop) x (yW x):=(Classical.choose_spec aLS).1
theorem aKF:Con.Holds Tryz.prog uX:=(Classical.choose_spec aLS).2
theorem aUY (x:aW × aS) (hx:okD (.cD0 (.cD0 (.slice 5 (.int .u8)) aQ) aB) x) (hp:(fun x=>0<=x.1.2.1) x):okD (.cD0 aE (.cD0 (.slice 5 (.int .u8)) aQ)) (yW x)/\(fun x r=>(1<=r.1.length/\(bY x.2=true->iQ x.2 r.1=true))/\r.1.length<=4/\(∀ p∈r.1,p.1.length<=6/\p.2.length<=6)/\0<=r.2.2.1:(aW × aS)->(bW × aW)->Prop) x (yW x):=⟨aKF.ok x hp hx,bLA x hx hp⟩
end
set_option maxRecDepth 100000
theorem cC5 (L N:Nat):Int.tdiv (L:Int) (N:Int)=((L / N:Nat):Int):=by
 rw[Int.tdiv_eq_ediv_of_nonneg (by omega)];rfl
theorem cCA (L N:Nat):Int.tmod (L:Int) (N:Int)=((L % N:Nat):Int):=by
 rw[Int.tmod_eq_emod_of_nonneg (by omega)];rfl
theorem pk2 {α β:Type} {k:Nat} {a a':α} {b b':β} (h:a=a') (h':b=b'):((k:Int)+1,a,b)=(((k+1:Nat):Int),a',b'):=by subst h;subst h';exact pk rfl
def qV (q r:Nat):Nat->Nat
 | 0=>0
 | i+1=>qV q r i+q+(if i<r then 1 else 0)
theorem bHV (q r:Nat):(i:Nat)->qV q r i=i * q+min i r
 | 0=>by simp[qV]
 | i+1=>by
  rw[qV,bHV q r i,Nat.succ_mul]
  split <;> omega
theorem bRA (q r : Nat) {i j : Nat} (h : i <= j) : qV q r i <= qV q r j := by
  induction j with
  | zero => have : i = 0 := by omega
            subst this; exact Nat.le_refl _
  | succ j ih =>
    rcases Nat.lt_or_eq_of_le h with h | rfl
    · have := ih (by omega)
      rw [qV]; omega
    · exact Nat.le_refl _
theorem bW6 {L N:Nat} (h:1<=N):qV (L / N) (L % N) N=L:=by
 rw[bHV]
 have h1:=Nat.div_add_mod L N
 have h2:=Nat.mod_lt L (show 0<N by omega)
 omega
theorem aN5 {L N i:Nat} (h:1<=N) (hi:i<=N):qV (L / N) (L % N) i<=L:=by
 have:=bRA (L / N) (L % N) hi
 rw[bW6 h] at this
 exact this
def xV (l:List bA) (N i:Nat):List bA:=(l.take (qV (l.length / N) (l.length % N) (i+1))).drop (qV (l.length / N) (l.length % N) i)
theorem bI8 {l:List bA} {N i:Nat} (h:1<=N) (hi:i<N):(xV l N i).length=l.length / N+(if i<l.length % N then 1 else 0):=by
 have h1:=aN5 (L:=l.length) (N:=N) (i:=i+1) h hi
 unfold xV
 rw[List.length_drop,List.length_take,Nat.min_eq_left h1,qV]
 generalize l.length / N=q
 omega
theorem bZK {l:List bA} {N i j:Nat} (h:1<=N) (hi:i<N) (hj:j<(xV l N i).length):∃ hk:qV (l.length / N) (l.length % N) i+j<l.length,(xV l N i)[j]=l[qV (l.length / N) (l.length % N) i+j]:=by
 have h1:=aN5 (L:=l.length) (N:=N) (i:=i+1) h hi
 have h2:=bI8 (l:=l) h hi
 rw[qV] at h1
 have hk:qV (l.length / N) (l.length % N) i+j<l.length:=by omega
 refine ⟨hk,?_⟩
 have e:(xV l N i)[j]?=l[qV (l.length / N) (l.length % N) i+j]?:=by
  unfold xV
  rw[List.getElem?_drop,List.getElem?_take,if_pos (by rw[qV];omega)]
 rw[List.getElem?_eq_getElem hj,List.getElem?_eq_getElem hk] at e
 exact Option.some.inj e
theorem bH9 {l:List bA} {N i:Nat}:∀ p∈xV l N i,p∈l:=fun p hp=>List.mem_of_mem_take (List.mem_of_mem_drop hp)
noncomputable def iE (l:List bA) (n:Int):List (List bA):=if n<1\/4<n then [] else mp n.toNat (xV l n.toNat)
noncomputable def bGX:Con:=⟨18,bCA,.bool,[.val ⟨false,bCA,[]⟩],[⟨false,.bool,[0]⟩],false,none,
 ((fun _=>True):(List Int)->Prop),
 ((fun x=>decide (1048576<x.length)):(List Int)->(Bool))⟩
def bPW:T:=bT 5 (.int .u8) cX <| dY aX 1048576 <| cM 2
theorem bXY:Con.Holds Tryz.prog bGX:=tk ⟨[],[]⟩ bPW aL fun (x:List Int) hx hp=>by
 dsimp only [bGX] at hx hp ⊢
 delta bPW;refine gH ?_
 refine iC ?_
 intro _
 rw[decide_eq_decide];omega
noncomputable def aJ4:Con:=⟨24,aF,.bool,[.val ⟨false,aA,[]⟩,.val ⟨false,aA,[]⟩],[⟨false,.bool,[0]⟩],false,none,
 ((fun x=>x.1=x.2):(bA)->Prop),
 ((fun _=>true):(bA)->(Bool))⟩
def aRE:T:=cN kW <| cN pD <| eM eW aX 2 <| eQ 3 <| dX tI aM 3 tI kW <| tE 4 5 6 (bN 3 tI aA kW 4 <| bN 3 tI aA pD 4 <| tM eW 7 8 9 <| kF gD 1 0 gN) bK
theorem bFI:Con.Holds Tryz.prog aJ4:=tk ⟨[(2988,2004,oS 10 6++[.tm 5 0])],[]⟩ aRE aL fun (x:bA) hx hp=>by
 dsimp only [aJ4] at hx hp ⊢
 obtain ⟨a,b⟩:=x
 obtain rfl:a=b:=hp
 have hl:=cB0 (show List.length a<=maxLen from hx.1.1)
 delta aRE;refine gH ?_
 refine iC ?_
 refine fun _ _=>⟨fun h=>absurd trivial h,fun _=>fN (fun k=>(k:Int)) a.length rfl fun I μ k hk _ go=>?_⟩
 try dsimp only
 refine iC ?_
 refine fun _=>⟨fun hlt=>?_,fun hge=>trivial⟩
 have hk':k<a.length:=by omega
 (repeat' first|intro _|(refine go2 _ ?_ ?_ ?_)|(refine go2 _ ?_ ?_)|(refine go _ ?_ ?_ ?_)|(refine go _ ?_ ?_)|(with_reducible apply And.intro))
 all_goals first|omega|rfl|trivial|(exfalso;simp_all;done)|skip
end Go.Proofs.YtlhaoiaieiladaaGreat
