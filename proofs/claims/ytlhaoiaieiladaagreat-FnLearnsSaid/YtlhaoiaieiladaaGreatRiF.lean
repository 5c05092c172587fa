/- RiF: lemmas. No conditions. -/
import Derived.Test.YtlhaoiaieiladaaGreatCoreB
namespace Go.Proofs.YtlhaoiaieiladaaGreat
open Go.ChangeShapes Go.WideShapes Go.ChangeAt Go.RowKit Go.Deep
set_option linter.unusedVariables false
set_option linter.unusedSimpArgs false
noncomputable section
set_option maxRecDepth 100000
def aP (p:bI) (s:Int):eZ :=
 if 0<=s/\s<(p.2.1.length:Int)/\0<=(p.2.1.getD s.toNat (aK aC)).1/\(p.2.1.getD s.toNat (aK aC)).1<((p.2.1.getD s.toNat (aK aC)).2.1.length:Int) then (p.2.1.getD s.toNat (aK aC)).2.1.getD (p.2.1.getD s.toNat (aK aC)).1.toNat (0,0) else (0,0)
def aHE (q:dK):Bool:=decide ((q.2.length:Int)<q.1)
def bU9 (p:bI):Bool:=p.2.1.all fun x=>decide ((x.2.1.length:Int) - 1<=x.1)
def gS (p:bI) (s:Int):Bool :=
 if vJ p=true/\0<=s/\s<(p.2.1.length:Int) then
  (if (aP p s).1=1 then decide (0<s)&&decide (0<(p.2.2.1.getD (s - 1).toNat (aK aI)).2.length)
  else if (aP p s).1=3 then decide (s<(p.2.1.length:Int) - 1)&&aHE (p.2.2.1.getD s.toNat (aK aI))
  else if (aP p s).1=4 then decide (s<(p.2.1.length:Int) - 1)&&decide (0<(p.2.2.2.getD s.toNat (aK aI)).2.length)
  else if (aP p s).1=7 then decide (0<s)&&aHE (p.2.2.2.getD (s - 1).toNat (aK aI))
  else if (aP p s).1=2 then true else if (aP p s).1=5 then true else if (aP p s).1=6 then true
  else if (aP p s).1=8 then bU9 p else false)
 else false
def oD (p:bI) (s:Int):bH:=p.2.1.getD s.toNat (aK aC)
def aY1 (x:bH) (v:List Int):bH:=(x.1,x.2.1,x.2.2.1,x.2.2.2.1,x.2.2.2.2.1,x.2.2.2.2.2.1,x.2.2.2.2.2.2.1,v,x.2.2.2.2.2.2.2.2)
def bB2 (x:bH) (v:List Int):bH:=(x.1,x.2.1,x.2.2.1,x.2.2.2.1,x.2.2.2.2.1,x.2.2.2.2.2.1,x.2.2.2.2.2.2.1,x.2.2.2.2.2.2.2.1,v,x.2.2.2.2.2.2.2.2.2)
def bB1 (x:bH) (v:List Int):bH:=(x.1,x.2.1,x.2.2.1,x.2.2.2.1,x.2.2.2.2.1,x.2.2.2.2.2.1,x.2.2.2.2.2.2.1,x.2.2.2.2.2.2.2.1,x.2.2.2.2.2.2.2.2.1,v,x.2.2.2.2.2.2.2.2.2.2)
def aA2 (x:bH) (v:List Int):bH:=(x.1,x.2.1,x.2.2.1,x.2.2.2.1,x.2.2.2.2.1,x.2.2.2.2.2.1,x.2.2.2.2.2.2.1,x.2.2.2.2.2.2.2.1,x.2.2.2.2.2.2.2.2.1,x.2.2.2.2.2.2.2.2.2.1,v,x.2.2.2.2.2.2.2.2.2.2.2)
def nX (x:bH) (k:Int):bH:=(k,x.2)
def cZ (p:bI) (s:Int):bH :=
 if (aP p s).1=1 then aY1 (oD p s) (xR (p.2.2.1.getD (s - 1).toNat (aK aI))).2.1.2
 else if (aP p s).1=2 then aCB (oD p s) (aP p s).2 (if s=0 then (p.1.getD (aP p s).2.toNat (aK aF)).1 else (oD p s).2.2.2.2.2.2.2.1) (p.1.getD (aP p s).2.toNat (aK aF)).2
 else if (aP p s).1=3 then bB2 (oD p s) []
 else if (aP p s).1=4 then bB1 (oD p s) (xR (p.2.2.2.getD s.toNat (aK aI))).2.1.2
 else if (aP p s).1=5 then xM (oD p s) (aP p s).2
 else if (aP p s).1=6 then (if s=0 then aA2 (xQ (oD p s) (aP p s).2 (p.1.getD (aP p s).2.toNat (aK aF)).2) [] else xQ (oD p s) (aP p s).2 (p.1.getD (aP p s).2.toNat (aK aF)).2)
 else if (aP p s).1=7 then aA2 (oD p s) []
 else oD p s
def iG (p:bI) (s:Int):List dK :=
 if (aP p s).1=1 then p.2.2.1.set (s - 1).toNat (xR (p.2.2.1.getD (s - 1).toNat (aK aI))).1
 else if (aP p s).1=3 then p.2.2.1.set s.toNat (yY (p.2.2.1.getD s.toNat (aK aI)) ((aP p s).2,(oD p s).2.2.2.2.2.2.2.2.1)).1
 else p.2.2.1
def iH (p:bI) (s:Int):List dK :=
 if (aP p s).1=4 then p.2.2.2.set s.toNat (xR (p.2.2.2.getD s.toNat (aK aI))).1
 else if (aP p s).1=7 then p.2.2.2.set (s - 1).toNat (yY (p.2.2.2.getD (s - 1).toNat (aK aI)) ((aP p s).2,(oD p s).2.2.2.2.2.2.2.2.2.2.1)).1
 else p.2.2.2
def fH (p:bI) (s:Int):bI:=if gS p s=true then (p.1,p.2.1.set s.toNat (nX (cZ p s) ((cZ p s).1+1)),iG p s,iH p s) else p
def nY (p:bI):List Int->bI
 | []=>p
 | s :: l=>nY (fH p s) l
theorem aQP {b:List bA} {st:List bH} {a r:List dK} (h:bC aR (b,st,a,r)<=1000000000):List.length b<=1000000000/\bC aE b<=1000000000/\List.length st<=1000000000/\(∀ x∈st,bC aC x<=1000000000) /\
  List.length a<=1000000000/\(∀ x∈a,bC aI x<=1000000000)/\List.length r<=1000000000/\∀ x∈r,bC aI x<=1000000000:=by
 have e:bC aR (b,st,a,r)=bC aE b+(bC (.slice 145 aC) st+(bC aU a+bC aU r)):=rfl
 have h1:List.length b<=bC aE b:=wE (e:=77) (t:=aF) b
 have h2:List.length st<=bC (.slice 145 aC) st:=wE (e:=145) (t:=aC) st
 have h3:List.length a<=bC aU a:=wE (e:=150) (t:=aI) a
 have h4:List.length r<=bC aU r:=wE (e:=150) (t:=aI) r
 refine ⟨by omega,by omega,by omega,fun x hx=>?_,by omega,fun x hx=>?_,by omega,fun x hx=>?_⟩
 ·have:=aS6 (e:=145) (t:=aC) hx;omega
 ·have:bC aI x<=bC aU a:=aS6 (e:=150) (t:=aI) hx;omega
 ·have:bC aI x<=bC aU r:=aS6 (e:=150) (t:=aI) hx;omega
theorem bOD {p:bI} {s:Int} (h:¬ (0<=s/\s<(p.2.1.length:Int)/\0<=(p.2.1.getD s.toNat (aK aC)).1/\(p.2.1.getD s.toNat (aK aC)).1<((p.2.1.getD s.toNat (aK aC)).2.1.length:Int))):(0,0)=aP p s:=(if_neg h).symm
theorem bAK {p:bI} {s:Int} (h1:0<=s) (h2:s<(p.2.1.length:Int)) (h3:0<=(p.2.1.getD s.toNat (aK aC)).1) (h4:(p.2.1.getD s.toNat (aK aC)).1<((p.2.1.getD s.toNat (aK aC)).2.1.length:Int)) :
 (p.2.1.getD s.toNat (aK aC)).2.1.getD (p.2.1.getD s.toNat (aK aC)).1.toNat (aK aQ)=aP p s:=(if_pos ⟨h1,h2,h3,h4⟩).symm
def aQZ (x:bH):Bool:=decide ((x.2.1.length:Int) - 1<=x.1)
theorem bPQ (p:bI):bU9 p=p.2.1.all aQZ:=rfl
theorem bLL {p:bI} {s:Int} (h:vJ p=false\/s<0\/(p.2.1.length:Int)<=s):false=gS p s:=by
 unfold gS;rw[if_neg]
 rintro ⟨h1,h2,h3⟩
 rcases h with h|h|h
 ·rw[h] at h1;cases h1
 ·omega
 ·omega
theorem bJJ {p:bI} {s:Int} (h1:vJ p=true) (h2:0<=s) (h3:s<(p.2.1.length:Int)) (k:(aP p s).1=1):gS p s=(decide (0<s)&&decide (0<(p.2.2.1.getD (s - 1).toNat (aK aI)).2.length)):=by
 unfold gS;rw[if_pos ⟨h1,h2,h3⟩,if_pos k]
theorem bRD {p:bI} {s:Int} (h1:vJ p=true) (h2:0<=s) (h3:s<(p.2.1.length:Int)) (k:(aP p s).1=3):gS p s=(decide (s<(p.2.1.length:Int) - 1)&&aHE (p.2.2.1.getD s.toNat (aK aI))):=by
 unfold gS;rw[if_pos ⟨h1,h2,h3⟩,k];rfl
theorem bLC {p:bI} {s:Int} (h1:vJ p=true) (h2:0<=s) (h3:s<(p.2.1.length:Int)) (k:(aP p s).1=4):gS p s=(decide (s<(p.2.1.length:Int) - 1)&&decide (0<(p.2.2.2.getD s.toNat (aK aI)).2.length)):=by
 unfold gS;rw[if_pos ⟨h1,h2,h3⟩,k];rfl
theorem bRG {p:bI} {s:Int} (h1:vJ p=true) (h2:0<=s) (h3:s<(p.2.1.length:Int)) (k:(aP p s).1=7):gS p s=(decide (0<s)&&aHE (p.2.2.2.getD (s - 1).toNat (aK aI))):=by
 unfold gS;rw[if_pos ⟨h1,h2,h3⟩,k];rfl
theorem bEN {p:bI} {s:Int} (h1:vJ p=true) (h2:0<=s) (h3:s<(p.2.1.length:Int)) (k:(aP p s).1=2\/(aP p s).1=5\/(aP p s).1=6):true=gS p s:=by
 unfold gS;rw[if_pos ⟨h1,h2,h3⟩]
 rcases k with k|k|k <;> rw[k] <;> rfl
theorem cAD {p:bI} {s:Int} (h1:vJ p=true) (h2:0<=s) (h3:s<(p.2.1.length:Int)) (k:(aP p s).1=8):gS p s=bU9 p:=by
 unfold gS;rw[if_pos ⟨h1,h2,h3⟩,k];rfl
theorem bVL {n:Nat}:decide ((0:Int)<(n:Int))=decide (0<n):=by rw[Bool.eq_iff_iff,decide_eq_true_eq,decide_eq_true_eq];omega
theorem cAI {p:bI} {s:Int} (h:¬ (aP p s).1=1/\¬ (aP p s).1=2/\¬ (aP p s).1=3/\¬ (aP p s).1=4/\¬ (aP p s).1=5/\¬ (aP p s).1=6/\¬ (aP p s).1=7/\¬ (aP p s).1=8):false=gS p s:=by
 unfold gS;split
 ·rw[if_neg h.1,if_neg h.2.2.1,if_neg h.2.2.2.1,if_neg h.2.2.2.2.2.2.1,if_neg h.2.1,if_neg h.2.2.2.2.1,if_neg h.2.2.2.2.2.1,if_neg h.2.2.2.2.2.2.2]
 ·rfl
theorem bZX {p:bI} {s:Int} (h1:vJ p=true) (h2:0<=s) (h3:s<(p.2.1.length:Int)) (k:(aP p s).1=1) (h:s<=0):false=gS p s:=by rw[bJJ h1 h2 h3 k,decide_eq_false (by omega)];rfl
theorem bZY {p:bI} {s:Int} (h1:vJ p=true) (h2:0<=s) (h3:s<(p.2.1.length:Int)) (k:(aP p s).1=1) (h:0<s):decide ((0:Int)<((p.2.2.1.getD (s - 1).toNat (aK aI)).2.length:Int))=gS p s:=by rw[bJJ h1 h2 h3 k,decide_eq_true h,bVL,Bool.true_and]
theorem cA0 {p:bI} {s:Int} (h1:vJ p=true) (h2:0<=s) (h3:s<(p.2.1.length:Int)) (k:(aP p s).1=3) (h:(p.2.1.length:Int) - 1<=s):false=gS p s:=by rw[bRD h1 h2 h3 k,decide_eq_false (by omega)];rfl
theorem cA9 {p:bI} {s:Int} (h1:vJ p=true) (h2:0<=s) (h3:s<(p.2.1.length:Int)) (k:(aP p s).1=3) (h:s<(p.2.1.length:Int) - 1):aHE (p.2.2.1.getD s.toNat (aK aI))=gS p s:=by rw[bRD h1 h2 h3 k,decide_eq_true h,Bool.true_and]
theorem cA8 {p:bI} {s:Int} (h1:vJ p=true) (h2:0<=s) (h3:s<(p.2.1.length:Int)) (k:(aP p s).1=4) (h:(p.2.1.length:Int) - 1<=s):false=gS p s:=by rw[bLC h1 h2 h3 k,decide_eq_false (by omega)];rfl
theorem cA3 {p:bI} {s:Int} (h1:vJ p=true) (h2:0<=s) (h3:s<(p.2.1.length:Int)) (k:(aP p s).1=4) (h:s<(p.2.1.length:Int) - 1):decide ((0:Int)<((p.2.2.2.getD s.toNat (aK aI)).2.length:Int))=gS p s:=by rw[bLC h1 h2 h3 k,decide_eq_true h,bVL,Bool.true_and]
theorem bZW {p:bI} {s:Int} (h1:vJ p=true) (h2:0<=s) (h3:s<(p.2.1.length:Int)) (k:(aP p s).1=7) (h:s<=0):false=gS p s:=by rw[bRG h1 h2 h3 k,decide_eq_false (by omega)];rfl
theorem bZS {p:bI} {s:Int} (h1:vJ p=true) (h2:0<=s) (h3:s<(p.2.1.length:Int)) (k:(aP p s).1=7) (h:0<s):aHE (p.2.2.2.getD (s - 1).toNat (aK aI))=gS p s:=by rw[bRG h1 h2 h3 k,decide_eq_true h,Bool.true_and]
theorem aW7 {α:Type} {f:α->Bool} {l:List α} {k:Nat} (h:(List.take k l).all f=true) (hk:l.length<=k):l.all f=true:=by rw[List.take_of_length_le hk] at h;exact h
def aIS:Con:=⟨123,aR,aR,[.val ⟨true,aR,[]⟩],[⟨true,aR,[2,2,2,2]⟩],false,none,
 ((fun x=>bC aR x<=1000000000):(bI)->Prop),
 ((fun x=>x):(bI)->(bI))⟩
def aQV:T:=gG 0 aE iU 0 <| iN 145 aC oK (kL bU) (rN bU 145 aC) <| sT bU 3 2 4 (cR 145 aC bU oK bU 3 <| yK 1 iR (kA 145 aC) 6 <| dM (.cD7 145 aC 248) bU bU (dN bU 3) 7 <| fE bU 3 1 0 bU 9 8) <| iN 150 aI (aGD 0) (kL aU) (rN aU 150 aI) <| sT aU 6 5 7 (cR 150 aI aU (aGD 0) aU 6 <| yK 2 gP (kA 150 aI) 9 <| tN 150 aI aU aU (dN aU 6) 10 <| fE aU 6 1 0 aU 12 11) <| iN 150 aI (dH aR 0) (kL aU) (rN aU 150 aI) <| nR aU 9 8 10 (cR 150 aI aU (dH aR 0) aU 9 <| yK 2 iX (kA 150 aI) 12 <| tN 150 aI aU aU (dN aU 9) 13 <| fE aU 9 1 0 aU 15 14) (mkA aR [aX,dN bU 3,dN aU 6,dN aU 9])
theorem bGQ:Con.Holds Tryz.prog aIS:=tk ⟨[(2991,1003,oS 14 10++[.dr 0,.tm 17 0,.sl 13]),(2981,2006,[.dr 29]++oS 18 15++[.tm 32 0,.sl 14]),(2971,4009,[.dr 44]++oS 33 30++[.dr 1,.tm 47 0,.sl 15])],[(2981,3006,[24],[]),(2971,6009,[39],[]),(2961,12012,[54],[])]⟩ aQV (aD aGE (aD aAZ (aD aGQ aL))) fun (x:bI) hx hp=>by
 dsimp only [aIS] at hx hp ⊢
 obtain ⟨b,st,a,r⟩:=x
 obtain ⟨h1,h1s,h2,h2m,h3,h3m,h4,h4m⟩:=aQP hp
 delta aQV xK tU xG;refine gH ?_
 refine ⟨h1s,fun _ _=>?_⟩
 refine fN (fun k=>((k:Int),List.take k st)) (List.length st) rfl fun I μ k hk _ go=>?_
 dsimp only
 (refine iC ?_;try with_reducible exact True.intro)
 skip
 constructor
 ·intro hlt
  have hk':k<st.length:=by omega
  have hm:=h2m _ (List.getElem_mem hk')
  simp only[aO hk']
  (repeat' first|intro _|(refine go _ ?_ ?_ ?_)|(refine go _ ?_ ?_)|(with_reducible apply And.intro))
  all_goals first|omega|(with_reducible exact hm)|(with_reducible exact hm.1)|(with_reducible exact hm.2)|(unfold maxLen;omega)|(simp only[List.length_take];unfold maxLen;omega)|(simp only[List.length_take];omega)|(rw[mE hk'];rfl)
 intro hge _
 rw[show List.take k st=st from List.take_of_length_le (by omega)]
 clear go
 refine fN (fun k=>((k:Int),List.take k a)) (List.length a) rfl fun I μ k hk _ go=>?_
 dsimp only
 (refine iC ?_;try with_reducible exact True.intro)
 skip
 constructor
 ·intro hlt
  have hk':k<a.length:=by omega
  have hm:=h3m _ (List.getElem_mem hk')
  simp only[aO hk']
  (repeat' first|intro _|(refine go _ ?_ ?_ ?_)|(refine go _ ?_ ?_)|(with_reducible apply And.intro))
  all_goals first|omega|(with_reducible exact hm)|(with_reducible exact hm.1)|(with_reducible exact hm.2)|(unfold maxLen;omega)|(simp only[List.length_take];unfold maxLen;omega)|(simp only[List.length_take];omega)|(rw[mE hk'];rfl)
 intro hge _
 rw[show List.take k a=a from List.take_of_length_le (by omega)]
 clear go
 refine fN (fun k=>((k:Int),List.take k r)) (List.length r) rfl fun I μ k hk _ go=>?_
 dsimp only
 (refine iC ?_;try with_reducible exact True.intro)
 skip
 constructor
 ·intro hlt
  have hk':k<r.length:=by omega
  have hm:=h4m _ (List.getElem_mem hk')
  simp only[aO hk']
  (repeat' first|intro _|(refine go _ ?_ ?_ ?_)|(refine go _ ?_ ?_)|(with_reducible apply And.intro))
  all_goals first|omega|(with_reducible exact hm)|(with_reducible exact hm.1)|(with_reducible exact hm.2)|(unfold maxLen;omega)|(simp only[List.length_take];unfold maxLen;omega)|(simp only[List.length_take];omega)|(rw[mE hk'];rfl)
 intro hge
 rw[show List.take k r=r from List.take_of_length_le (by omega)]
def aFM:Con:=⟨110,aR,aR,[.val ⟨true,aR,[]⟩],[⟨true,aR,[2,2,2,2]⟩],false,none,
 ((fun x=>bC aR x<=1000000000):(bI)->Prop),
 ((fun x=>x):(bI)->(bI))⟩
def aU2:T:=dX (kL aE) (rN aE 77 aF) 77 aF (dT aE iU) <| sT aE 1 2 3 (cR 77 aF aE (dT aE iU) aE 1 <| cR 77 aF aE (dT aE iU) aE 1 <| iT (sS 3 8) aA aA aT (qT aA aA 4) <| iT (sS 3 8) aA aA aT (xA 5) <| dM (kA 77 aF) aA aA fB 7 <| dM (.cD7 77 aF 48) aE aE (dN aE 1) 8 <| fE aE 1 1 0 aE 10 9) <| dX (kL bU) (rN bU 145 aC) 145 aC oK <| sT bU 4 5 6 (cR 145 aC bU oK bU 4 <| yK 0 lN (kA 145 aC) 8 <| dM (.cD7 145 aC 248) bU bU (dN bU 4) 9 <| fE bU 4 1 0 bU 11 10) <| dX (kL aU) (rN aU 150 aI) 150 aI (aGD 0) <| sT aU 7 8 9 (cR 150 aI aU (aGD 0) aU 7 <| yK 1 gN (kA 150 aI) 11 <| tN 150 aI aU aU (dN aU 7) 12 <| fE aU 7 1 0 aU 14 13) <| dX (kL aU) (rN aU 150 aI) 150 aI (dH aR 0) <| nR aU 10 11 12 (cR 150 aI aU (dH aR 0) aU 10 <| yK 1 jC (kA 150 aI) 14 <| tN 150 aI aU aU (dN aU 10) 15 <| fE aU 10 1 0 aU 17 16) (mkA aR [dN aE 1,dN bU 4,dN aU 7,dN aU 10])
theorem aUD:Con.Holds Tryz.prog aFM:=tk ⟨[(2991,1001,[.dr 8,.dr 0,.tm 4 0,.sl 12]),(2981,2004,oS 13 9++[.dr 4,.tm 5 0,.sl 13]),(2971,4007,oS 42 38++[.dr 5,.tm 6 0,.sl 14]),(2961,8010,oS 60 56++[.dr 6,.tm 7 0,.sl 15])],[(2983,3004,[33,25],[]),(2973,6007,[52],[]),(2963,12010,[70],[]),(2953,24013,[88],[])]⟩ aU2 (aD aFF (aD aLV aL)) fun (x:bI) hx hp=>by
 dsimp only [aFM] at hx hp ⊢
 obtain ⟨b,st,a,r⟩:=x
 obtain ⟨h1,h1s,h2,h2m,h3,h3m,h4,h4m⟩:=aQP hp
 have hb:∀ x∈b,List.length x.1<=1000000000/\List.length x.2<=1000000000:=fun x hx=>⟨((rG (t:=aE) h1s).2 x hx).1.1,((rG (t:=aE) h1s).2 x hx).2.1⟩
 delta aU2 yZ aBM;refine gH ?_
 refine fN (fun k=>((k:Int),List.take k b)) (List.length b) rfl fun I μ k hk _ go=>?_
 dsimp only
 refine iC ?_
 intro _
 constructor
 ·intro hlt
  have hk':k<b.length:=by omega
  have hm:=hb _ (List.getElem_mem hk')
  simp only[aO hk']
  (repeat' first|intro _|(refine go _ ?_ ?_ ?_)|(refine go _ ?_ ?_)|(with_reducible apply And.intro))
  all_goals first|omega|(with_reducible exact hm)|(with_reducible exact hm.1)|(with_reducible exact hm.2)|(unfold maxLen;omega)|(simp only[List.length_take];unfold maxLen;omega)|(simp only[List.length_take];omega)|(rw[mE hk'];rfl)
 intro hge
 rw[show List.take k b=b from List.take_of_length_le (by omega)]
 clear go
 refine fN (fun k=>((k:Int),List.take k st)) (List.length st) rfl fun I μ k hk _ go=>?_
 dsimp only
 refine iC ?_
 intro _
 constructor
 ·intro hlt
  have hk':k<st.length:=by omega
  have hm:=h2m _ (List.getElem_mem hk')
  simp only[aO hk']
  (repeat' first|intro _|(refine go _ ?_ ?_ ?_)|(refine go _ ?_ ?_)|(with_reducible apply And.intro))
  all_goals first|omega|(with_reducible exact hm)|(with_reducible exact hm.1)|(with_reducible exact hm.2)|(unfold maxLen;omega)|(simp only[List.length_take];unfold maxLen;omega)|(simp only[List.length_take];omega)|(rw[mE hk'];rfl)
 intro hge
 rw[show List.take k st=st from List.take_of_length_le (by omega)]
 clear go
 refine fN (fun k=>((k:Int),List.take k a)) (List.length a) rfl fun I μ k hk _ go=>?_
 dsimp only
 refine iC ?_
 intro _
 constructor
 ·intro hlt
  have hk':k<a.length:=by omega
  have hm:=h3m _ (List.getElem_mem hk')
  simp only[aO hk']
  (repeat' first|intro _|(refine go _ ?_ ?_ ?_)|(refine go _ ?_ ?_)|(with_reducible apply And.intro))
  all_goals first|omega|(with_reducible exact hm)|(with_reducible exact hm.1)|(with_reducible exact hm.2)|(unfold maxLen;omega)|(simp only[List.length_take];unfold maxLen;omega)|(simp only[List.length_take];omega)|(rw[mE hk'];rfl)
 intro hge
 rw[show List.take k a=a from List.take_of_length_le (by omega)]
 clear go
 refine fN (fun k=>((k:Int),List.take k r)) (List.length r) rfl fun I μ k hk _ go=>?_
 dsimp only
 refine iC ?_
 intro _
 constructor
 ·intro hlt
  have hk':k<r.length:=by omega
  have hm:=h4m _ (List.getElem_mem hk')
  simp only[aO hk']
  (repeat' first|intro _|(refine go _ ?_ ?_ ?_)|(refine go _ ?_ ?_)|(with_reducible apply And.intro))
  all_goals first|omega|(with_reducible exact hm)|(with_reducible exact hm.1)|(with_reducible exact hm.2)|(unfold maxLen;omega)|(simp only[List.length_take];unfold maxLen;omega)|(simp only[List.length_take];omega)|(rw[mE hk'];rfl)
 intro hge
 rw[show List.take k r=r from List.take_of_length_le (by omega)]
def aQY:Con:=⟨125,(.cD0 aR tI),aQ,[.val ⟨true,aR,[]⟩,.val ⟨false,tI,[]⟩],[⟨true,aQ,[0,0]⟩],false,none,
 ((fun _=>True):(bI × Int)->Prop),
 ((fun x=>aP x.1 x.2):(bI × Int)->(Int × Int))⟩
def bHC:T:=iS bM eT 0 <| cE 1 (gM tI aM) <| bT 145 aC (fK aR 1 aR tI) <| eM aLE eT 2 <| cE 3 (gM tI aM) <| mX aC bU (fK aR 1 aR tI) 1 0 <| qH bM 4 0 <| cE 5 (gM tI aM) <| bT 158 aQ (bS 1 4) <| aAK aLE bHL 4 6 <| cE 7 (gM tI aM) <| cR 158 aQ bD (bS 1 4) bHL 4 <| cM 8
theorem bIW:Con.Holds Tryz.prog aQY:=tk ⟨[],[]⟩ bHC aL fun (x:bI × Int) hx hp=>by
 dsimp only [aQY] at hx hp ⊢
 obtain ⟨p,s⟩:=x
 delta bHC;refine gH ?_
 (refine iC ?_;try with_reducible exact True.intro)
 (repeat' first|intro _|(with_reducible apply And.intro))
 all_goals first|omega|exact bAK (by omega) (by omega) (by omega) (by omega)|exact bOD (by omega)|skip
def aRT:Con:=⟨167,(.cD0 aR tI),aQ,[.val ⟨true,aR,[]⟩,.val ⟨false,tI,[]⟩],[⟨true,aQ,[0,0]⟩],false,none,
 ((fun _=>True):(bI × Int)->Prop),
 ((fun x=>aP x.1 x.2):(bI × Int)->(Int × Int))⟩
def bJZ:T:=bT 145 aC (fK aR 1 aR tI) <| iA aX 1 <| kS 0 aQ (eE eT aM 2) 3 4 (gM tI aM) <| mX aC bU (fK aR 1 aR tI) 1 0 <| mX aC bU (fK aR 1 aR tI) 1 0 <| kI 158 aQ (bS 1 6) fJ 7 1 <| kS 0 aQ (eE (aOL 5) aM 8) 9 10 (gM tI aM) <| mX aC bU (fK aR 1 aR tI) 1 0 <| mX aC bU (fK aR 1 aR tI) 1 0 <| cR 158 aQ bD (bS 1 11) bHL 12 <| cM 13
theorem bIM:Con.Holds Tryz.prog aRT:=tk ⟨[],[]⟩ bJZ (aD mC aL) fun (x:bI × Int) hx hp=>by
 dsimp only [aRT] at hx hp ⊢
 obtain ⟨p,s⟩:=x
 have hm:∀ k,k<p.2.1.length->(p.2.1.getD k (aK aC)).2.1.length<=9223372036854775807:=fun k hk=>by rw[aO hk];exact (hx.1.2.1.2 _ (List.getElem_mem hk)).2.1.1
 have hm1:p.2.1.length<=9223372036854775807:=hx.1.2.1.1
 have hm2:=hm s.toNat
 delta bJZ kY;refine gH ?_
 (refine iC ?_;try with_reducible exact True.intro)
 (repeat' first|intro _|(with_reducible apply And.intro))
 all_goals first|omega|exact bAK (by omega) (by omega) (by omega) (by omega)|exact bOD (by omega)|skip
def aK0:Con:=⟨182,aI,.bool,[.val ⟨true,aI,[]⟩],[⟨false,.bool,[0]⟩],false,none,
 ((fun _=>True):(dK)->Prop),
 ((fun x=>aHE x):(dK)->(Bool))⟩
def aTR:T:=bT 161 bF xE <| bX bM aX (bO eJ 0) <| cM 2
theorem bIJ:Con.Holds Tryz.prog aK0:=tk ⟨[],[]⟩ aTR aL fun (x:dK) hx hp=>by
 dsimp only [aK0] at hx hp ⊢
 delta aTR;refine gH ?_
 exact fun _=>rfl
def aP7:Con:=⟨204,aR,.bool,[.val ⟨true,aR,[]⟩],[⟨false,.bool,[0]⟩],false,none,
 ((fun _=>True):(bI)->Prop),
 ((fun x=>bU9 x):(bI)->(Bool))⟩
def aXU:T:=dX tI aM 145 aC oK <| kR bM aX 2 3 (bN 145 aC bU oK 1 <| bN 145 aC bU oK 1 <| kI 158 aQ (bS 1 5) fJ 6 1 <| bG2 bHL 4 7 <| eQ 8 <| kF aX 1 0 mT) bK
theorem bNO:Con.Holds Tryz.prog aP7:=tk ⟨[(2993,1001,[.dr 0,.tm 3 0])],[]⟩ aXU aL fun (x:bI) hx hp=>by
 dsimp only [aP7] at hx hp ⊢
 have hm:∀ k,k<x.2.1.length->(x.2.1.getD k (aK aC)).2.1.length<=9223372036854775807:=fun k hk=>by rw[aO hk];exact (hx.2.1.2 _ (List.getElem_mem hk)).2.1.1
 have hm1:x.2.1.length<=9223372036854775807:=hx.2.1.1
 delta aXU;refine gH ?_
 rw[bPQ]
 refine xL (fun k=>(k:Int)) (fun k=>(List.take k x.2.1).all aQZ=true) (List.length x.2.1) rfl rfl fun I μ k hk hG _ go=>?_
 try dsimp only
 refine iC ?_
 intro _
 constructor
 ·intro hlt
  have hk':k<x.2.1.length:=by omega
  have hm2:=hm k hk'
  have e:=xX aQZ x.2.1 hk'
  have ng:∀ P:Prop,aQZ x.2.1[k]=false->false=x.2.1.all aQZ:=fun _ h=>(aFN hk' h).symm
  rw[aO hk'] at hm2
  simp only[aO hk']
  (repeat' first|intro _|(refine go _ ?_ ?_ ?_)|(refine go _ ?_ ?_)|(with_reducible apply And.intro))
  all_goals first|omega|exact ng True (decide_eq_false (by omega))|(rw[e,hG,Bool.true_and];exact decide_eq_true (by omega))|rfl
 ·intro hge
  exact (aW7 hG (by omega)).symm
def aLL:Con:=⟨124,(.cD0 aR tI),.bool,[.val ⟨true,aR,[]⟩,.val ⟨false,tI,[]⟩],[⟨false,.bool,[0]⟩],false,none,
 ((fun _=>True):(bI × Int)->Prop),
 ((fun x=>gS x.1 x.2):(bI × Int)->(Bool))⟩
def aU3:T:=jE 0 (pC aR) 1 2 <| iS bM eT 0 <| eQ 3 <| bT 145 aC (fK aR 1 aR tI) <| eM aLE eT 4 <| eQ 5 <| kI 145 aC (fK aR 1 aR tI) fJ 6 1 <| eM bM eT 7 <| dE 1 0 <| qY 9 1 10 (dY eT 0 <| gV 11 <| iA eT 1 <| bN 150 aI aU (fK aR 2 aR tI) 12 <| bT 161 bF (tC 13) <| dY gW 0 <| cM 15) <| qY 9 3 11 (gV 8 <| xC 150 aI aU (fK aR 2 aR tI) 1 0 <| yA 2 12 13) <| qY 9 4 12 (gV 8 <| xC 150 aI aU (kG aR 3 aR tI) 1 0 <| bT 161 bF (tC 13) <| dY gW 0 <| cM 15) <| qY 9 7 13 (dY eT 0 <| gV 14 <| iA eT 1 <| bN 150 aI aU (kG aR 3 aR tI) 15 <| yA 2 16 17) <| oR (lV 9) 2 <| cE 14 bK <| oR (lV 9) 5 <| cE 15 bK <| oR (lV 9) 6 <| cE 16 bK <| oR (lV 9) 8 <| gV 17 <| iN 145 aC (fK aR 1 aR tI) tI aM <| tE 19 18 20 (bN 145 aC bU (fK aR 1 aR tI) 19 <| kI 158 aQ (bS 1 21) fJ 22 1 <| bG2 bHL 21 23 <| eQ 24 <| rR pK 1 0 25) bK
set_option maxHeartbeats 1000000 in
theorem bL1:Con.Holds Tryz.prog aLL:=tk ⟨[(2958,3072019,[.dr 90,.dr 88,.dr 89,.dr 84]++oS 87 85++[.dr 71,.dr 72,.dr 58,.dr 59,.dr 47,.dr 48,.dr 32,.dr 33]++oS 31 28++[.dr 5]++oS 27 8++[.dr 2,.dr 0,.dr 1,.tm 93 0])],[]⟩ aU3 (aD bN1 (aD bIW (aD bIJ aL))) fun (x:bI × Int) hx hp=>by
 dsimp only [aLL] at hx hp ⊢
 obtain ⟨p,s⟩:=x
 have hm:∀ k,k<p.2.1.length->(p.2.1.getD k (aK aC)).2.1.length<=9223372036854775807:=fun k hk=>by rw[aO hk];exact (hx.1.2.1.2 _ (List.getElem_mem hk)).2.1.1
 have hm1:p.2.1.length<=9223372036854775807:=hx.1.2.1.1
 delta aU3 aPN aQY aK0;refine gH ?_
 refine iC ?_
 refine ⟨fun h=>bLL (.inl h),fun h1=>⟨fun h=>bLL (.inr (.inl h)),fun h2 _=>⟨fun h=>bLL (.inr (.inr h)),fun h3 _=>⟨by omega,fun _ _=>?_⟩⟩⟩⟩
 have hp':=(uP.1 h1).1
 (repeat' first|intro _|(with_reducible apply And.intro))
 all_goals first|omega|exact bEN h1 h2 h3 (.inl (by assumption))|exact bEN h1 h2 h3 (.inr (.inl (by assumption)))|exact bEN h1 h2 h3 (.inr (.inr (by assumption)))|exact cAI ⟨by assumption,by assumption,by assumption,by assumption,by assumption,by assumption,by assumption,by assumption⟩|exact bZX h1 h2 h3 (by assumption) (by omega)|exact bZY h1 h2 h3 (by assumption) (by omega)|exact cA0 h1 h2 h3 (by assumption) (by omega)|exact cA9 h1 h2 h3 (by assumption) (by omega)|exact cA8 h1 h2 h3 (by assumption) (by omega)|exact cA3 h1 h2 h3 (by assumption) (by omega)|exact bZW h1 h2 h3 (by assumption) (by omega)|exact bZS h1 h2 h3 (by assumption) (by omega)|skip
 rw[cAD h1 h2 h3 (by assumption),bPQ]
 refine xL (fun k=>(k:Int)) (fun k=>(List.take k p.2.1).all aQZ=true) (List.length p.2.1) rfl rfl fun I μ k hk hG _ go=>?_
 try dsimp only
 refine iC ?_
 constructor
 ·intro hlt
  have hk':k<p.2.1.length:=by omega
  have hm2:=hm k hk'
  have e:=xX aQZ p.2.1 hk'
  have ng:∀ P:Prop,aQZ p.2.1[k]=false->false=p.2.1.all aQZ:=fun _ h=>(aFN hk' h).symm
  rw[aO hk'] at hm2
  simp only[aO hk']
  (repeat' first|intro _|(refine go _ ?_ ?_ ?_)|(refine go _ ?_ ?_)|(with_reducible apply And.intro))
  all_goals first|omega|exact ng True (decide_eq_false (by omega))|(rw[e,hG,Bool.true_and];exact decide_eq_true (by omega))|rfl
 ·intro hge
  exact (aW7 hG (by omega)).symm
def aL8:Con:=⟨166,(.cD0 aR tI),.bool,[.val ⟨true,aR,[]⟩,.val ⟨false,tI,[]⟩],[⟨false,.bool,[0]⟩],false,none,
 ((fun _=>True):(bI × Int)->Prop),
 ((fun x=>gS x.1 x.2):(bI × Int)->(Bool))⟩
def aUI:T:=jE 0 (pC aR) 1 2 <| kI 145 aC (fK aR 1 aR tI) fJ 3 1 <| kS 1 aQ (eE eT aM 4) 5 6 cL <| dE 2 0 <| qY 7 1 8 (dY eT 0 <| gV 9 <| iA eT 1 <| bN 150 aI aU (fK aR 2 aR tI) 10 <| bT 161 bF (tC 11) <| dY kO 0 <| cM 13) <| qY 7 3 9 (kI 145 aC (fK aR 1 aR tI) fJ 10 1 <| kR bM eT 11 12 (xC 150 aI aU (fK aR 2 aR tI) 1 0 <| bT 161 bF (tC 13) <| xC 150 aI aU (fK aR 2 aR tI) 1 0 <| bX bM gW (bO eJ 15) <| cM 16) cL) <| qY 7 4 10 (kI 145 aC (fK aR 1 aR tI) fJ 11 1 <| kR bM eT 12 13 (xC 150 aI aU (kG aR 3 aR tI) 1 0 <| bT 161 bF (tC 14) <| dY iL 0 <| cM 16) cL) <| qY 7 7 11 (dY eT 0 <| gV 12 <| iA eT 1 <| iA eT 1 <| bN 150 aI aU (kG aR 3 aR tI) 13 <| bT 161 bF (tC 15) <| bN 150 aI aU (kG aR 3 aR tI) 14 <| bX bM kT (bO eJ 17) <| cM 18) <| oR (lV 7) 2 <| cE 12 bK <| oR (lV 7) 5 <| cE 13 bK <| oR (lV 7) 6 <| cE 14 bK <| oR (lV 7) 8 <| gV 15 <| gG 3 aR tI 0 <| cM 16
set_option maxHeartbeats 1000000 in
theorem bHE:Con.Holds Tryz.prog aL8:=tk ⟨[],[]⟩ aUI (aD bME (aD mC (aD bIM (aD bNO aL)))) fun (x:bI × Int) hx hp=>by
 dsimp only [aL8] at hx hp ⊢
 obtain ⟨p,s⟩:=x
 have hm1:p.2.1.length<=9223372036854775807:=hx.1.2.1.1
 delta aUI aQ0 kY aRT aP7;refine gH ?_
 refine iC ?_
 refine ⟨fun h=>bLL (.inl h),fun h1 _=>⟨by omega,fun _=>⟨fun h=>bLL (.inr (by omega)),fun hs _=>?_⟩⟩⟩
 have h2:0<=s:=hs.1
 have h3:s<(p.2.1.length:Int):=by omega
 have hp':=(uP.1 h1).1
 (repeat' first|intro _|(with_reducible apply And.intro))
 all_goals first|omega|exact bEN h1 h2 h3 (.inl (by assumption))|exact bEN h1 h2 h3 (.inr (.inl (by assumption)))|exact bEN h1 h2 h3 (.inr (.inr (by assumption)))|exact cAI ⟨by assumption,by assumption,by assumption,by assumption,by assumption,by assumption,by assumption,by assumption⟩|exact bZX h1 h2 h3 (by assumption) (by omega)|exact bZY h1 h2 h3 (by assumption) (by omega)|exact cA0 h1 h2 h3 (by assumption) (by omega)|exact cA9 h1 h2 h3 (by assumption) (by omega)|exact cA8 h1 h2 h3 (by assumption) (by omega)|exact cA3 h1 h2 h3 (by assumption) (by omega)|exact bZW h1 h2 h3 (by assumption) (by omega)|exact bZS h1 h2 h3 (by assumption) (by omega)|skip
 all_goals exact (cAD h1 h2 h3 (by assumption)).symm
end
theorem bCD (q:dK):(xR q).2.1.2.length<=6:=by
 unfold xR;split
 ·rename_i h
  have h1:=(uP.1 h.1).2 0 h.2
  exact ((eC _).1 ((oT _).1 h1).1).2.1
 ·exact Nat.zero_le _
theorem bPE (q:dK):bC aI (xR q).1<=bC aI q:=by
 unfold xR;split
 ·show 0+bC (.slice 161 bF) (q.2.drop 1)<=0+bC (.slice 161 bF) q.2
  have:=aFD (e:=161) (t:=bF) (List.drop_sublist 1 q.2)
  omega
 ·exact Nat.le_refl _
theorem bLJ (q:dK) (x:fF):bC aI (yY q x).1<=bC aI q+7:=by
 unfold yY;split
 ·rename_i h
  show 0+bC (.slice 161 bF) (q.2++[x])<=0+bC (.slice 161 bF) q.2+7
  have h1:=((eC _).1 ((oT _).1 h.2.1).1).2.1
  have e1:bC bF x=0+bC aA x.2:=rfl
  have e2:=gY x.2
  rw[bXB,bUF];omega
 ·exact Nat.le_add_right _ _
theorem bYL (s:bH) (m:Int) (x t:List Int):bC aC (aCB s m x t)<=bC aC s+100:=by
 unfold aCB;split
 ·rename_i h
  unfold bJ5 at h
  simp only[Bool.and_eq_true] at h
  have hx:=aRH h.2.1
  have hm:=((bR _).1 ((dB s).1 h.1).1).2.1
  have h6:=aH2 s.2.2.1 x hx s.2.2.1.length
  have hl:=tR s.2.2.1 x s.2.2.1.length
  have hr:bC aJ (jD s.2.2.1 x s.2.2.1.length).1<=9+9 * 6:=bFM (by omega) h6
  have hk:bC aJ (aBI s.2.2.2.2.1 (jD s.2.2.1 x s.2.2.1.length).1)<=bC aJ (jD s.2.2.1 x s.2.2.1.length).1:=by
   unfold aBI;split
   ·exact aFD (List.take_sublist _ _)
   ·exact Nat.le_refl _
  have hy:(aND s x).length<=6:=aSA h6 _
  rw[mP,mP]
  have e1:=gY (aND s x)
  have e2:bC aIP (s.2.2.2.2.2.1++[(m,aBI s.2.2.2.2.1 (jD s.2.2.1 x s.2.2.1.length).1)])=bC aIP s.2.2.2.2.2.1+(1+(0+bC aJ (aBI s.2.2.2.2.1 (jD s.2.2.1 x s.2.2.1.length).1))):=by
   rw[show bC aIP _=_ from bXB _ _,show bC aIP [(m,aBI s.2.2.2.2.1 (jD s.2.2.1 x s.2.2.1.length).1)]=_ from bUF _];rfl
  unfold aVJ
  dsimp only
  rw[e2]
  split <;> simp only[List.length_nil] <;> omega
 ·omega
theorem bSZ (s:bH) (m:Int):bC aC (xM s m)<=bC aC s+100:=by
 unfold xM;split
 ·rename_i h
  have hm:=((bR _).1 ((dB s).1 h.1).1).2.1
  have h4:=((dB s).1 h.1).2.2.2.1
  have hx:((s.2.2.2.2.2.1.getD (jH s.2.2.2.2.2.1 m).toNat (aK aY)).2.getD 0 []).length<=6:=by
   by_cases hi:(jH s.2.2.2.2.2.1 m).toNat<s.2.2.2.2.2.1.length
   ·exact aRH (aJW h.1 hi).2
   ·rw[bPU (l:=s.2.2.2.2.2.1) (by omega)];exact Nat.zero_le _
  have h6:=aH2 s.2.2.1 _ hx s.2.2.1.length
  have hl:=tR s.2.2.1 ((s.2.2.2.2.2.1.getD (jH s.2.2.2.2.2.1 m).toNat (aK aY)).2.getD 0 []) s.2.2.1.length
  have hr:bC aJ (jD s.2.2.1 ((s.2.2.2.2.2.1.getD (jH s.2.2.2.2.2.1 m).toNat (aK aY)).2.getD 0 []) s.2.2.1.length).1<=9+9 * 6:=bFM (by omega) h6
  rw[mP,mP]
  dsimp only
  omega
 ·omega
theorem bZI (s:bH) (m:Int) (t:List Int):bC aC (xQ s m t)<=bC aC s+100:=by
 unfold xQ;split
 ·rename_i h
  unfold aU6 at h
  simp only[Bool.and_eq_true] at h
  have hd:(mM s m t).1.length<=6:=aRH h.2.2.2
  have hb:(kH s.2.2.1 (sW s m) (mM s m t).1).2.1.length<=6:=bNR _ _ _ _ hd _
  have hs:bC aIP (s.2.2.2.2.2.1.take (jH s.2.2.2.2.2.1 m).toNat++s.2.2.2.2.2.1.drop ((jH s.2.2.2.2.2.1 m).toNat+1))<=bC aIP s.2.2.2.2.2.1:=by
   refine aFD ?_
   have h1:(s.2.2.2.2.2.1.drop ((jH s.2.2.2.2.2.1 m).toNat+1)).Sublist (s.2.2.2.2.2.1.drop (jH s.2.2.2.2.2.1 m).toNat):=by
    rw[<- List.drop_drop];exact List.drop_sublist _ _
   have h2:=(List.Sublist.refl (s.2.2.2.2.2.1.take (jH s.2.2.2.2.2.1 m).toNat)).append h1
   rwa [List.take_append_drop] at h2
  have hg:=aXP (e:=117) s.2.2.2.2.2.2.2.2.2.2.2.1 (kH s.2.2.1 (sW s m) (mM s m t).1).1
  rw[mP,mP]
  unfold aQT qP
  dsimp only
  have hg':bC aJ (eV s.2.2.2.2.2.2.2.2.2.2.2.1 (kH s.2.2.1 (sW s m) (mM s m t).1).1)<=bC aJ s.2.2.2.2.2.2.2.2.2.2.2.1:=hg
  simp only[List.length_nil]
  have e0:bC aJ ([]:dG)=0:=rfl
  rw[e0]
  omega
 ·omega
theorem bYB (s:bH) (v:List Int) (h:v.length<=6):bC aC (aY1 s v)<=bC aC s+6:=by rw[mP,mP];unfold aY1;dsimp only;omega
theorem bYQ (s:bH) (v:List Int) (h:v.length<=6):bC aC (bB2 s v)<=bC aC s+6:=by rw[mP,mP];unfold bB2;dsimp only;omega
theorem bXE (s:bH) (v:List Int) (h:v.length<=6):bC aC (bB1 s v)<=bC aC s+6:=by rw[mP,mP];unfold bB1;dsimp only;omega
theorem bK0 (s:bH) (v:List Int) (h:v.length<=6):bC aC (aA2 s v)<=bC aC s+6:=by rw[mP,mP];unfold aA2;dsimp only;omega
theorem bSD (p:bI) (s:Int):bC aC (cZ p s)<=bC aC (oD p s)+110:=by
 unfold cZ
 split
 ·have:=bYB (oD p s) _ (bCD (p.2.2.1.getD (s - 1).toNat (aK aI)));omega
 split
 ·have:=bYL (oD p s) (aP p s).2 (if s=0 then (p.1.getD (aP p s).2.toNat (aK aF)).1 else (oD p s).2.2.2.2.2.2.2.1) (p.1.getD (aP p s).2.toNat (aK aF)).2;omega
 split
 ·have:=bYQ (oD p s) [] (Nat.zero_le _);omega
 split
 ·have:=bXE (oD p s) _ (bCD (p.2.2.2.getD s.toNat (aK aI)));omega
 split
 ·have:=bSZ (oD p s) (aP p s).2;omega
 split
 ·have h1:=bZI (oD p s) (aP p s).2 (p.1.getD (aP p s).2.toNat (aK aF)).2
  have h2:=bK0 (xQ (oD p s) (aP p s).2 (p.1.getD (aP p s).2.toNat (aK aF)).2) [] (Nat.zero_le _)
  split <;> omega
 split
 ·have:=bK0 (oD p s) [] (Nat.zero_le _);omega
 ·omega
theorem bT2 (p:bI) (s:Int):bC aU (iG p s)<=bC aU p.2.2.1+7:=by
 unfold iG
 split
 ·exact aTF _ (aK aI) _ _ _ fun _=>Nat.le_trans (bPE _) (Nat.le_add_right _ _)
 split
 ·exact aTF _ (aK aI) _ _ _ fun _=>bLJ _ _
 ·omega
theorem bUL (p:bI) (s:Int):bC aU (iH p s)<=bC aU p.2.2.2+7:=by
 unfold iH
 split
 ·exact aTF _ (aK aI) _ _ _ fun _=>Nat.le_trans (bPE _) (Nat.le_add_right _ _)
 split
 ·exact aTF _ (aK aI) _ _ _ fun _=>bLJ _ _
 ·omega
theorem aPY (p:bI):bC aR p=bC aE p.1+(bC (.slice 145 aC) p.2.1+(bC aU p.2.2.1+bC aU p.2.2.2)):=rfl
theorem bUT (p:bI) (s:Int):bC aR (fH p s)<=bC aR p+200:=by
 unfold fH;split
 ·rw[aPY,aPY]
  dsimp only
  have h1:=bT2 p s
  have h2:=bUL p s
  have h3:bC aC (nX (cZ p s) ((cZ p s).1+1))=bC aC (cZ p s):=by rw[mP,mP];rfl
  have h4:=bSD p s
  have h5:=aTF (e:=145) (t:=aC) (nX (cZ p s) ((cZ p s).1+1)) (aK aC) 110 p.2.1 s.toNat fun _=>by rw[h3];exact h4
  omega
 ·omega
theorem aDM (p:bI):(l m:List Int)->nY p (l++m)=nY (nY p l) m
 | [],_=>rfl
 | s :: l,m=>aDM (fH p s) l m
theorem bHN (p:bI) (l:List Int) (s:Int):nY p (l++[s])=fH (nY p l) s:=aDM p l [s]
theorem bFO (p:bI):(l:List Int)->bC aR (nY p l)<=bC aR p+200 * l.length
 | []=>Nat.le_refl _
 | s :: l=>by
  have h1:=bFO (fH p s) l
  have h2:=bUT p s
  show bC aR (nY (fH p s) l)<=_
  rw[List.length_cons];omega
noncomputable section
set_option maxRecDepth 100000
def aY9 (r:dG):Nat:=(r.map List.length).sum
def wV (s:bH):Nat:=s.2.1.length - s.1.toNat
def mL (p:bI):Int:=(((p.2.1.map wV).sum:Nat):Int)
def aLH (p:bI):Bool:=decide (0<p.2.1.length)&&decide (mL p=0)
theorem bN2 {r:dG} {k:Nat} (h:k<r.length):((r.take (k+1)).map List.length).sum=((r.take k).map List.length).sum+r[k].length:=gC List.length r k h
theorem aMY {α:Type} (f g:α->Nat):(l:List α)->(∀ x∈l,f x<=g x)->(l.map f).sum<=(l.map g).sum
 | [],_=>Nat.le_refl _
 | a :: l,h=>by
  have h1:=h a (by simp)
  have h2:=aMY f g l fun x hx=>h x (by simp[hx])
  simp only[List.map_cons,List.sum_cons];omega
theorem nZ {α:Type} (f:α->Nat) (l:List α) (k:Nat):((l.take k).map f).sum<=(l.map f).sum:=by
 have e:(l.map f).sum=((l.take k++l.drop k).map f).sum:=by rw[List.take_append_drop]
 rw[e,List.map_append,List.sum_append];omega
theorem bTV (s:bH):wV s<=bC aC s:=by
 have h:List.length s.2.1<=bC bD s.2.1:=wE (e:=158) (t:=aQ) s.2.1
 have h3:=mP s
 unfold wV;omega
theorem bGU (l:List bH):(l.map wV).sum<=bC (.slice 145 aC) l:=by
 have h:=aMY wV (bC aC) l fun x _=>bTV x
 have e:bC (.slice 145 aC) l=l.length+(l.map (bC aC)).sum:=rfl
 omega
theorem bXO (p:bI):0<=mL p/\mL p<=(bC aR p:Nat):=by
 have h:=bGU p.2.1
 have e:=aPY p
 unfold mL;omega
theorem bK7 (r:dG):aY9 r<=bC aJ r:=by
 have h:=aMY List.length (bC eF) r fun x _=>by have e:=gY x;have e2:bC eF x=bC aA x:=rfl;omega
 have e:bC aJ r=r.length+(r.map (bC eF)).sum:=rfl
 unfold aY9;omega
theorem bYA (s:bH):List.length s.2.1<=bC aC s:=by
 have h:List.length s.2.1<=bC bD s.2.1:=wE (e:=158) (t:=aQ) s.2.1
 have h3:=mP s
 omega
theorem bEA {p:bI} (hz:bC aR p=bC aE p.1+(bC (.slice 145 aC) p.2.1+(bC aU p.2.2.1+bC aU p.2.2.2))) (hp:bC aR p<=1000000000) {k:Nat} (hk:k<List.length p.2.1):List.length (p.2.1[k]).2.1<=1000000000:=by
 have h5:bC aC (p.2.1[k])<=bC (.slice 145 aC) p.2.1:=aS6 (List.getElem_mem hk)
 have h6:=bYA (p.2.1[k])
 omega
def bAB:Con:=⟨122,aR,tI,[.val ⟨true,aR,[]⟩],[⟨false,tI,[0]⟩],false,none,
 ((fun x=>bC aR x<=1000000000):(bI)->Prop),
 ((fun x=>mL x):(bI)->(Int))⟩
def bJR:T:=iN 145 aC oK aQ (gM tI aM) <| nR tI 2 1 3 (cR 145 aC bU oK tI 2 <| bT 158 aQ (bS 1 4) <| qH aG7 4 0 <| bT 158 aQ (bS 1 4) <| kC aI0 6 7 <| kC fJ 5 8 <| eM cC (gJ 2) 9 <| fE tI 2 1 0 tI 11 10) (gJ 2)
theorem bUS:Con.Holds Tryz.prog bAB:=tk ⟨[(2991,1002,[.dr 6,.dr 1,.dr 0,.tm 9 0,.tm 3 0])],[]⟩ bJR aL fun (x:bI) hx hp=>by
 dsimp only [bAB] at hx hp ⊢
 have hp:bC aR x<=1000000000:=hp
 have hs0:=bGU x.2.1
 have hz:=aPY x
 have hl:List.length x.2.1<=bC (.slice 145 aC) x.2.1:=wE (e:=145) (t:=aC) x.2.1
 delta bJR;refine gH ?_
 (refine iC ?_;try with_reducible exact True.intro)
 (repeat' first|intro _|(with_reducible apply And.intro))
 refine fN (fun k=>((k:Int),((((List.take k x.2.1).map wV).sum:Nat):Int))) (List.length x.2.1) rfl fun I μ k hk _ go=>?_
 dsimp only
 refine iC ?_
 have hs:=nZ wV x.2.1 k
 have hs2:=nZ wV x.2.1 (k+1)
 by_cases hk':k<List.length x.2.1
 ·have e:=gC wV x.2.1 k hk'
  have hlk:=bEA hz hp hk'
  have hpcb:-9223372036854775808<=(x.2.1[k]).1/\(x.2.1[k]).1<=9223372036854775807:=(hx.2.1.2 _ (List.getElem_mem hk')).1
  simp only[aO hk']
  have e9:wV (x.2.1[k])=List.length (x.2.1[k]).2.1 - (x.2.1[k]).1.toNat:=rfl
  (repeat' first|intro _|(refine go _ ?_ ?_ ?_)|(refine go _ ?_ ?_)|(with_reducible apply And.intro))
  all_goals first|omega|(refine Prod.ext rfl ?_;refine @Eq.trans Int _ _ _ ?_ rfl;dsimp only;omega)|skip
 ·(repeat' first|intro _|(refine go _ ?_ ?_ ?_)|(refine go _ ?_ ?_)|(with_reducible apply And.intro))
  all_goals first|omega|(rw[List.take_of_length_le (by omega)];rfl)|skip
def aR6:Con:=⟨65,aR,tI,[.val ⟨true,aR,[]⟩],[⟨false,tI,[0]⟩],false,none,
 ((fun x=>bC aR x<=1000000000):(bI)->Prop),
 ((fun x=>mL x):(bI)->(Int))⟩
def bKH:T:=dX aQ (gM tI aM) 145 aC oK <| nR tI 1 2 3 (cR 145 aC bU oK tI 1 <| bT 158 aQ (bS 1 4) <| cR 145 aC bU oK tI 1 <| bX aG7 aM (aOL 6) <| kC fJ 5 7 <| eM aG7 aM 8 <| eM cC (gJ 1) 9 <| fE tI 1 1 0 tI 11 10) (gJ 1)
theorem bK6:Con.Holds Tryz.prog aR6:=tk ⟨[(2991,1001,[.dr 0,.tm 4 0,.tm 3 0])],[]⟩ bKH aL fun (x:bI) hx hp=>by
 dsimp only [aR6] at hx hp ⊢
 have hp:bC aR x<=1000000000:=hp
 have hs0:=bGU x.2.1
 have hz:=aPY x
 have hl:List.length x.2.1<=bC (.slice 145 aC) x.2.1:=wE (e:=145) (t:=aC) x.2.1
 delta bKH;refine gH ?_
 refine iC ?_
 refine fN (fun k=>((k:Int),((((List.take k x.2.1).map wV).sum:Nat):Int))) (List.length x.2.1) rfl fun I μ k hk _ go=>?_
 dsimp only
 refine iC ?_
 have hs:=nZ wV x.2.1 k
 have hs2:=nZ wV x.2.1 (k+1)
 by_cases hk':k<List.length x.2.1
 ·have e:=gC wV x.2.1 k hk'
  have hlk:=bEA hz hp hk'
  have hpcb:-9223372036854775808<=(x.2.1[k]).1/\(x.2.1[k]).1<=9223372036854775807:=(hx.2.1.2 _ (List.getElem_mem hk')).1
  simp only[aO hk']
  have e9:wV (x.2.1[k])=List.length (x.2.1[k]).2.1 - (x.2.1[k]).1.toNat:=rfl
  (repeat' first|intro _|(refine go _ ?_ ?_ ?_)|(refine go _ ?_ ?_)|(with_reducible apply And.intro))
  all_goals first|omega|(refine Prod.ext rfl ?_;refine @Eq.trans Int _ _ _ ?_ rfl;dsimp only;omega)|skip
 ·(repeat' first|intro _|(refine go _ ?_ ?_ ?_)|(refine go _ ?_ ?_)|(with_reducible apply And.intro))
  all_goals first|omega|(rw[List.take_of_length_le (by omega)];rfl)|skip
def aRO:Con:=⟨72,aR,.bool,[.val ⟨true,aR,[]⟩],[⟨false,.bool,[0]⟩],false,none,
 ((fun x=>bC aR x<=1000000000):(bI)->Prop),
 ((fun x=>aLH x):(bI)->(Bool))⟩
def bKB:T:=bT 145 aC oK <| dY aX 0 <| gV 2 <| dE 0 0 <| oR qN 0 <| cM 4
theorem bIX:Con.Holds Tryz.prog aRO:=tk ⟨[],[]⟩ bKB (aD bUS aL) fun (x:bI) hx hp=>by
 dsimp only [aRO] at hx hp ⊢
 delta bKB bAB;refine gH ?_
 (refine iC ?_;try with_reducible exact True.intro)
 (repeat' first|intro _|(with_reducible apply And.intro))
 all_goals first|exact hp|skip
 ·unfold aLH;rw[decide_eq_true (show 0<List.length x.2.1 by omega),Bool.true_and];rfl
 ·unfold aLH;rw[decide_eq_false (show ¬ 0<List.length x.2.1 by omega),Bool.false_and]
end
noncomputable section
set_option maxRecDepth 100000
def aJC (st s m:Int):List eZ:=(if 0<s then [((1:Int),m)] else [])++([((2:Int),m)]++(if s<st - 1 then [((3:Int),m)] else []))
def aQ9 (st s m:Int) (redo:Bool):List eZ:=(if s<st - 1 then [((4:Int),m)] else [])++((if redo=true then [((5:Int),m)] else [])++([((6:Int),m)]++(if 0<s then [((7:Int),m)] else [])))
def qI (st s micro:Int):Bool:=decide (1<=st/\st<=4/\0<=s/\s<st/\1<=micro/\micro<=5)
theorem pL (st s micro:Int):qI st s micro=true↔1<=st/\st<=4/\0<=s/\s<st/\1<=micro/\micro<=5:=by unfold qI;rw[decide_eq_true_eq]
def aC1 (ds st s micro:Int):Int:=if qI st s micro=true then (if ds=2 then min micro (st - 1 - s) else micro) else 0
def bD8 (st s:Int):Nat->List eZ
 | 0=>[]
 | k+1=>bD8 st s k++aJC st s k
def aFE (st s micro w:Int) (redo:Bool):Nat->List eZ
 | 0=>bD8 st s w.toNat
 | k+1=>aFE st s micro w redo k++((if (k:Int)+w<micro then aJC st s ((k:Int)+w) else [])++aQ9 st s k redo)
def rZ (ds st s micro:Int) (redo:Bool):List eZ:=if (ds=1\/ds=2)/\qI st s micro=true then aFE st s micro (aC1 ds st s micro) redo micro.toNat++[((8:Int),(0:Int))] else []
theorem aAB (st s m:Int):(aJC st s m).length<=3:=by unfold aJC;split <;> split <;> simp
theorem aSO (st s m:Int) (r:Bool):(aQ9 st s m r).length<=4:=by unfold aQ9;split <;> split <;> split <;> simp
theorem aMJ (st s:Int):(k:Nat)->(bD8 st s k).length<=3 * k
 | 0=>Nat.le_refl _
 | k+1=>by
  have h1:=aMJ st s k
  have h2:=aAB st s k
  unfold bD8
  rw[List.length_append];omega
theorem aN8 (st s micro w:Int) (r:Bool):(k:Nat)->(aFE st s micro w r k).length<=3 * w.toNat+7 * k
 | 0=>by have:=aMJ st s w.toNat;unfold aFE;omega
 | k+1=>by
  have h1:=aN8 st s micro w r k
  have h2:=aAB st s ((k:Int)+w)
  have h3:=aSO st s k r
  unfold aFE
  rw[List.length_append,List.length_append]
  split
  ·omega
  ·simp only[List.length_nil];omega
theorem bV4 {ds st s micro:Int} (h:qI st s micro=false):0=aC1 ds st s micro:=by unfold aC1;rw[if_neg (by rw[h];simp)]
theorem bT4 {ds st s micro:Int} (h:qI st s micro=true) (hd:ds=2):min micro (st - 1 - s)=aC1 ds st s micro:=by unfold aC1;rw[if_pos h,if_pos hd]
theorem bTY {ds st s micro:Int} (h:qI st s micro=true) (hd:¬ ds=2):micro=aC1 ds st s micro:=by unfold aC1;rw[if_pos h,if_neg hd]
theorem bEG {st s micro:Int} (h:¬ (1<=st/\st<=4/\0<=s/\s<st/\1<=micro/\micro<=5)):qI st s micro=false:=Bool.eq_false_iff.2 fun h'=>h ((pL _ _ _).1 h')
theorem aH7 {st s micro:Int} (h:1<=st/\st<=4/\0<=s/\s<st/\1<=micro/\micro<=5):qI st s micro=true:=(pL _ _ _).2 h
theorem bX0 {ds st s micro:Int} {r:Bool} (h:¬ ((ds=1\/ds=2)/\qI st s micro=true)):[]=rZ ds st s micro r:=by unfold rZ;rw[if_neg h]
theorem bXA {ds st s micro:Int} {r:Bool} (h:(ds=1\/ds=2)/\qI st s micro=true):aFE st s micro (aC1 ds st s micro) r micro.toNat++[((8:Int),(0:Int))]=rZ ds st s micro r:=by unfold rZ;rw[if_pos h]
theorem bM0 {ds st s micro:Int} (h:qI st s micro=true):0<=aC1 ds st s micro/\aC1 ds st s micro<=5:=by
 rw[pL] at h
 unfold aC1
 rw[if_pos (aH7 h)]
 split <;> omega
theorem bQG {st s micro w:Int} {r:Bool} {k:Nat} (h:((k:Int)+w<micro)):aFE st s micro w r k++aJC st s ((k:Int)+w)++aQ9 st s k r=aFE st s micro w r (k+1):=by
 conv=>rhs;unfold aFE
 rw[if_pos h,List.append_assoc]
theorem bP2 {st s micro w:Int} {r:Bool} {k:Nat} (h:¬ ((k:Int)+w<micro)):aFE st s micro w r k++aQ9 st s k r=aFE st s micro w r (k+1):=by
 conv=>rhs;unfold aFE
 rw[if_neg h,List.nil_append]
def aEU:Con:=⟨175,(.cD0 tI aQ),.bool,[.val ⟨false,tI,[]⟩,.val ⟨false,tI,[]⟩,.val ⟨false,tI,[]⟩],[⟨false,.bool,[0]⟩],false,none,
 ((fun _=>True):(Int × eZ)->Prop),
 ((fun x=>qI x.1 x.2.1 x.2.2):(Int × eZ)->(Bool))⟩
def aTS:T:=sB .geq (bO aQ 0) 1 <| gV 1 <| sB .leq (bO aQ 0) 4 <| gV 2 <| sB .geq (cJ aQ 1 0) 0 <| gV 3 <| bX bM (cJ aQ 1 0) (bO aQ 0) <| gV 4 <| sB .geq (fQ aQ 2 0) 1 <| gV 5 <| sB .leq (fQ aQ 2 0) 5 <| cM 6
theorem aU8:Con.Holds Tryz.prog aEU:=tk ⟨[],[]⟩ aTS aL fun (x:Int × eZ) hx hp=>by
 dsimp only [aEU] at hx hp ⊢
 delta aTS;refine gH ?_;try with_reducible exact True.intro
 (repeat' first|intro _|(with_reducible apply And.intro))
 all_goals (try simp only[wC] at *)
 all_goals first|exact (bEG (by omega)).symm|skip
 rw[Bool.eq_iff_iff,pL]
 (refine iC ?_;try with_reducible exact True.intro)
 omega
def aOJ:Con:=⟨176,(.cD0 tI (.cD0 tI aQ)),tI,[.val ⟨false,tI,[]⟩,.val ⟨false,tI,[]⟩,.val ⟨false,tI,[]⟩,.val ⟨false,tI,[]⟩],[⟨false,tI,[0]⟩],false,none,
 ((fun _=>True):(Int × (Int × eZ))->Prop),
 ((fun x=>aC1 x.1 x.2.1 x.2.2.1 x.2.2.2):(Int × (Int × eZ))->(Int))⟩
def aXX:T:=dC 0 (eH aDL 0) 1 2 aM <| oR (lK aQ 0) 2 <| fY 3 (iA (vZ aQ 1 0) 1 <| bX fJ gD (vZ aQ 2 0) <| eM aI0 (dH aDL 0) 5 <| cM 6) (dH aDL 0)
theorem bNE:Con.Holds Tryz.prog aOJ:=tk ⟨[],[]⟩ aXX (aD aU8 aL) fun (x:Int × (Int × eZ)) hx hp=>by
 dsimp only [aOJ] at hx hp ⊢
 delta aXX aEU;refine gH ?_
 refine ⟨fun h=>?_,fun h=>?_⟩
 ·simp only[wC] at h;exact bV4 h
 simp only[wC] at h
 have hb:=(pL _ _ _).1 h
 (repeat' first|intro _|(with_reducible apply And.intro))
 all_goals first|omega|skip
 ·exact bT4 h (by simp only[wC] at *;omega)
 ·exact bTY h (by simp only[wC] at *;omega)
def aSW:Con:=⟨177,(.cD0 tI aQ),bD,[.val ⟨false,tI,[]⟩,.val ⟨false,tI,[]⟩,.val ⟨false,tI,[]⟩],[⟨false,bD,[2]⟩],false,none,
 ((fun x=>1<=x.1/\x.1<=4):(Int × eZ)->Prop),
 ((fun x=>aJC x.1 x.2.1 x.2.2):(Int × eZ)->(List eZ))⟩
def bCM:T:=dY (cJ aQ 1 0) 0 <| cG 1 (bNQ 158 aQ gF (fQ aQ 2 0) <| zU bD uQ 2 <| mJ aQ 2 (fQ aQ 2 0) bD qN 4 <| iA (bO aQ 0) 1 <| kR bM (cJ aQ 1 0) 6 7 (mJ aQ 3 (fQ aQ 2 0) bD iR 8 <| cM 9) iR) <| mJ aQ 2 (fQ aQ 2 0) bD uQ 2 <| iA (bO aQ 0) 1 <| kR bM (cJ aQ 1 0) 4 5 (mJ aQ 3 (fQ aQ 2 0) bD qN 6 <| cM 7) qN
theorem bS4:Con.Holds Tryz.prog aSW:=tk ⟨[],[]⟩ bCM aL fun (x:Int × eZ) hx hp=>by
 dsimp only [aSW] at hx hp ⊢
 have hp:1<=x.1/\x.1<=4:=hp
 delta bCM;refine gH ?_;try with_reducible exact True.intro
 (repeat' first|intro _|(with_reducible apply And.intro))
 all_goals (try simp only[wC] at *)
 all_goals first|omega|(unfold maxLen;omega)|skip
 all_goals (unfold aJC;(repeat' split) <;> first|omega|(simp;done))
def aPG:Con:=⟨178,(.cD0 tI (.cD0 tI aC2)),bD,[.val ⟨false,tI,[]⟩,.val ⟨false,tI,[]⟩,.val ⟨false,tI,[]⟩,.val ⟨false,.bool,[]⟩],[⟨false,bD,[2]⟩],false,none,
 ((fun x=>1<=x.1/\x.1<=4):(Int × (Int × (Int × Bool)))->Prop),
 ((fun x=>aQ9 x.1 x.2.1 x.2.2.1 x.2.2.2):(Int × (Int × (Int × Bool)))->(List eZ))⟩
def bAX:T:=iA (bO dQ 0) 1 <| eM bM (cJ dQ 1 0) 1 <| cG 2 (mJ aQ 4 (cJ dQ 2 0) bD uQ 3 <| .ite (fQ dQ 3 0) (mJ aQ 5 (cJ dQ 2 0) bD gD 5 <| mJ aQ 6 (cJ dQ 2 0) bD fB 7 <| dY (cJ dQ 1 0) 0 <| fY 9 (mJ aQ 7 (cJ dQ 2 0) bD gP 10 <| cM 11) gP) <| mJ aQ 6 (cJ dQ 2 0) bD gD 5 <| dY (cJ dQ 1 0) 0 <| fY 7 (mJ aQ 7 (cJ dQ 2 0) bD fB 8 <| cM 9) fB) <| .ite (fQ dQ 3 0) (mJ aQ 5 (cJ dQ 2 0) bD uQ 3 <| mJ aQ 6 (cJ dQ 2 0) bD gD 5 <| dY (cJ dQ 1 0) 0 <| fY 7 (mJ aQ 7 (cJ dQ 2 0) bD fB 8 <| cM 9) fB) <| mJ aQ 6 (cJ dQ 2 0) bD uQ 3 <| dY (cJ dQ 1 0) 0 <| fY 5 (mJ aQ 7 (cJ dQ 2 0) bD gD 6 <| cM 7) gD
theorem bMA:Con.Holds Tryz.prog aPG:=tk ⟨[],[]⟩ bAX aL fun (x:Int × (Int × (Int × Bool))) hx hp=>by
 dsimp only [aPG] at hx hp ⊢
 have hp:1<=x.1/\x.1<=4:=hp
 delta bAX;refine gH ?_;try with_reducible exact True.intro
 (repeat' first|intro _|(with_reducible apply And.intro))
 all_goals (try simp only[wC] at *)
 all_goals first|omega|(unfold maxLen;omega)|skip
 all_goals (unfold aQ9;(repeat' split) <;> first|omega|contradiction|(simp;done)|(simp_all;done))
def aYH:Con:=⟨120,(.cD0 tI (.cD0 tI (.cD0 tI aC2))),bD,[.val ⟨false,tI,[]⟩,.val ⟨false,tI,[]⟩,.val ⟨false,tI,[]⟩,.val ⟨false,tI,[]⟩,.val ⟨false,.bool,[]⟩],[⟨false,bD,[2]⟩],false,none,
 ((fun _=>True):(Int × (Int × (Int × (Int × Bool))))->Prop),
 ((fun x=>rZ x.1 x.2.1 x.2.2.1 x.2.2.2.1 x.2.2.2.2):(Int × (Int × (Int × (Int × Bool))))->(List eZ))⟩
def bKS:T:=wA (lK dQ 0) 1 <| cG 1 (wA (lK dQ 0) 2 <| cE 2 uQ <| kS 0 aQ [tG,uG,zF 3] 3 4 uQ <| lY 1 aDL [lK dQ 0,tG,uG,zF 3] <| yG bD (rN bD 158 aQ) <| sT bD 6 5 7 (lY 2 aEO [tG,uG,bO bD 6] <| zU bD (dN bD 6) 8 <| fE bD 6 1 0 bD 10 9) <| yG bD (gM bD (dN bD 6)) <| bX bM (bO bD 8) (zF 3) <| cG 9 (aAK cC bD 8 5 <| bX bM gN (zF 3) <| cG 11 (aAK cC bD 8 5 <| lY 2 aEO (eE tG uG 12) <| zU bD (dN bD 8) 13 <| lY 3 (kL dQ) [tG,uG,bO bD 8,fV (sE dQ) 4 0] <| zU bD gW 15 <| fE bD 8 1 0 bD 17 16) <| lY 3 (kL dQ) [tG,uG,bO bD 8,fV (sE dQ) 4 0] <| zU bD (dN bD 8) 12 <| fE bD 8 1 0 bD 14 13) <| iS (kA 158 aQ) (dR 8) 0 <| zU bD (dN bD 8) 10 <| cM 11) <| kS 0 aQ [tG,uG,zF 3] 2 3 uQ <| lY 1 aDL [lK dQ 0,tG,uG,zF 3] <| yG bD (rN bD 158 aQ) <| sT bD 5 4 6 (lY 2 aEO [tG,uG,bO bD 5] <| zU bD (dN bD 5) 7 <| fE bD 5 1 0 bD 9 8) <| yG bD (gM bD (dN bD 5)) <| bX bM (bO bD 7) (zF 3) <| cG 8 (aAK cC bD 7 4 <| bX bM mT (zF 3) <| cG 10 (aAK cC bD 7 4 <| lY 2 aEO (eE tG uG 11) <| zU bD (dN bD 7) 12 <| lY 3 (kL dQ) [tG,uG,bO bD 7,fV (sE dQ) 4 0] <| zU bD jC 14 <| fE bD 7 1 0 bD 16 15) <| lY 3 (kL dQ) [tG,uG,bO bD 7,fV (sE dQ) 4 0] <| zU bD (dN bD 7) 11 <| fE bD 7 1 0 bD 13 12) <| iS (kA 158 aQ) (dR 8) 0 <| zU bD (dN bD 7) 9 <| cM 10
theorem bVS:Con.Holds Tryz.prog aYH:=tk ⟨[(2984,9006,oS 33 15++[.dr 0,.tm 13 0,.on 12,.sl 1]),(2974,17008,oS 36 34++[.dr 13,.tm 14 0,.sl 1]),(2984,4005,oS 33 15++[.dr 0,.tm 13 0,.on 12,.sl 1]),(2974,8007,oS 36 34++[.dr 13,.tm 14 0,.sl 1])],[]⟩ bKS (aD aU8 (aD bNE (aD bS4 (aD bMA aL)))) fun (x:Int × (Int × (Int × (Int × Bool)))) hx hp=>by
  dsimp only [aYH] at hx hp ⊢
  obtain ⟨ds,st,s,micro,r⟩:=x
  delta bKS aEU aOJ aSW aPG;refine gH ?_;try with_reducible exact True.intro
  (repeat' first|intro _|(with_reducible apply And.intro))
  all_goals (try simp only[wC] at *)
  all_goals first|exact bX0 (fun h=>by rcases h with ⟨h1|h1,h2⟩ <;> first|omega|(simp_all;done))|skip
  all_goals have hP:qI st s micro=true:=by first|assumption|exact aH7 (by omega)
  all_goals have hd:ds=1\/ds=2:=by omega
  all_goals have hb:=(pL _ _ _).1 hP
  all_goals have hw:=bM0 (ds:=ds) hP
  all_goals have hfin:=bXA (r:=r) ⟨hd,hP⟩
  all_goals generalize aC1 ds st s micro=W at *
  all_goals refine ⟨fun q=>∃ k:Nat,(k:Int)<=W/\q=((k:Int),bD8 st s k),fun q=>W.toNat - (q.1:Int).toNat,⟨0,by omega,rfl⟩,fun q _ hI=>?_⟩
  all_goals obtain ⟨k,hk,rfl⟩:=hI
  all_goals dsimp only
  all_goals have l1:=aMJ st s k
  all_goals have l2:=aAB st s k
  all_goals refine ⟨fun hlt=>?_,fun hge=>?_⟩
  all_goals first
    | (have h0:(k:Int)<W:=hlt
       (repeat' first|intro _|(with_reducible apply And.intro))
       all_goals first|omega|(unfold maxLen;omega)|exact ⟨k+1,by omega,rfl⟩)
    | skip
  all_goals have hkW:k=W.toNat:=by omega
  all_goals refine ⟨fun q=>∃ j:Nat,(j:Int)<=micro/\q=((j:Int),aFE st s micro W r j),fun q=>micro.toNat - (q.1:Int).toNat,⟨0,by omega,by rw[hkW];rfl⟩,fun q _ hI=>?_⟩
  all_goals obtain ⟨j,hj,rfl⟩:=hI
  all_goals dsimp only
  all_goals try rw[show W+(j:Int)=(j:Int)+W from Int.add_comm _ _]
  all_goals have l3:=aN8 st s micro W r j
  all_goals have l4:=aAB st s ((j:Int)+W)
  all_goals have l5:=aSO st s j r
  all_goals (repeat' first|intro _|(with_reducible apply And.intro))
  all_goals first
    | omega
    | (unfold maxLen;omega)
    | exact ⟨j+1,by omega,by rw[<- bQG (by omega)];rfl⟩
    | exact ⟨j+1,by omega,by rw[<- bP2 (by omega)];rfl⟩
    | (have hj2:j=micro.toNat:=by omega
       rw[hj2]
       exact hfin)
def aPL:Con:=⟨161,(.cD0 tI (.cD0 tI aQ)),tI,[.val ⟨false,tI,[]⟩,.val ⟨false,tI,[]⟩,.val ⟨false,tI,[]⟩,.val ⟨false,tI,[]⟩],[⟨false,tI,[0]⟩],false,none,
 ((fun _=>True):(Int × (Int × eZ))->Prop),
 ((fun x=>aC1 x.1 x.2.1 x.2.2.1 x.2.2.2):(Int × (Int × eZ))->(Int))⟩
def aZP:T:=kS 0 aQ (iO (vZ aQ 1 0) gF 4) 1 2 aM <| iA (vZ aQ 1 0) 1 <| kS 0 aQ (eE (vZ aQ 2 0) aM 3) 4 5 aM <| kS 0 aQ (iO (dH aDL 0) gF 5) 6 7 aM <| oR (lK aQ 0) 2 <| fY 8 (iA (vZ aQ 1 0) 1 <| bX fJ mT (vZ aQ 2 0) <| eM aI0 (dH aDL 0) 10 <| cM 11) (dH aDL 0)
theorem bNB:Con.Holds Tryz.prog aPL:=tk ⟨[],[]⟩ aZP (aD mC aL) fun (x:Int × (Int × eZ)) hx hp=>by
 dsimp only [aPL] at hx hp ⊢
 delta aZP kY;refine gH ?_;try with_reducible exact True.intro
 (repeat' first|intro _|(with_reducible apply And.intro))
 all_goals (try simp only[wC] at *)
 all_goals first|omega|exact bV4 (bEG (by omega))|exact bT4 (aH7 (by omega)) (by omega)|exact bTY (aH7 (by omega)) (by omega)
def aKT:Con:=⟨162,(.cD0 bD (.cD0 tI aQ)),bD,[.val ⟨false,bD,[2]⟩,.val ⟨false,tI,[]⟩,.val ⟨false,tI,[]⟩,.val ⟨false,tI,[]⟩],[⟨false,bD,[2]⟩],false,none,
 ((fun x=>List.length x.1<=1000000/\1<=x.2.1/\x.2.1<=4):((List eZ) × (Int × eZ))->Prop),
 ((fun x=>x.1++aJC x.2.1 x.2.2.1 x.2.2.2):((List eZ) × (Int × eZ))->(List eZ))⟩
def aTV:T:=dY (gL bD aQ 2 0) 0 <| cG 1 (bNQ 158 aQ gF (uJ bD aQ 0) <| zU bD (zW bD aQ 0) 2 <| mJ aQ 2 (uJ bD aQ 0) bD qN 4 <| iA (gL bD aQ 1 0) 1 <| kR bM (gL bD aQ 2 0) 6 7 (mJ aQ 3 (uJ bD aQ 0) bD iR 8 <| cM 9) iR) <| mJ aQ 2 (uJ bD aQ 0) bD (zW bD aQ 0) 2 <| iA (gL bD aQ 1 0) 1 <| kR bM (gL bD aQ 2 0) 4 5 (mJ aQ 3 (uJ bD aQ 0) bD qN 6 <| cM 7) qN
theorem bLF:Con.Holds Tryz.prog aKT:=tk ⟨[],[]⟩ aTV aL fun (x:(List eZ) × (Int × eZ)) hx hp=>by
 dsimp only [aKT] at hx hp ⊢
 have hp:List.length x.1<=1000000/\1<=x.2.1/\x.2.1<=4:=hp
 delta aTV;refine gH ?_;try with_reducible exact True.intro
 (repeat' first|intro _|(with_reducible apply And.intro))
 all_goals (try simp only[wC] at *)
 all_goals first|omega|(unfold maxLen;omega)|skip
 all_goals (unfold aJC;(repeat' split) <;> first|omega|(simp;done))
def aOH:Con:=⟨163,(.cD0 bD (.cD0 tI (.cD0 tI aC2))),bD,[.val ⟨false,bD,[2]⟩,.val ⟨false,tI,[]⟩,.val ⟨false,tI,[]⟩,.val ⟨false,tI,[]⟩,.val ⟨false,.bool,[]⟩],[⟨false,bD,[2]⟩],false,none,
 ((fun x=>List.length x.1<=1000000/\1<=x.2.1/\x.2.1<=4):((List eZ) × (Int × (Int × (Int × Bool))))->Prop),
 ((fun x=>x.1++aQ9 x.2.1 x.2.2.1 x.2.2.2.1 x.2.2.2.2):((List eZ) × (Int × (Int × (Int × Bool))))->(List eZ))⟩
def aZ3:T:=iA (gL bD dQ 1 0) 1 <| eM bM (gL bD dQ 2 0) 1 <| cG 2 (mJ aQ 4 (gL bD dQ 3 0) bD (zW bD dQ 0) 3 <| .ite (fV (aA6 bD dQ) 4 0) (mJ aQ 5 (gL bD dQ 3 0) bD gD 5 <| mJ aQ 6 (gL bD dQ 3 0) bD fB 7 <| dY (gL bD dQ 2 0) 0 <| fY 9 (mJ aQ 7 (gL bD dQ 3 0) bD gP 10 <| cM 11) gP) <| mJ aQ 6 (gL bD dQ 3 0) bD gD 5 <| dY (gL bD dQ 2 0) 0 <| fY 7 (mJ aQ 7 (gL bD dQ 3 0) bD fB 8 <| cM 9) fB) <| .ite (fV (aA6 bD dQ) 4 0) (mJ aQ 5 (gL bD dQ 3 0) bD (zW bD dQ 0) 3 <| mJ aQ 6 (gL bD dQ 3 0) bD gD 5 <| dY (gL bD dQ 2 0) 0 <| fY 7 (mJ aQ 7 (gL bD dQ 3 0) bD fB 8 <| cM 9) fB) <| mJ aQ 6 (gL bD dQ 3 0) bD (zW bD dQ 0) 3 <| dY (gL bD dQ 2 0) 0 <| fY 5 (mJ aQ 7 (gL bD dQ 3 0) bD gD 6 <| cM 7) gD
theorem bO1:Con.Holds Tryz.prog aOH:=tk ⟨[],[]⟩ aZ3 aL fun (x:(List eZ) × (Int × (Int × (Int × Bool)))) hx hp=>by
 dsimp only [aOH] at hx hp ⊢
 have hp:List.length x.1<=1000000/\1<=x.2.1/\x.2.1<=4:=hp
 delta aZ3;refine gH ?_;try with_reducible exact True.intro
 (repeat' first|intro _|(with_reducible apply And.intro))
 all_goals (try simp only[wC] at *)
 all_goals first|omega|(unfold maxLen;omega)|skip
 all_goals (unfold aQ9;(repeat' split) <;> first|omega|contradiction|(simp;done)|(simp_all;done))
def bAN:Con:=⟨109,(.cD0 tI (.cD0 tI (.cD0 tI aC2))),bD,[.val ⟨false,tI,[]⟩,.val ⟨false,tI,[]⟩,.val ⟨false,tI,[]⟩,.val ⟨false,tI,[]⟩,.val ⟨false,.bool,[]⟩],[⟨false,bD,[2]⟩],false,none,
 ((fun _=>True):(Int × (Int × (Int × (Int × Bool))))->Prop),
 ((fun x=>rZ x.1 x.2.1 x.2.2.1 x.2.2.2.1 x.2.2.2.2):(Int × (Int × (Int × (Int × Bool))))->(List eZ))⟩
def bJX:T:=kS 0 aQ (iO (lK dQ 0) gF 2) 1 2 uQ <| kS 0 aQ (iO tG gF 4) 3 4 uQ <| iA tG 1 <| kS 0 aQ (eE uG aM 5) 6 7 uQ <| kS 0 aQ (iO (zF 3) gF 5) 8 9 uQ <| lY 1 aDL [lK dQ 0,tG,uG,zF 3] <| yG bD (rN bD 158 aQ) <| sT bD 11 10 12 (lY 2 (aA6 bD aQ) [dN bD 11,tG,uG,bO bD 11] <| fE bD 11 1 0 bD 14 13) <| yG bD (gM bD (dN bD 11)) <| bX bM (bO bD 13) (zF 3) <| cG 14 (bX cC gN (bO bD 13) <| bX bM iL (zF 3) <| cG 16 (bX cC gN (bO bD 13) <| lY 2 (aA6 bD aQ) [dN bD 13,tG,uG,mV] <| lY 3 (aA6 bD dQ) [uA,tG,uG,bO bD 13,fV (sE dQ) 4 0] <| fE bD 13 1 0 bD 20 19) <| lY 3 (aA6 bD dQ) [dN bD 13,tG,uG,bO bD 13,fV (sE dQ) 4 0] <| fE bD 13 1 0 bD 18 17) <| iS (kA 158 aQ) (dR 8) 0 <| zU bD (dN bD 13) 15 <| cM 16
theorem bUA:Con.Holds Tryz.prog bAN:=tk ⟨[(2984,16011,oS 41 37++oS 35 15++[.dr 0,.tm 13 0,.on 11,.sl 1]),(2974,32013,oS 44 42++[.dr 13,.tm 14 0,.sl 1])],[]⟩ bJX (aD mC (aD bNB (aD bLF (aD bO1 aL)))) fun (x:Int × (Int × (Int × (Int × Bool)))) hx hp=>by
  dsimp only [bAN] at hx hp ⊢
  obtain ⟨ds,st,s,micro,r⟩:=x
  delta bJX kY aPL aKT aOH;refine gH ?_;try with_reducible exact True.intro
  (repeat' first|intro _|(with_reducible apply And.intro))
  all_goals (try simp only[wC] at *)
  all_goals first|omega|exact bX0 (fun h=>by rw[pL] at h;omega)|skip
  all_goals have hP:qI st s micro=true:=by first|assumption|exact aH7 (by omega)
  all_goals have hd:ds=1\/ds=2:=by omega
  all_goals have hb:=(pL _ _ _).1 hP
  all_goals have hw:=bM0 (ds:=ds) hP
  all_goals have hfin:=bXA (r:=r) ⟨hd,hP⟩
  all_goals generalize aC1 ds st s micro=W at *
  all_goals refine ⟨fun q=>∃ k:Nat,(k:Int)<=W/\q=((k:Int),bD8 st s k),fun q=>W.toNat - (q.1:Int).toNat,⟨0,by omega,rfl⟩,fun q _ hI=>?_⟩
  all_goals obtain ⟨k,hk,rfl⟩:=hI
  all_goals dsimp only
  all_goals have l1:=aMJ st s k
  all_goals have l2:=aAB st s k
  all_goals refine ⟨fun hlt=>?_,fun hge=>?_⟩
  all_goals first
    | (have h0:(k:Int)<W:=hlt
       (repeat' first|intro _|(with_reducible apply And.intro))
       all_goals first|omega|(unfold maxLen;omega)|exact ⟨k+1,by omega,rfl⟩)
    | skip
  all_goals have hkW:k=W.toNat:=by omega
  all_goals refine ⟨fun q=>∃ j:Nat,(j:Int)<=micro/\q=((j:Int),aFE st s micro W r j),fun q=>micro.toNat - (q.1:Int).toNat,⟨0,by omega,by rw[hkW];rfl⟩,fun q _ hI=>?_⟩
  all_goals obtain ⟨j,hj,rfl⟩:=hI
  all_goals dsimp only
  all_goals try rw[show W+(j:Int)=(j:Int)+W from Int.add_comm _ _]
  all_goals have l3:=aN8 st s micro W r j
  all_goals have l4:=aAB st s ((j:Int)+W)
  all_goals have l5:=aSO st s j r
  all_goals (repeat' first|intro _|(with_reducible apply And.intro))
  all_goals first
    | omega
    | (unfold maxLen;omega)
    | exact ⟨j+1,by omega,by rw[<- bQG (by omega)];rfl⟩
    | exact ⟨j+1,by omega,by rw[<- bP2 (by omega)];rfl⟩
    | (have hj2:j=micro.toNat:=by omega
       rw[hj2]
       exact hfin)
end
noncomputable section
set_option maxRecDepth 100000
def cutAt (c:List Int) (n:Nat) (i:Nat):Bool:=decide (1<=c.getD i 0/\c.getD i 0<=(n:Int) - 1/\(i=0\/c.getD (i - 1) 0<c.getD i 0))
theorem aHI (c:List Int) (n:Nat) {i:Nat} (h:i<c.length):cutAt c n i=true↔1<=c[i]/\c[i]<=(n:Int) - 1/\(i=0\/(c[i - 1]'(by omega))<c[i]):=by
 unfold cutAt
 rw[aO h,aO (show i - 1<c.length by omega),decide_eq_true_eq]
def rU (m:List dU) (c:List Int):Bool:=bY m&&(List.range c.length).all (cutAt c m.length)
theorem yV (m:List dU) (c:List Int):rU m c=true↔bY m=true/\∀ i,i<c.length->cutAt c m.length i=true:=by
 unfold rU;simp only[Bool.and_eq_true,List.all_eq_true,List.mem_range]
theorem bYS {m:List dU} {c:List Int} (h:bY m=false):false=rU m c:=by unfold rU;rw[h];rfl
theorem bQ8 {m:List dU} {c:List Int} {i:Nat} (hi:i<c.length) (h:¬ cutAt c m.length i=true):false=rU m c:=by
 refine (Bool.eq_false_iff.2 fun h'=>?_).symm
 rw[yV] at h'
 exact h (h'.2 i hi)
def bP (m:List dU) (c:List Int):Int:=if rU m c=true then (c.length:Int)+1 else 0
def tA (c:bB):Prop:=sQ c.1/\List.length c.2.1<=1000000000/\List.length c.2.2.2.1<=1000000000/\List.length c.2.2.2.2.1<=1000000000/\List.length c.2.2.2.2.2<=1000000000
theorem aMO (ds st s micro:Int) (r:Bool):(rZ ds st s micro r).length<=60:=by
 unfold rZ
 split
 ·rename_i h
  have h1:=aN8 st s micro (aC1 ds st s micro) r micro.toNat
  have h2:=bM0 (ds:=ds) h.2
  have h3:=(pL _ _ _).1 h.2
  rw[List.length_append,List.length_singleton]
  omega
 ·simp
def aHW:Con:=⟨173,(.cD0 aB aA),.bool,[.val ⟨true,aB,[]⟩,.val ⟨false,aA,[]⟩],[⟨false,.bool,[0]⟩],false,none,
 ((fun x=>sQ x.1/\List.length x.2<=1000000000):(aS × cK)->Prop),
 ((fun x=>rU x.1 x.2):(aS × cK)->(Bool))⟩
def aYU:T:=jE 0 (tX aB) 1 2 <| iN 3 tI (kV aA 1) tI aM <| tE 4 3 5 (bN 3 tI aA (kV aA 1) 4 <| gT bM 6 1 <| eQ 7 <| kI 98 bQ (tX aB) fJ 8 1 <| tM (vW .gtr) 6 9 10 <| dY gD 0 <| cG 11 (gT fJ 4 1 <| bN 3 tI aA (kV aA 1) 12 <| tM aLE 13 6 14 <| kF gD 1 0 iL) <| kF gD 1 0 kO) bK
theorem aXN:Con.Holds Tryz.prog aHW:=tk ⟨[(2988,2004,oS 9 7++[.dr 0,.tm 12 0])],[]⟩ aYU (aD oL aL) fun (x:aS × cK) hx hp=>by
 dsimp only [aHW] at hx hp ⊢
 obtain ⟨m,c⟩:=x
 obtain ⟨⟨hm1,hm2⟩,hc⟩:sQ m/\List.length c<=1000000000:=hp
 delta aYU gB;refine gH ?_
 refine ⟨fun hb=>?_,fun hb _=>?_⟩
 all_goals simp only[wC] at hb
 ·exact bYS hb
 refine ⟨fun s=>∃ k:Nat,k<=c.length/\s=(k:Int)/\∀ i,i<k->cutAt c m.length i=true,fun s=>c.length - (s:Int).toNat,⟨0,by omega,rfl,by omega⟩,fun s _ hI=>?_⟩
 obtain ⟨k,hk,rfl,ha⟩:=hI
 refine iC ?_
 constructor
 ·intro hlt
  have hk':k<c.length:=by omega
  rw[aO hk',aO (show k - 1<c.length by omega)]
  have e:=aHI c m.length hk'
  (repeat' first|intro _|(with_reducible apply And.intro))
  all_goals first|omega|(refine bQ8 hk' fun h=>?_;rw[e] at h;omega)|skip
  all_goals refine ⟨k+1,by omega,rfl,fun i hi=>?_⟩
  all_goals rcases Nat.lt_or_eq_of_le (Nat.le_of_lt_succ hi) with h|rfl
  all_goals first|exact ha i h|exact e.2 ⟨by omega,by omega,by omega⟩
 ·intro hge
  have:k=c.length:=by omega
  subst this
  exact ((yV m c).2 ⟨hb,ha⟩).symm
def aDK:Con:=⟨104,(.cD0 aB aA),.bool,[.val ⟨true,aB,[]⟩,.val ⟨false,aA,[]⟩],[⟨false,.bool,[0]⟩],false,none,
 ((fun x=>sQ x.1/\List.length x.2<=1000000000):(aS × cK)->Prop),
 ((fun x=>rU x.1 x.2):(aS × cK)->(Bool))⟩
def aXA:T:=dX tI aM 3 tI (kV aA 1) <| eM bM aX 2 <| cG 3 (bN 3 tI aA (kV aA 1) 1 <| kI 98 bQ (tX aB) fJ 5 1 <| kS 0 aQ (eE gD gF 6) 7 8 cL <| dY aX 0 <| cG 9 (iA aX 1 <| bN 3 tI aA (kV aA 1) 1 <| bN 3 tI aA (kV aA 1) 10 <| tM (vW .leq) 11 12 13 <| kF aX 1 0 gW) <| kF aX 1 0 gN) <| gG 1 aB aA 0 <| cM 4
theorem aOF:Con.Holds Tryz.prog aDK:=tk ⟨[(2993,1001,[.dr 0,.tm 5 0])],[]⟩ aXA (aD mC (aD rH aL)) fun (x:aS × cK) hx hp=>by
 dsimp only [aDK] at hx hp ⊢
 obtain ⟨m,c⟩:=x
 obtain ⟨⟨hm1,hm2⟩,hc⟩:sQ m/\List.length c<=1000000000:=hp
 delta aXA kY oG;refine gH ?_
 refine ⟨fun s=>∃ k:Nat,k<=c.length/\s=(k:Int)/\∀ i,i<k->cutAt c m.length i=true,fun s=>c.length - (s:Int).toNat,⟨0,by omega,rfl,by omega⟩,fun s _ hI=>?_⟩
 obtain ⟨k,hk,rfl,ha⟩:=hI
 refine iC ?_
 intro _
 constructor
 ·intro hlt
  have hk':k<c.length:=by omega
  rw[aO hk',aO (show k - 1<c.length by omega)]
  have e:=aHI c m.length hk'
  (repeat' first|intro _|(with_reducible apply And.intro))
  all_goals first|omega|(refine bQ8 hk' fun h=>?_;rw[e] at h;omega)|skip
  all_goals refine ⟨k+1,by omega,rfl,fun i hi=>?_⟩
  all_goals rcases Nat.lt_or_eq_of_le (Nat.le_of_lt_succ hi) with h|rfl
  all_goals first|exact ha i h|exact e.2 ⟨by omega,by omega,by omega⟩
 ·intro hge
  have:k=c.length:=by omega
  subst this
  rw[Bool.eq_iff_iff,yV]
  exact ⟨fun h=>⟨h,ha⟩,fun h=>h.1⟩
def wK:Con:=⟨116,aH,tI,[.val ⟨true,aH,[]⟩],[⟨false,tI,[0]⟩],false,none,
 ((fun x=>sQ x.1/\List.length x.2.1<=1000000000):(bB)->Prop),
 ((fun x=>bP x.1 x.2.1):(bB)->(Int))⟩
def aQG:T:=dC 0 (.cD2 aB aA (jO aB aA (zK bZ aF) 0) (cQ aH 0)) 1 2 aM <| cN (cQ aH 0) <| gT cC 3 1 <| cM 4
theorem aCA:Con.Holds Tryz.prog wK:=tk ⟨[],[]⟩ aQG (aD aXN aL) fun (x:bB) hx hp=>by
 dsimp only [wK] at hx hp ⊢
 obtain ⟨m,c,r⟩:=x
 have hq:sQ m/\List.length c<=1000000000:=hp
 have hc:=hq.2
 delta aQG aHW;refine gH ?_
 refine ⟨hq,fun hb=>?_,fun hb _=>?_⟩
 all_goals simp only[wC] at hb
 ·unfold bP;rw[if_neg (by rw[hb];simp)]
 ·refine ⟨by omega,fun _=>?_⟩
  unfold bP;rw[if_pos hb]
def aII:Con:=⟨106,aH,tI,[.val ⟨true,aH,[]⟩],[⟨false,tI,[0]⟩],false,none,
 ((fun x=>sQ x.1/\List.length x.2.1<=1000000000):(bB)->Prop),
 ((fun x=>bP x.1 x.2.1):(bB)->(Int))⟩
def aQB:T:=dC 0 (.cD2 aB aA (jO aB aA (zK bZ aF) 0) (cQ aH 0)) 1 2 aM <| cN (cQ aH 0) <| gT cC 3 1 <| cM 4
theorem bGG:Con.Holds Tryz.prog aII:=tk ⟨[],[]⟩ aQB (aD aOF aL) fun (x:bB) hx hp=>by
 dsimp only [aII] at hx hp ⊢
 obtain ⟨m,c,r⟩:=x
 have hq:sQ m/\List.length c<=1000000000:=hp
 have hc:=hq.2
 delta aQB aDK;refine gH ?_
 refine ⟨hq,fun hb=>?_,fun hb _=>?_⟩
 all_goals simp only[wC] at hb
 ·unfold bP;rw[if_neg (by rw[hb];simp)]
 ·refine ⟨by omega,fun _=>?_⟩
  unfold bP;rw[if_pos hb]
end
noncomputable section
set_option maxRecDepth 100000
def aZ (m:List dU) (c:List Int) (s:Int):Int × Int :=
 if rU m c=true/\0<=s/\s<=(c.length:Int) then ((if 0<s then c.getD (s - 1).toNat 0 else 0),(if s<(c.length:Int) then c.getD s.toNat 0 else (m.length:Int))) else (0,0)
def aSR (m:List dU) (i:Int):Int:=(m.getD i.toNat nO).2.1
def aQW (m:List dU) (i:Int):Int:=(m.getD i.toNat nO).2.2.1
def aC6 (m:List dU) (a:Int):Nat->Int
 | 0=>0
 | k+1=>aC6 m a k+aSR m (a+(k:Int))
def aEP (c:bB) (s:Int):Int:=if (aZ c.1 c.2.1 s).1<(aZ c.1 c.2.1 s).2 then aQW c.1 ((aZ c.1 c.2.1 s).2 - 1) else 0
def inF (c:bB) (s:Int):Int:=if (aZ c.1 c.2.1 s).1<(aZ c.1 c.2.1 s).2 then aSR c.1 (aZ c.1 c.2.1 s).1 else 0
def aE2 (c:bB) (s:Int):Int:=aC6 c.1 (aZ c.1 c.2.1 s).1 ((aZ c.1 c.2.1 s).2 - (aZ c.1 c.2.1 s).1).toNat+aEP c s
def aBB (c:bB) (s:Int):Bool:=decide (0<=s/\s<(c.2.2.2.1.length:Int))&&c.2.2.2.1.getD s.toNat false
def tO (c:bB) (s:Int):Int:=if aBB c s=true then inF c s else aE2 c s
def zE (c:bB) (s micro:Int):Int :=
 if (aZ c.1 c.2.1 s).1<(aZ c.1 c.2.1 s).2/\1<=micro/\micro<=5/\(c.2.1.length:Int)+1<=4 then
  (if c.2.2.1=2 then min micro ((c.2.1.length:Int)+1 - s) else micro) * tO c s+max (inF c s) (aEP c s)+(if aBB c s=true then aE2 c s else 0) else 0
def aA3 (c:bB):Bool:=decide (c.2.2.2.2.1.length=c.2.1.length)&&c.2.2.2.2.1.all fun n=>decide (1<=n/\n<=5)
def bKE (c:bB) (micro:Int) (s:Nat):Bool:=decide (zE c (s:Int) micro<=c.2.2.2.2.2.getD s 0/\c.2.2.2.2.2.getD s 0<=100000)
def wN (c:bB) (micro:Int):Bool:=decide ((c.2.2.2.2.2.length:Int)=bP c.1 c.2.1)&&(List.range c.2.2.2.2.2.length).all (bKE c micro)
def cH (c:bB) (b:List bA):Int :=
 if bY c.1=false then 1 else if iQ c.1 b=false then 2 else if bP c.1 c.2.1=0\/4<bP c.1 c.2.1 then 3 else if ¬ (c.2.2.1=1\/c.2.2.1=2) then 4
 else if ¬ (c.2.2.2.1.length:Int)=bP c.1 c.2.1 then 5 else if aA3 c=false then 6 else if wN c (b.length:Int)=false then 7 else 0
theorem aBD {m:List dU} {c:List Int} {s:Int} (h:rU m c=false\/s<0\/(c.length:Int)<s):aZ m c s=(0,0):=by
 unfold aZ;rw[if_neg]
 rintro ⟨h1,h2,h3⟩
 rcases h with h|h|h
 ·rw[h] at h1;cases h1
 ·omega
 ·omega
theorem qD {m:List dU} {c:List Int} {s:Int} (h1:rU m c=true) (h2:0<=s) (h3:s<=(c.length:Int)):aZ m c s=((if 0<s then c.getD (s - 1).toNat 0 else 0),(if s<(c.length:Int) then c.getD s.toNat 0 else (m.length:Int))):=if_pos ⟨h1,h2,h3⟩
theorem aW5 {m:List dU} {c:List Int} {s:Int} (h1:rU m c=true) (h2:0<=s) (h3:s<=(c.length:Int)):0<=(aZ m c s).1/\(aZ m c s).1<(aZ m c s).2/\(aZ m c s).2<=(m.length:Int):=by
 obtain ⟨hm,hc⟩:=(yV m c).1 h1
 have hm1:=((bR m).1 hm).1
 rw[qD h1 h2 h3]
 dsimp only
 by_cases ha:0<s
 ·have e1:=(aHI c m.length (show (s - 1).toNat<c.length by omega)).1 (hc _ (by omega))
  rw[if_pos ha,aO (show (s - 1).toNat<c.length by omega)]
  by_cases hb:s<(c.length:Int)
  ·have e2:=(aHI c m.length (show s.toNat<c.length by omega)).1 (hc _ (by omega))
   rw[if_pos hb,aO (show s.toNat<c.length by omega)]
   have e3:(s - 1).toNat=s.toNat - 1:=by omega
   have e4:c[(s - 1).toNat]'(by omega)=c[s.toNat - 1]'(by omega):=by congr 1
   rw[e4] at e1 ⊢
   omega
  ·rw[if_neg hb];omega
 ·rw[if_neg ha]
  by_cases hb:s<(c.length:Int)
  ·have e2:=(aHI c m.length (show s.toNat<c.length by omega)).1 (hc _ (by omega))
   rw[if_pos hb,aO (show s.toNat<c.length by omega)]
   omega
  ·rw[if_neg hb];omega
theorem aFH (m:List dU) (c:List Int) (s:Int):0<=(aZ m c s).1/\(aZ m c s).1<=(aZ m c s).2/\(aZ m c s).2<=(m.length:Int)/\((aZ m c s).1<(aZ m c s).2->bY m=true/\rU m c=true/\0<=s/\s<=(c.length:Int)):=by
 by_cases h:rU m c=true/\0<=s/\s<=(c.length:Int)
 ·have hb:=aW5 h.1 h.2.1 h.2.2
  exact ⟨hb.1,by omega,hb.2.2,fun _=>⟨((yV m c).1 h.1).1,h⟩⟩
 ·have e:aZ m c s=(0,0):=if_neg h
  rw[e]
  exact ⟨Int.le_refl _,Int.le_refl _,by show (0:Int)<=_;omega,fun h=>absurd h (Int.lt_irrefl _)⟩
theorem aWP {m:List dU} (h:bY m=true) {i:Int} (h0:0<=i) (h1:i<(m.length:Int)):1<=aSR m i/\aSR m i<=6/\1<=aQW m i/\aQW m i<=6:=by
 have hk:i.toNat<m.length:=by omega
 have h2:=(uY m hk).1 (((bR m).1 h).2.2 _ hk)
 have h3:=((lQ _).1 h2.1).1
 unfold aSR aQW
 rw[aO hk]
 omega
theorem aVU {m:List dU} (h:bY m=true) {a:Int} (h0:0<=a):(k:Nat)->a+(k:Int)<=(m.length:Int)->0<=aC6 m a k/\aC6 m a k<=6 * (k:Int)
 | 0,_=>by unfold aC6;omega
 | k+1,hk=>by
  have h1:=aVU h h0 k (by omega)
  have h2:=aWP h (i:=a+(k:Int)) (by omega) (by omega)
  unfold aC6;omega
theorem aYE (c:bB) (s:Int):0<=inF c s/\inF c s<=6/\0<=aEP c s/\aEP c s<=6/\0<=aE2 c s/\aE2 c s<=54/\0<=tO c s/\tO c s<=54:=by
 obtain ⟨h0,h1,h2,h3⟩:=aFH c.1 c.2.1 s
 by_cases h:(aZ c.1 c.2.1 s).1<(aZ c.1 c.2.1 s).2
 ·obtain ⟨hm,-⟩:=h3 h
  have hl:=((bR _).1 hm).2.1
  have a1:=aWP hm (i:=(aZ c.1 c.2.1 s).1) h0 (by omega)
  have a2:=aWP hm (i:=(aZ c.1 c.2.1 s).2 - 1) (by omega) (by omega)
  have a3:=aVU hm h0 ((aZ c.1 c.2.1 s).2 - (aZ c.1 c.2.1 s).1).toNat (by omega)
  have e1:inF c s=aSR c.1 (aZ c.1 c.2.1 s).1:=if_pos h
  have e2:aEP c s=aQW c.1 ((aZ c.1 c.2.1 s).2 - 1):=if_pos h
  have e3:aE2 c s=aC6 c.1 (aZ c.1 c.2.1 s).1 ((aZ c.1 c.2.1 s).2 - (aZ c.1 c.2.1 s).1).toNat+aEP c s:=rfl
  have e4:tO c s=if aBB c s=true then inF c s else aE2 c s:=rfl
  split at e4 <;> omega
 ·have e1:inF c s=0:=if_neg h
  have e2:aEP c s=0:=if_neg h
  have e3:aE2 c s=aC6 c.1 (aZ c.1 c.2.1 s).1 ((aZ c.1 c.2.1 s).2 - (aZ c.1 c.2.1 s).1).toNat+aEP c s:=rfl
  rw[show ((aZ c.1 c.2.1 s).2 - (aZ c.1 c.2.1 s).1).toNat=0 by omega] at e3
  have e5:aC6 c.1 (aZ c.1 c.2.1 s).1 0=0:=rfl
  have e4:tO c s=if aBB c s=true then inF c s else aE2 c s:=rfl
  split at e4 <;> omega
theorem bOP {m:List dU} {c:List Int} {s:Int} (h1:rU m c=true) (h2:0<s) (h3:s<(c.length:Int)):(c.getD (s - 1).toNat 0,c.getD s.toNat 0)=aZ m c s:=by rw[qD h1 (by omega) (by omega),if_pos h2,if_pos h3]
theorem bOW {m:List dU} {c:List Int} {s:Int} (h1:rU m c=true) (h2:0<s) (h3:s=(c.length:Int)):(c.getD (s - 1).toNat 0,(m.length:Int))=aZ m c s:=by rw[qD h1 (by omega) (by omega),if_pos h2,if_neg (by omega)]
theorem bQQ {m:List dU} {c:List Int} {s:Int} (h1:rU m c=true) (h2:s=0) (h3:s<(c.length:Int)):(0,c.getD s.toNat 0)=aZ m c s:=by rw[qD h1 (by omega) (by omega),if_neg (by omega),if_pos h3]
theorem bOL {m:List dU} {c:List Int} {s:Int} (h1:rU m c=true) (h2:s=0) (h3:s=(c.length:Int)):(0,(m.length:Int))=aZ m c s:=by rw[qD h1 (by omega) (by omega),if_neg (by omega),if_neg (by omega)]
theorem aD7 {c:bB} {s:Int} (h0:0<=s) (h1:s<(c.2.2.2.1.length:Int)):c.2.2.2.1.getD s.toNat false=aBB c s:=by unfold aBB;rw[decide_eq_true ⟨h0,h1⟩,Bool.true_and]
theorem aSG {c:bB} {s:Int} (h:s<0\/(c.2.2.2.1.length:Int)<=s):false=aBB c s:=by unfold aBB;rw[decide_eq_false (by omega),Bool.false_and]
theorem bPF {c:bB} {s:Int} (h:(aZ c.1 c.2.1 s).1=(aZ c.1 c.2.1 s).2):(0,0)=(inF c s,aEP c s):=by
 unfold inF aEP;rw[if_neg (by omega),if_neg (by omega)]
theorem bQS {c:bB} {s:Int} (h:(aZ c.1 c.2.1 s).1<(aZ c.1 c.2.1 s).2):(aSR c.1 (aZ c.1 c.2.1 s).1,aQW c.1 ((aZ c.1 c.2.1 s).2 - 1))=(inF c s,aEP c s):=by
 unfold inF aEP;rw[if_pos h,if_pos h]
theorem bF7 {c:bB} {s:Int} (h:aBB c s=true):inF c s=tO c s:=(if_pos h).symm
theorem aVZ {c:bB} {s:Int} (h:aBB c s=false):aE2 c s=tO c s:=(if_neg (by rw[h];simp)).symm
theorem bS0 {k v:Int} (h1:0<=k) (h2:k<=5) (h3:0<=v) (h4:v<=54):0<=k * v/\k * v<=270:=by
 refine ⟨Int.mul_nonneg h1 h3,?_⟩
 have:=Int.mul_le_mul h2 h4 h3 (by omega:(0:Int)<=5)
 omega
theorem aXO {c:bB} {s micro:Int} (h:(aZ c.1 c.2.1 s).2<=(aZ c.1 c.2.1 s).1\/micro<1\/5<micro\/4<(c.2.1.length:Int)+1):0=zE c s micro:=by unfold zE;rw[if_neg (by omega)]
theorem aHY {c:bB} {s micro k r:Int} (h1:(aZ c.1 c.2.1 s).1<(aZ c.1 c.2.1 s).2) (h2:1<=micro) (h3:micro<=5) (h4:(c.2.1.length:Int)+1<=4) (hk:k=if c.2.2.1=2 then min micro ((c.2.1.length:Int)+1 - s) else micro) (hr:r=if aBB c s=true then aE2 c s else 0) :
 k * tO c s+max (inF c s) (aEP c s)+r=zE c s micro:=by unfold zE;rw[if_pos ⟨h1,h2,h3,h4⟩,hk,hr]
theorem aBY {c:bB} {s micro k:Int} (h1:(aZ c.1 c.2.1 s).1<(aZ c.1 c.2.1 s).2) (h2:1<=micro) (h3:micro<=5) (h4:(c.2.1.length:Int)+1<=4) (hk:k=if c.2.2.1=2 then min micro ((c.2.1.length:Int)+1 - s) else micro) (hr:aBB c s=false) :
  k * tO c s+max (inF c s) (aEP c s)=zE c s micro:=by
 have h:=aHY (s:=s) h1 h2 h3 h4 hk (r:=0) (if_neg (by rw[hr];simp)).symm
 omega
theorem aHH {m:List dU} {c:List Int} (h:rU m c=true):bP m c=(c.length:Int)+1:=if_pos h
theorem aXD {m:List dU} {c:List Int} (h:rU m c=false):bP m c=0:=if_neg (by rw[h];simp)
theorem bT1 {m:List dU} {c:List Int} {s:Int} (h0:0<=s) (h:s<bP m c):rU m c=true:=by
 cases hc:rU m c
 ·rw[aXD hc] at h;omega
 ·rfl
theorem bRZ (m:List dU) (c:List Int):0<=bP m c:=by unfold bP;split <;> omega
theorem bP8 {c:bB} (h:¬ c.2.2.2.2.1.length=c.2.1.length):aA3 c=false:=by unfold aA3;rw[decide_eq_false h,Bool.false_and]
theorem bOK {c:bB} {k:Nat} (hk:k<c.2.2.2.2.1.length) (h:¬ (1<=c.2.2.2.2.1[k]/\c.2.2.2.2.1[k]<=5)):aA3 c=false:=by
 have e:c.2.2.2.2.1.all (fun n=>decide (1<=n/\n<=5))=false:=aFN hk (decide_eq_false h)
 unfold aA3
 rw[e,Bool.and_false]
theorem bLX {c:bB} (h:c.2.2.2.2.1.length=c.2.1.length) (h2:c.2.2.2.2.1.all (fun n=>decide (1<=n/\n<=5))=true):aA3 c=true:=by unfold aA3;rw[decide_eq_true h,h2];rfl
theorem bU4 {c:bB} {m:Int} (h:¬ (c.2.2.2.2.2.length:Int)=bP c.1 c.2.1):wN c m=false:=by unfold wN;rw[decide_eq_false h,Bool.false_and]
theorem bWP {c:bB} {m:Int} {k:Nat} (hk:k<c.2.2.2.2.2.length) (h:¬ (zE c (k:Int) m<=c.2.2.2.2.2.getD k 0/\c.2.2.2.2.2.getD k 0<=100000)):wN c m=false:=by
 refine Bool.eq_false_iff.2 fun hh=>h ?_
 unfold wN at hh
 rw[Bool.and_eq_true,List.all_eq_true] at hh
 exact of_decide_eq_true (hh.2 k (List.mem_range.2 hk))
theorem bZT {c:bB} {m:Int} (h:(c.2.2.2.2.2.length:Int)=bP c.1 c.2.1) (h2:∀ i,i<c.2.2.2.2.2.length->bKE c m i=true):wN c m=true:=by
 unfold wN;rw[decide_eq_true h,Bool.true_and,List.all_eq_true]
 exact fun i hi=>h2 i (List.mem_range.1 hi)
theorem cBG {c:bB} {b:List bA} (h:bY c.1=false):1=cH c b:=by unfold cH;rw[if_pos h]
theorem cBV {c:bB} {b:List bA} (h1:bY c.1=true) (h:iQ c.1 b=false):2=cH c b:=by unfold cH;rw[if_neg (by rw[h1];simp),if_pos h]
theorem bYJ {c:bB} {b:List bA} (h1:bY c.1=true) (h2:iQ c.1 b=true) (h:bP c.1 c.2.1=0\/4<bP c.1 c.2.1):3=cH c b:=by unfold cH;rw[if_neg (by rw[h1];simp),if_neg (by rw[h2];simp),if_pos h]
theorem bZF {c:bB} {b:List bA} (h1:bY c.1=true) (h2:iQ c.1 b=true) (h3:¬ (bP c.1 c.2.1=0\/4<bP c.1 c.2.1)) (h:¬ (c.2.2.1=1\/c.2.2.1=2)):4=cH c b:=by unfold cH;rw[if_neg (by rw[h1];simp),if_neg (by rw[h2];simp),if_neg h3,if_pos h]
theorem cB4 {c:bB} {b:List bA} (h1:bY c.1=true) (h2:iQ c.1 b=true) (h3:¬ (bP c.1 c.2.1=0\/4<bP c.1 c.2.1)) (h4:c.2.2.1=1\/c.2.2.1=2) (h:¬ (c.2.2.2.1.length:Int)=bP c.1 c.2.1):5=cH c b:=by
 unfold cH;rw[if_neg (by rw[h1];simp),if_neg (by rw[h2];simp),if_neg h3,if_neg (Classical.not_not.2 h4),if_pos h]
theorem bXQ {c:bB} {b:List bA} (h1:bY c.1=true) (h2:iQ c.1 b=true) (h3:¬ (bP c.1 c.2.1=0\/4<bP c.1 c.2.1)) (h4:c.2.2.1=1\/c.2.2.1=2) (h5:(c.2.2.2.1.length:Int)=bP c.1 c.2.1) (h:aA3 c=false):6=cH c b:=by
 unfold cH;rw[if_neg (by rw[h1];simp),if_neg (by rw[h2];simp),if_neg h3,if_neg (Classical.not_not.2 h4),if_neg (Classical.not_not.2 h5),if_pos h]
theorem bZ1 {c:bB} {b:List bA} (h1:bY c.1=true) (h2:iQ c.1 b=true) (h3:¬ (bP c.1 c.2.1=0\/4<bP c.1 c.2.1)) (h4:c.2.2.1=1\/c.2.2.1=2) (h5:(c.2.2.2.1.length:Int)=bP c.1 c.2.1) (h6:aA3 c=true) (h:wN c (b.length:Int)=false):7=cH c b:=by
 unfold cH;rw[if_neg (by rw[h1];simp),if_neg (by rw[h2];simp),if_neg h3,if_neg (Classical.not_not.2 h4),if_neg (Classical.not_not.2 h5),if_neg (by rw[h6];simp),if_pos h]
theorem cAZ {c:bB} {b:List bA} (h1:bY c.1=true) (h2:iQ c.1 b=true) (h3:¬ (bP c.1 c.2.1=0\/4<bP c.1 c.2.1)) (h4:c.2.2.1=1\/c.2.2.1=2) (h5:(c.2.2.2.1.length:Int)=bP c.1 c.2.1) (h6:aA3 c=true) (h7:wN c (b.length:Int)=true):0=cH c b:=by
 unfold cH;rw[if_neg (by rw[h1];simp),if_neg (by rw[h2];simp),if_neg h3,if_neg (Classical.not_not.2 h4),if_neg (Classical.not_not.2 h5),if_neg (by rw[h6];simp),if_neg (by rw[h7];simp)]
def vB:Con:=⟨119,(.cD0 aB (.cD0 aA tI)),aQ,[.val ⟨true,aB,[]⟩,.val ⟨false,aA,[]⟩,.val ⟨false,tI,[]⟩],[⟨false,tI,[0]⟩,⟨false,tI,[0]⟩],false,none,
 ((fun x=>sQ x.1/\List.length x.2.1<=1000000000):(aS × (cK × Int))->Prop),
 ((fun x=>aZ x.1 x.2.1 x.2.2):(aS × (cK × Int))->(Int × Int))⟩
def aK6:T:=dC 0 (.cD2 aB aA (jO aB aA tI 0) (gQ aB aA tI 1 0)) 1 2 (gM tI aM) <| iS bM (qJ aA tI 0) 0 <| cE 3 (gM tI aM) <| cN (gQ aB aA tI 1 0) <| eM (vW .gtr) (qJ aA tI 0) 4 <| cE 5 (gM tI aM) <| bT 98 bQ (jO aB aA tI 0) <| dY (qJ aA tI 0) 0 <| cG 7 (iA (qJ aA tI 0) 1 <| bN 3 tI aA (gQ aB aA tI 1 0) 8 <| cN (gQ aB aA tI 1 0) <| kR bM (qJ aA tI 0) 10 11 (dP 3 tI aA (gQ aB aA tI 1 0) (qJ aA tI 0) <| .ret (zR tI 9 12)) (zR tI 9 6)) <| cN (gQ aB aA tI 1 0) <| kR bM (qJ aA tI 0) 8 9 (dP 3 tI aA (gQ aB aA tI 1 0) (qJ aA tI 0) <| .ret (gM tI gN)) (gM tI fB)
theorem aDG:Con.Holds Tryz.prog vB:=tk ⟨[],[]⟩ aK6 (aD aXN aL) fun (x:aS × (cK × Int)) hx hp=>by
 dsimp only [vB] at hx hp ⊢
 obtain ⟨m,c,s⟩:=x
 obtain ⟨hp1,hp2⟩:sQ m/\List.length c<=1000000000:=hp
 delta aK6 aHW;refine gH ?_
 (refine iC ?_;try with_reducible exact True.intro)
 (repeat' first|intro _|(with_reducible apply And.intro))
 all_goals first|omega|exact hp1|exact hp2|exact (aBD (.inl (by assumption))).symm|exact (aBD (.inr (by omega))).symm|exact bOP (by assumption) (by omega) (by omega)|exact bOW (by assumption) (by omega) (by omega)|exact bQQ (by assumption) (by omega) (by omega)|exact bOL (by assumption) (by omega) (by omega)|skip
def sC:Con:=⟨107,(.cD0 aB (.cD0 aA tI)),aQ,[.val ⟨true,aB,[]⟩,.val ⟨false,aA,[]⟩,.val ⟨false,tI,[]⟩],[⟨false,tI,[0]⟩,⟨false,tI,[0]⟩],false,none,
 ((fun x=>sQ x.1/\List.length x.2.1<=1000000000):(aS × (cK × Int))->Prop),
 ((fun x=>aZ x.1 x.2.1 x.2.2):(aS × (cK × Int))->(Int × Int))⟩
def aM1:T:=dC 0 (.cD2 aB aA (jO aB aA tI 0) (gQ aB aA tI 1 0)) 1 2 (gM tI aM) <| cN (gQ aB aA tI 1 0) <| kS 1 aQ (eE (qJ aA tI 0) aM 3) 4 5 (gM tI aM) <| bT 98 bQ (jO aB aA tI 0) <| dY (qJ aA tI 0) 0 <| cG 7 (iA (qJ aA tI 0) 1 <| bN 3 tI aA (gQ aB aA tI 1 0) 8 <| cN (gQ aB aA tI 1 0) <| kR bM (qJ aA tI 0) 10 11 (dP 3 tI aA (gQ aB aA tI 1 0) (qJ aA tI 0) <| .ret (zR tI 9 12)) (zR tI 9 6)) <| cN (gQ aB aA tI 1 0) <| kR bM (qJ aA tI 0) 8 9 (dP 3 tI aA (gQ aB aA tI 1 0) (qJ aA tI 0) <| .ret (gM tI gN)) (gM tI fB)
theorem zG:Con.Holds Tryz.prog sC:=tk ⟨[],[]⟩ aM1 (aD aOF (aD mC aL)) fun (x:aS × (cK × Int)) hx hp=>by
 dsimp only [sC] at hx hp ⊢
 obtain ⟨m,c,s⟩:=x
 obtain ⟨hp1,hp2⟩:sQ m/\List.length c<=1000000000:=hp
 delta aM1 aDK kY;refine gH ?_
 (refine iC ?_;try with_reducible exact True.intro)
 (repeat' first|intro _|(with_reducible apply And.intro))
 all_goals first|omega|exact hp1|exact hp2|exact (aBD (.inl (by assumption))).symm|exact (aBD (.inr (by omega))).symm|exact bOP (by assumption) (by omega) (by omega)|exact bOW (by assumption) (by omega) (by omega)|exact bQQ (by assumption) (by omega) (by omega)|exact bOL (by assumption) (by omega) (by omega)|skip
def aHZ:Con:=⟨210,aYA,.bool,[.val ⟨true,aH,[]⟩,.val ⟨false,tI,[]⟩],[⟨false,.bool,[0]⟩],false,none,
 ((fun _=>True):(bB × Int)->Prop),
 ((fun x=>aBB x.1 x.2):(bB × Int)->(Bool))⟩
def aZW:T:=sB .geq (iD aH 1 0) 0 <| gV 1 <| bT 4 .bool (uD 3 tI) <| kR bM (iD aH 1 0) 2 3 (dP 4 .bool bZ (uD 3 tI) (iD aH 1 0) <| cM 4) cL
theorem aZX:Con.Holds Tryz.prog aHZ:=tk ⟨[],[]⟩ aZW aL fun (x:bB × Int) hx hp=>by
 dsimp only [aHZ] at hx hp ⊢
 delta aZW;refine gH ?_
 (refine iC ?_;try with_reducible exact True.intro)
 (repeat' first|intro _|(with_reducible apply And.intro))
 all_goals first|omega|exact aSG (by omega)|exact aD7 (by omega) (by omega)|skip
def aBO:Con:=⟨208,aYA,aQ,[.val ⟨true,aH,[]⟩,.val ⟨false,tI,[]⟩],[⟨false,tI,[0]⟩,⟨false,tI,[0]⟩],false,none,
 ((fun x=>tA x.1):(bB × Int)->Prop),
 ((fun x=>(inF x.1 x.2,aEP x.1 x.2)):(bB × Int)->(Int × Int))⟩
def aVA:T:=uH 0 aA tI [pG aB aA bZ aF aH tI 0,uD 1 tI,iD aH 1 0] <| bX vU (lV 1) (gJ 1) <| cE 2 (gM tI aM) <| iA (gJ 1) 1 <| cR 98 bQ aB (pG aB aA bZ aF aH tI 0) tI 1 <| bN 98 bQ aB (pG aB aA bZ aF aH tI 0) 3 <| .ret (rB tI (rM 4) (tK 5))
theorem aLI:Con.Holds Tryz.prog aBO:=tk ⟨[],[]⟩ aVA (aD aDG aL) fun (x:bB × Int) hx hp=>by
 dsimp only [aBO] at hx hp ⊢
 have hp:tA x.1:=hp
 have hr:=aFH x.1.1 x.1.2.1 x.2
 have hml:List.length x.1.1<=1000000000:=hp.1.1
 delta aVA vB;refine gH ?_
 (refine iC ?_;try with_reducible exact True.intro)
 (repeat' first|intro _|(with_reducible apply And.intro))
 all_goals first|omega|exact hp.1|exact hp.2.1|exact bPF (by assumption)|exact bQS (by omega)|skip
def aB7:Con:=⟨211,aYA,tI,[.val ⟨true,aH,[]⟩,.val ⟨false,tI,[]⟩],[⟨false,tI,[0]⟩],false,none,
 ((fun x=>tA x.1):(bB × Int)->Prop),
 ((fun x=>aE2 x.1 x.2):(bB × Int)->(Int))⟩
def aO2:T:=uH 0 aA tI [pG aB aA bZ aF aH tI 0,uD 1 tI,iD aH 1 0] <| dE 1 0 <| .loop aQ (rB tI (lV 1) (gJ 2)) <| bX bM (lV 3) (gJ 1) <| fY 4 (cR 98 bQ aB (pG aB aA bZ aF aH tI 0) tI 3 <| bX cC (gJ 3) (rM 5) <| fE tI 3 1 0 tI 7 6) (gJ 3)
theorem aNS:Con.Holds Tryz.prog aB7:=tk ⟨[(2989,1003,[.dr 25,.dr 7,.dr 24,.dr 23,.dr 19]++oS 22 20++[.dr 5,.dr 18,.dr 17,.dr 10]++oS 16 11++[.dr 0,.dr 1,.tm 9 0,.tm 8 0])],[]⟩ aO2 (aD aDG (aD aLI aL)) fun (x:bB × Int) hx hp=>by
 dsimp only [aB7] at hx hp ⊢
 have hp:tA x.1:=hp
 have hr:=aFH x.1.1 x.1.2.1 x.2
 have hml:List.length x.1.1<=1000000000:=hp.1.1
 have hb:=aYE x.1 x.2
 delta aO2 vB aBO;refine gH ?_
 refine iC ?_
 refine ⟨⟨hp.1,hp.2.1⟩,fun _=>⟨hp,fun _=>?_⟩⟩
 refine fN (fun k=>((aZ x.1.1 x.1.2.1 x.2).1+(k:Int),aEP x.1 x.2+aC6 x.1.1 (aZ x.1.1 x.1.2.1 x.2).1 k)) ((aZ x.1.1 x.1.2.1 x.2).2 - (aZ x.1.1 x.1.2.1 x.2).1).toNat (Prod.ext (Int.add_zero _).symm (Int.add_zero _).symm) fun I μ k hk _ go=>?_
 dsimp only
 refine iC ?_
 constructor
 ·intro hlt
  have hm:=(hr.2.2.2 (by omega)).1
  have hl:=((bR _).1 hm).2.1
  have h1:=aVU hm hr.1 k (by omega)
  have h2:=aWP hm (i:=(aZ x.1.1 x.1.2.1 x.2).1+(k:Int)) (by omega) (by omega)
  have e:aC6 x.1.1 (aZ x.1.1 x.1.2.1 x.2).1 (k+1)=aC6 x.1.1 (aZ x.1.1 x.1.2.1 x.2).1 k+aSR x.1.1 ((aZ x.1.1 x.1.2.1 x.2).1+(k:Int)):=rfl
  rw[show (List.getD x.1.1 ((aZ x.1.1 x.1.2.1 x.2).1+(k:Int)).toNat (aK bQ)).2.1=aSR x.1.1 ((aZ x.1.1 x.1.2.1 x.2).1+(k:Int)) from rfl]
  (repeat' first|intro _|(refine go _ ?_ ?_ ?_)|(refine go _ ?_ ?_)|(with_reducible apply And.intro))
  all_goals first|omega|(refine Prod.ext ?_ ?_ <;> refine @Eq.trans Int _ _ _ ?_ rfl <;> dsimp only <;> omega)|skip
 ·intro hge
  have e:k=((aZ x.1.1 x.1.2.1 x.2).2 - (aZ x.1.1 x.1.2.1 x.2).1).toNat:=by omega
  subst e
  exact Int.add_comm _ _
def aE0:Con:=⟨209,aYA,tI,[.val ⟨true,aH,[]⟩,.val ⟨false,tI,[]⟩],[⟨false,tI,[0]⟩],false,none,
 ((fun x=>tA x.1):(bB × Int)->Prop),
 ((fun x=>tO x.1 x.2):(bB × Int)->(Int))⟩
def aKQ:T:=dE 0 0 <| cG 1 (dE 1 0 <| .ret (lV 2)) <| yA 2 0 2
theorem bAD:Con.Holds Tryz.prog aE0:=tk ⟨[],[]⟩ aKQ (aD aZX (aD aLI (aD aNS aL))) fun (x:bB × Int) hx hp=>by
 dsimp only [aE0] at hx hp ⊢
 delta aKQ aHZ aBO aB7;refine gH ?_
 refine iC ?_
 exact ⟨fun h=>⟨hp,fun _=>bF7 h⟩,fun h=>⟨hp,fun _=>aVZ h⟩⟩
def aOU:Con:=⟨174,(.cD0 aH aQ),tI,[.val ⟨true,aH,[]⟩,.val ⟨false,tI,[]⟩,.val ⟨false,tI,[]⟩],[⟨false,tI,[0]⟩],false,none,
 ((fun x=>tA x.1):(bB × eZ)->Prop),
 ((fun x=>zE x.1 x.2.1 x.2.2):(bB × eZ)->(Int))⟩
def aZO:T:=gG 0 aH aQ 0 <| iS bM (cQ pY 0) 0 <| cE 2 aM <| eM aLE (cQ pY 0) 1 <| cE 3 aM <| iS bM (gK aH aQ 2) 1 <| cE 4 aM <| dY (gK aH aQ 2) 5 <| cE 5 aM <| dY aX 4 <| cE 6 aM <| lW (uD 2 aQ) 2 7 (bX fJ aX (cQ pY 0) <| eM aI0 (gK aH aQ 2) 8 <| cI 1 aH (dT aH aQ) (cQ pY 0) <| cI 2 aH (dT aH aQ) (cQ pY 0) <| kC qR 9 11 <| bX aG7 (lV 10) (gJ 10) <| kC cC 12 13 <| cI 3 aH (dT aH aQ) (cQ pY 0) <| fY 15 (cI 4 aH (dT aH aQ) (cQ pY 0) <| kC cC 14 16 <| cM 17) gW) <| cI 1 aH (dT aH aQ) (cQ pY 0) <| cI 2 aH (dT aH aQ) (cQ pY 0) <| eM qR (gK aH aQ 2) 9 <| bX aG7 (lV 8) (gJ 8) <| kC cC 10 11 <| cI 3 aH (dT aH aQ) (cQ pY 0) <| fY 13 (cI 4 aH (dT aH aQ) (cQ pY 0) <| kC cC 12 14 <| cM 15) kO
theorem bLW:Con.Holds Tryz.prog aOU:=tk ⟨[],[]⟩ aZO (aD aCA (aD aLI (aD bAD (aD aZX (aD aNS aL))))) fun (x:bB × eZ) hx hp=>by
 dsimp only [aOU] at hx hp ⊢
 obtain ⟨c,s,micro⟩:=x
 have hp:tA c:=hp
 have hb:=aYE c s
 delta aZO wK aBO aE0 aHZ aB7;refine gH ?_
 refine iC ?_
 refine ⟨⟨hp.1,hp.2.1⟩,fun _=>⟨fun h=>?_,fun h0=>⟨fun h=>?_,fun h1=>?_⟩⟩⟩
 ·exact aXO (.inl (by rw[aBD (.inr (.inl h))];exact Int.le_refl _))
 ·refine aXO (.inl ?_)
  cases hc:rU c.1 c.2.1
  ·rw[aBD (.inl hc)];exact Int.le_refl _
  ·rw[aHH hc] at h
   rw[aBD (.inr (.inr (by omega)))];exact Int.le_refl _
 have hc:=bT1 h0 h1
 rw[aHH hc] at h1 ⊢
 have hrb:=(aW5 hc h0 (by omega)).2.1
 (repeat' first|intro _|(with_reducible apply And.intro))
 all_goals first|omega|exact hp|exact aXO (by omega)|skip
 all_goals have hq1:=bS0 (k:=min micro ((c.2.1.length:Int)+1 - s)) (v:=tO c s) (by omega) (by omega) (by omega) (by omega)
 all_goals have hq2:=bS0 (k:=micro) (v:=tO c s) (by omega) (by omega) (by omega) (by omega)
 all_goals first|omega|exact aHY hrb (by omega) (by omega) (by omega) (if_pos (by assumption)).symm (if_pos (by assumption)).symm|exact aHY hrb (by omega) (by omega) (by omega) (if_neg (by assumption)).symm (if_pos (by assumption)).symm|exact aBY hrb (by omega) (by omega) (by omega) (if_pos (by assumption)).symm (by assumption)|exact aBY hrb (by omega) (by omega) (by omega) (if_neg (by assumption)).symm (by assumption)|exact aHY hrb (by omega) (by omega) (by omega) (if_pos (by assumption)).symm (if_pos ((aD7 (by omega) (by omega)).symm.trans (by assumption))).symm|exact aHY hrb (by omega) (by omega) (by omega) (if_neg (by assumption)).symm (if_pos ((aD7 (by omega) (by omega)).symm.trans (by assumption))).symm|exact aBY hrb (by omega) (by omega) (by omega) (if_pos (by assumption)).symm ((aD7 (by omega) (by omega)).symm.trans (by assumption))|exact aBY hrb (by omega) (by omega) (by omega) (if_neg (by assumption)).symm ((aD7 (by omega) (by omega)).symm.trans (by assumption))|exact aBY hrb (by omega) (by omega) (by omega) (if_pos (by assumption)).symm (aSG (by omega)).symm|exact aBY hrb (by omega) (by omega) (by omega) (if_neg (by assumption)).symm (aSG (by omega)).symm|skip
def aPZ:Con:=⟨117,aH,.bool,[.val ⟨true,aH,[]⟩],[⟨false,.bool,[0]⟩],false,none,
 ((fun x=>tA x):(bB)->Prop),
 ((fun x=>aA3 x):(bB)->(Bool))⟩
def bB3:T:=cN (aAM aH 4 0) <| cN (cQ aH 0) <| eM eW aX 2 <| eQ 3 <| iN 3 tI (aAM aH 4 0) tI aM <| tE 5 4 6 (bN 3 tI aA (aAM aH 4 0) 5 <| gT bM 7 1 <| eQ 8 <| dY lN 5 <| eQ 9 <| kF iR 1 0 gN) bK
theorem bNY:Con.Holds Tryz.prog aPZ:=tk ⟨[(2988,2005,oS 12 5++[.dr 1,.dr 0,.tm 15 0])],[]⟩ bB3 aL fun (x:bB) hx hp=>by
 dsimp only [aPZ] at hx hp ⊢
 have hp:tA x:=hp
 delta bB3;refine gH ?_
 refine iC ?_
 refine fun _ _=>⟨fun h=>(bP8 (by omega)).symm,fun h _=>?_⟩
 refine xL (fun k=>(k:Int)) (fun k=>(List.take k x.2.2.2.2.1).all (fun n=>decide (1<=n/\n<=5))=true) (List.length x.2.2.2.2.1) rfl rfl fun I μ k hk hG _ go=>?_
 try dsimp only
 refine iC ?_
 constructor
 ·intro hlt
  have hk':k<List.length x.2.2.2.2.1:=by omega
  have e:=xX (fun n:Int=>decide (1<=n/\n<=5)) x.2.2.2.2.1 hk'
  have hl:=hp.2.2.2.1
  simp only[aO hk']
  (repeat' first|intro _|(refine go _ ?_ ?_ ?_)|(refine go _ ?_ ?_)|(with_reducible apply And.intro))
  all_goals first|omega|exact (bOK hk' (by omega)).symm|(rw[e,hG,Bool.true_and];exact decide_eq_true ⟨by omega,by omega⟩)|rfl
 ·intro hge
  exact (bLX (by omega) (aW7 hG (by omega))).symm
def aIH:Con:=⟨118,aYA,.bool,[.val ⟨true,aH,[]⟩,.val ⟨false,tI,[]⟩],[⟨false,.bool,[0]⟩],false,none,
 ((fun x=>tA x.1):(bB × Int)->Prop),
 ((fun x=>wN x.1 x.2):(bB × Int)->(Bool))⟩
def aRV:T:=cN (kG aH 5 aH tI) <| gG 0 aH tI 0 <| eM eW aX 2 <| eQ 3 <| iN 3 tI (kG aH 5 aH tI) tI aM <| tE 5 4 6 (bN 3 tI aA (kG aH 5 aH tI) 5 <| lY 1 pY [pC aH,iR,iD aH 1 0] <| uC 7 8 <| eQ 9 <| dY lN 100000 <| eQ 10 <| kF iR 1 0 iX) bK
theorem bH0:Con.Holds Tryz.prog aIH:=tk ⟨[(2988,2005,oS 13 7++[.dr 0,.tm 16 0])],[]⟩ aRV (aD aCA (aD bLW aL)) fun (x:bB × Int) hx hp=>by
 dsimp only [aIH] at hx hp ⊢
 obtain ⟨c,m⟩:=x
 have hp:tA c:=hp
 delta aRV wK aOU;refine gH ?_
 refine iC ?_
 refine fun _=>⟨⟨hp.1,hp.2.1⟩,fun _=>⟨fun h=>(bU4 h).symm,fun h _=>?_⟩⟩
 refine xL (fun k=>(k:Int)) (fun k=>∀ i,i<k->bKE c m i=true) (List.length c.2.2.2.2.2) rfl (fun i hi=>absurd hi (Nat.not_lt_zero _)) fun I μ k hk hG _ go=>?_
 try dsimp only
 refine iC ?_
 constructor
 ·intro hlt
  have hk':k<List.length c.2.2.2.2.2:=by omega
  have hl:List.length c.2.2.2.2.2<=1000000000:=hp.2.2.2.2
  (repeat' first|intro _|(refine go _ ?_ ?_ ?_)|(refine go _ ?_ ?_)|(with_reducible apply And.intro))
  all_goals first|omega|exact hp|exact (bWP hk' (fun hh=>by have h1:zE c (k:Int) m<=List.getD c.2.2.2.2.2 k (aK tI):=hh.1;have h2:List.getD c.2.2.2.2.2 k (aK tI)<=100000:=hh.2;omega)).symm|exact aET hG (decide_eq_true ⟨by assumption,by assumption⟩) _ (by assumption)|rfl|skip
 ·intro hge
  exact (bZT (by omega) fun i hi=>hG i (by omega)).symm
def aN2:Con:=⟨70,bCL,tI,[.val ⟨true,aH,[]⟩,.val ⟨false,aE,[]⟩],[⟨false,tI,[0]⟩],false,none,
 ((fun x=>tA x.1):(bB × bW)->Prop),
 ((fun x=>cH x.1 x.2):(bB × bW)->(Int))⟩
def bD1:T:=gG 0 aH aE 0 <| dC 1 (pG aB aA bZ aF aH aE 0) 2 3 gF <| dC 2 (.cD2 aB aE (pG aB aA bZ aF aH aE 0) (gK aH aE 1)) 4 5 (dR 2) <| oR aX 0 <| cE 6 (dR 3) <| dY aX 4 <| cE 7 (dR 3) <| wA (oI 2) 1 <| cG 8 (wA (oI 2) 2 <| cE 9 (dR 4) <| bT 4 .bool (oI 3) <| kC eW 10 1 <| cE 11 (dR 5) <| dC 3 (dT aH aE) 12 13 (dR 6) <| bT 77 aF (gK aH aE 1) <| dC 4 (qO aH (dT aH aE) gW) 15 16 (dR 7) <| .ret aM) <| bT 4 .bool (oI 3) <| kC eW 9 1 <| cE 10 (dR 5) <| dC 3 (dT aH aE) 11 12 (dR 6) <| bT 77 aF (gK aH aE 1) <| dC 4 (qO aH (dT aH aE) jC) 14 15 (dR 7) <| .ret aM
theorem bDH:Con.Holds Tryz.prog aN2:=tk ⟨[],[]⟩ bD1 (aD aCA (aD oL (aD aK7 (aD bNY (aD bH0 aL))))) fun (x:bB × bW) hx hp=>by
 dsimp only [aN2] at hx hp ⊢
 obtain ⟨c,b⟩:=x
 have hp:tA c:=hp
 have hs:=bRZ c.1 c.2.1
 delta bD1 wK gB aBP aPZ aIH;refine gH ?_
 (refine iC ?_;try with_reducible exact True.intro)
 (repeat' first|intro _|(with_reducible apply And.intro))
 all_goals first|omega|exact hp|exact hp.1|exact hp.2.1|exact cBG (by assumption)|exact cBV (by assumption) (by assumption)|exact bYJ (by assumption) (by assumption) (by omega)|exact bZF (by assumption) (by assumption) (by omega) (by omega)|exact cB4 (by assumption) (by assumption) (by omega) (by omega) (by assumption)|exact bXQ (by assumption) (by assumption) (by omega) (by omega) (by assumption) (by assumption)|exact bZ1 (by assumption) (by assumption) (by omega) (by omega) (by assumption) (by assumption) (by assumption)|exact cAZ (by assumption) (by assumption) (by omega) (by omega) (by assumption) (by assumption) (by assumption)|skip
def aAY:Con:=⟨160,aYA,tI,[.val ⟨true,aH,[]⟩,.val ⟨false,tI,[]⟩],[⟨false,tI,[0]⟩],false,none,
 ((fun x=>tA x.1):(bB × Int)->Prop),
 ((fun x=>aE2 x.1 x.2):(bB × Int)->(Int))⟩
def aNG:T:=uH 0 aA tI [pG aB aA bZ aF aH tI 0,uD 1 tI,iD aH 1 0] <| .loop aQ (rB tI (lV 1) aM) <| bX bM (lV 2) (gJ 1) <| cG 3 (cR 98 bQ aB (pG aB aA bZ aF aH tI 0) tI 2 <| bX cC (gJ 2) (rM 4) <| fE tI 2 1 0 tI 6 5) <| bX (vW .gtr) (gJ 1) (lV 1) <| fY 4 (iA (gJ 1) 1 <| bN 98 bQ aB (pG aB aA bZ aF aH tI 0) 5 <| tL cC (gJ 2) 6 <| cM 7) (gJ 2)
theorem aOC:Con.Holds Tryz.prog aAY:=tk ⟨[(2989,1002,oS 18 16++[.dr 9]++oS 15 10++[.dr 0,.dr 1,.tm 8 0,.tm 7 0])],[]⟩ aNG (aD zG aL) fun (x:bB × Int) hx hp=>by
 dsimp only [aAY] at hx hp ⊢
 have hp:tA x.1:=hp
 have hr:=aFH x.1.1 x.1.2.1 x.2
 have hml:List.length x.1.1<=1000000000:=hp.1.1
 have hb:=aYE x.1 x.2
 delta aNG sC;refine gH ?_
 refine iC ?_
 refine ⟨⟨hp.1,hp.2.1⟩,fun _=>?_⟩
 refine fN (fun k=>((aZ x.1.1 x.1.2.1 x.2).1+(k:Int),aC6 x.1.1 (aZ x.1.1 x.1.2.1 x.2).1 k)) ((aZ x.1.1 x.1.2.1 x.2).2 - (aZ x.1.1 x.1.2.1 x.2).1).toNat (Prod.ext (Int.add_zero _).symm rfl) fun I μ k hk _ go=>?_
 dsimp only
 refine iC ?_
 constructor
 ·intro hlt
  have hm:=(hr.2.2.2 (by omega)).1
  have hl:=((bR _).1 hm).2.1
  have h1:=aVU hm hr.1 k (by omega)
  have h2:=aWP hm (i:=(aZ x.1.1 x.1.2.1 x.2).1+(k:Int)) (by omega) (by omega)
  have e:aC6 x.1.1 (aZ x.1.1 x.1.2.1 x.2).1 (k+1)=aC6 x.1.1 (aZ x.1.1 x.1.2.1 x.2).1 k+aSR x.1.1 ((aZ x.1.1 x.1.2.1 x.2).1+(k:Int)):=rfl
  rw[show (List.getD x.1.1 ((aZ x.1.1 x.1.2.1 x.2).1+(k:Int)).toNat (aK bQ)).2.1=aSR x.1.1 ((aZ x.1.1 x.1.2.1 x.2).1+(k:Int)) from rfl]
  (repeat' first|intro _|(refine go _ ?_ ?_ ?_)|(refine go _ ?_ ?_)|(with_reducible apply And.intro))
  all_goals first|omega|(refine Prod.ext ?_ ?_ <;> refine @Eq.trans Int _ _ _ ?_ rfl <;> dsimp only <;> omega)|skip
 ·intro hge
  have e:k=((aZ x.1.1 x.1.2.1 x.2).2 - (aZ x.1.1 x.1.2.1 x.2).1).toNat:=by omega
  subst e
  have e9:aE2 x.1 x.2=aC6 x.1.1 (aZ x.1.1 x.1.2.1 x.2).1 ((aZ x.1.1 x.1.2.1 x.2).2 - (aZ x.1.1 x.1.2.1 x.2).1).toNat+aEP x.1 x.2:=rfl
  rw[show (List.getD x.1.1 ((aZ x.1.1 x.1.2.1 x.2).2 - 1).toNat (aK bQ)).2.2.1=aQW x.1.1 ((aZ x.1.1 x.1.2.1 x.2).2 - 1) from rfl]
  by_cases hq:(aZ x.1.1 x.1.2.1 x.2).1<(aZ x.1.1 x.1.2.1 x.2).2
  ·have e8:aEP x.1 x.2=aQW x.1.1 ((aZ x.1.1 x.1.2.1 x.2).2 - 1):=if_pos hq
   rw[<- e8]
   (repeat' first|intro _|(with_reducible apply And.intro))
   all_goals first|omega|exact e9.symm|skip
  ·have e8:aEP x.1 x.2=0:=if_neg hq
   (repeat' first|intro _|(with_reducible apply And.intro))
   all_goals first|omega|(rw[e9,e8,Int.add_zero])|skip
def aD5:Con:=⟨159,aYA,tI,[.val ⟨true,aH,[]⟩,.val ⟨false,tI,[]⟩],[⟨false,tI,[0]⟩],false,none,
 ((fun x=>tA x.1):(bB × Int)->Prop),
 ((fun x=>tO x.1 x.2):(bB × Int)->(Int))⟩
def aLY:T:=uH 0 aA tI [pG aB aA bZ aF aH tI 0,uD 1 tI,iD aH 1 0] <| bX (vW .gtr) (gJ 1) (lV 1) <| cG 2 (bT 4 .bool (uD 3 tI) <| eM bM (iD aH 1 0) 3 <| cG 4 (dP 4 .bool bZ (uD 3 tI) (iD aH 1 0) <| cG 5 (cR 98 bQ aB (pG aB aA bZ aF aH tI 0) tI 1 <| .ret (rM 6)) <| yA 1 0 6) <| yA 1 0 5) <| yA 1 0 3
theorem aXG:Con.Holds Tryz.prog aD5:=tk ⟨[],[]⟩ aLY (aD zG (aD aOC aL)) fun (x:bB × Int) hx hp=>by
 dsimp only [aD5] at hx hp ⊢
 have hp:tA x.1:=hp
 have hr:=aFH x.1.1 x.1.2.1 x.2
 have hml:List.length x.1.1<=1000000000:=hp.1.1
 have red:aBB x.1 x.2=true\/aBB x.1 x.2=false:=by cases aBB x.1 x.2 <;> simp
 have none_:(aZ x.1.1 x.1.2.1 x.2).2<=(aZ x.1.1 x.1.2.1 x.2).1->aE2 x.1 x.2=tO x.1 x.2:=fun h=>by
  have e0:=bPF (c:=x.1) (s:=x.2) (by omega)
  rcases red with h1|h1
  ·rw[<- bF7 h1]
   have e1:inF x.1 x.2=0:=(congrArg Prod.fst e0).symm
   have e2:aEP x.1 x.2=0:=(congrArg Prod.snd e0).symm
   unfold aE2
   rw[e1,e2,show ((aZ x.1.1 x.1.2.1 x.2).2 - (aZ x.1.1 x.1.2.1 x.2).1).toNat=0 by omega];rfl
  ·exact aVZ h1
 have redo_t:(aZ x.1.1 x.1.2.1 x.2).1<(aZ x.1.1 x.1.2.1 x.2).2->aBB x.1 x.2=true->aSR x.1.1 (aZ x.1.1 x.1.2.1 x.2).1=tO x.1 x.2:=fun h h1=>by
  rw[<- bF7 h1];exact congrArg Prod.fst (bQS h)
 delta aLY sC aAY;refine gH ?_
 refine iC ?_
 refine ⟨⟨hp.1,hp.2.1⟩,fun _=>⟨fun hlt _=>?_,fun h=>⟨hp,fun _=>none_ h⟩⟩⟩
 have h0:=(hr.2.2.2 hlt).2.2.1
 refine ⟨fun hl=>⟨by omega,fun h=>⟨by omega,fun _=>?_⟩,fun h=>⟨hp,fun _=>?_⟩⟩,fun h=>⟨hp,fun _=>aVZ (aSG (.inr h)).symm⟩⟩
 ·exact redo_t hlt ((aD7 h0 hl).symm.trans h)
 ·exact aVZ ((aD7 h0 hl).symm.trans h)
def aAE:Con:=⟨105,(.cD0 aH aQ),tI,[.val ⟨true,aH,[]⟩,.val ⟨false,tI,[]⟩,.val ⟨false,tI,[]⟩],[⟨false,tI,[0]⟩],false,none,
 ((fun x=>tA x.1):(bB × eZ)->Prop),
 ((fun x=>zE x.1 x.2.1 x.2.2):(bB × eZ)->(Int))⟩
def bAZ:T:=uH 0 aA tI [pG aB aA bZ aF aH aQ 0,uD 1 aQ,cQ pY 0] <| bX (vW .leq) (gJ 1) (lV 1) <| cE 2 aM <| kS 1 aQ (iO (gK aH aQ 2) gF 5) 3 4 aM <| cN (uD 1 aQ) <| gT cC 5 1 <| kS 1 aQ (iO fB gF 4) 7 8 aM <| lW (uD 2 aQ) 2 9 (cN (uD 1 aQ) <| gT cC 10 1 <| bX fJ iX (cQ pY 0) <| eM aI0 (gK aH aQ 2) 12 <| iA (gJ 1) 1 <| cR 98 bQ aB (pG aB aA bZ aF aH aQ 0) tI 1 <| bN 98 bQ aB (pG aB aA bZ aF aH aQ 0) 14 <| tL aG7 (rM 15) 16 <| cI 2 aH (dT aH aQ) (cQ pY 0) <| kC qR 13 18 <| kC cC 19 17 <| bT 4 .bool (uD 3 aQ) <| kR bM (cQ pY 0) 21 22 (dP 4 .bool bZ (uD 3 aQ) (cQ pY 0) <| fY 23 (cI 3 aH (dT aH aQ) (cQ pY 0) <| kC cC 20 24 <| cM 25) sG) sG) <| iA (gJ 1) 1 <| cR 98 bQ aB (pG aB aA bZ aF aH aQ 0) tI 1 <| bN 98 bQ aB (pG aB aA bZ aF aH aQ 0) 10 <| tL aG7 (rM 11) 12 <| cI 2 aH (dT aH aQ) (cQ pY 0) <| eM qR (gK aH aQ 2) 14 <| kC cC 15 13 <| bT 4 .bool (uD 3 aQ) <| kR bM (cQ pY 0) 17 18 (dP 4 .bool bZ (uD 3 aQ) (cQ pY 0) <| fY 19 (cI 3 aH (dT aH aQ) (cQ pY 0) <| kC cC 16 20 <| cM 21) kT) kT
theorem aYQ:Con.Holds Tryz.prog aAE:=tk ⟨[],[]⟩ bAZ (aD zG (aD mC (aD aXG (aD aOC aL)))) fun (x:bB × eZ) hx hp=>by
 dsimp only [aAE] at hx hp ⊢
 obtain ⟨c,s,micro⟩:=x
 have hp:tA c:=hp
 have hb:=aYE c s
 have hr:=aFH c.1 c.2.1 s
 have hml:List.length c.1<=1000000000:=hp.1.1
 delta bAZ sC kY aD5 aAY;refine gH ?_
 refine iC ?_
 refine ⟨⟨hp.1,hp.2.1⟩,fun _=>⟨fun h=>aXO (.inl h),fun hrb=>?_⟩⟩
 have h0:=(hr.2.2.2 hrb).2.2
 have hl:=hp.2.1
 have hrl:=hp.2.2.1
 have e1:inF c s=aSR c.1 (aZ c.1 c.2.1 s).1:=if_pos hrb
 have e2:aEP c s=aQW c.1 ((aZ c.1 c.2.1 s).2 - 1):=if_pos hrb
 rw[show (List.getD c.1 (Int.toNat (aZ c.1 c.2.1 s).1) (aK bQ)).2.1=inF c s from e1.symm,show (List.getD c.1 ((aZ c.1 c.2.1 s).2 - 1).toNat (aK bQ)).2.2.1=aEP c s from e2.symm]
 (repeat' first|intro _|(with_reducible apply And.intro))
 all_goals first|omega|exact hp|exact aXO (by omega)|skip
 all_goals have hq1:=bS0 (k:=min micro ((c.2.1.length:Int)+1 - s)) (v:=tO c s) (by omega) (by omega) (by omega) (by omega)
 all_goals have hq2:=bS0 (k:=micro) (v:=tO c s) (by omega) (by omega) (by omega) (by omega)
 all_goals first|omega|exact aHY hrb (by omega) (by omega) (by omega) (if_pos (by assumption)).symm (if_pos (by assumption)).symm|exact aHY hrb (by omega) (by omega) (by omega) (if_neg (by assumption)).symm (if_pos (by assumption)).symm|exact aBY hrb (by omega) (by omega) (by omega) (if_pos (by assumption)).symm (by assumption)|exact aBY hrb (by omega) (by omega) (by omega) (if_neg (by assumption)).symm (by assumption)|exact aHY hrb (by omega) (by omega) (by omega) (if_pos (by assumption)).symm (if_pos ((aD7 (by omega) (by omega)).symm.trans (by assumption))).symm|exact aHY hrb (by omega) (by omega) (by omega) (if_neg (by assumption)).symm (if_pos ((aD7 (by omega) (by omega)).symm.trans (by assumption))).symm|exact aBY hrb (by omega) (by omega) (by omega) (if_pos (by assumption)).symm ((aD7 (by omega) (by omega)).symm.trans (by assumption))|exact aBY hrb (by omega) (by omega) (by omega) (if_neg (by assumption)).symm ((aD7 (by omega) (by omega)).symm.trans (by assumption))|exact aBY hrb (by omega) (by omega) (by omega) (if_pos (by assumption)).symm (aSG (by omega)).symm|exact aBY hrb (by omega) (by omega) (by omega) (if_neg (by assumption)).symm (aSG (by omega)).symm|skip
def aMP:Con:=⟨63,bCL,tI,[.val ⟨true,aH,[]⟩,.val ⟨false,aE,[]⟩],[⟨false,tI,[0]⟩],false,none,
 ((fun x=>tA x.1):(bB × bW)->Prop),
 ((fun x=>cH x.1 x.2):(bB × bW)->(Int))⟩
def bE8:T:=dC 0 (pG aB aA bZ aF aH aE 0) 1 2 gF <| dC 1 (.cD2 aB aE (pG aB aA bZ aF aH aE 0) (gK aH aE 1)) 3 4 (dR 2) <| dC 2 (.cD2 aB aA (pG aB aA bZ aF aH aE 0) (oI 1)) 5 6 (dR 3) <| cN (oI 1) <| gT cC 7 1 <| dY gP 4 <| cE 9 (dR 3) <| kS 3 aQ (iO (oI 2) gF 2) 10 11 (dR 4) <| bT 4 .bool (oI 3) <| cN (oI 1) <| gT cC 13 1 <| kC eW 12 14 <| cE 15 (dR 5) <| cN (oI 4) <| cN (oI 1) <| kC eW 16 17 <| cE 18 (dR 6) <| dX tI aM 3 tI (oI 4) <| uC 19 20 <| cG 21 (bN 3 tI aA (oI 4) 19 <| kS 3 aQ (iO tP gF 5) 23 24 (dR 6) <| rR pK 1 0 25) <| cN (kG aH 5 aH aE) <| cN (oI 1) <| gT cC 23 1 <| kC eW 22 24 <| cE 25 (dR 7) <| dX tI aM 3 tI (kG aH 5 aH aE) <| tE 26 27 28 (bN 3 tI aA (kG aH 5 aH aE) 26 <| bT 77 aF (gK aH aE 1) <| lY 4 pY (eE (dT aH aE) sM 30) <| kS 3 aQ (iO aAD (.Z 31) 100000) 32 33 (dR 7) <| rR sM 1 0 34) aM
theorem bCE:Con.Holds Tryz.prog aMP:=tk ⟨[(2963,128019,oS 47 7++[.dr 0,.tm 5 0]),(2948,512026,oS 69 62++oS 52 48++[.dr 5,.tm 6 0])],[]⟩ bE8 (aD rH (aD aF0 (aD aOF (aD mC (aD aYQ aL))))) fun (x:bB × bW) hx hp=>by
 dsimp only [aMP] at hx hp ⊢
 obtain ⟨c,b⟩:=x
 have hp:tA c:=hp
 have hl1:=hp.2.1
 have hl2:=hp.2.2.1
 have hl3:=hp.2.2.2.1
 have hl4:List.length c.2.2.2.2.2<=1000000000:=hp.2.2.2.2
 delta bE8 oG yN aDK kY aAE;refine gH ?_
 refine iC ?_
 refine ⟨fun h=>cBG h,fun h1=>⟨fun h=>cBV h1 h,fun h2=>⟨⟨hp.1,hp.2.1⟩,fun h=>bYJ h1 h2 (.inl (aXD h)),fun hc _=>⟨by omega,fun _=>⟨fun h=>bYJ h1 h2 (.inr (by rw[aHH hc];exact h)),fun h3=>?_⟩⟩⟩⟩⟩
 have hst:=aHH hc
 have h3':¬ (bP c.1 c.2.1=0\/4<bP c.1 c.2.1):=by omega
 refine ⟨fun h=>bZF h1 h2 h3' (by omega),fun h4 _ _=>⟨by omega,fun _=>⟨fun h=>cB4 h1 h2 h3' (by omega) (by omega),fun h5=>?_⟩⟩⟩
 have h4':c.2.2.1=1\/c.2.2.1=2:=by omega
 have h5':(c.2.2.2.1.length:Int)=bP c.1 c.2.1:=by omega
 refine fun _ _=>⟨fun h=>bXQ h1 h2 h3' h4' h5' (bP8 (by omega)),fun h6=>?_⟩
 refine xL (fun k=>(k:Int)) (fun k=>(List.take k c.2.2.2.2.1).all (fun n=>decide (1<=n/\n<=5))=true) (List.length c.2.2.2.2.1) rfl rfl fun I μ k hk hG _ go=>?_
 try dsimp only
 refine iC ?_
 intro _
 constructor
 ·intro hlt
  have hk':k<List.length c.2.2.2.2.1:=by omega
  have e:=xX (fun n:Int=>decide (1<=n/\n<=5)) c.2.2.2.2.1 hk'
  simp only[aO hk']
  (repeat' first|intro _|(refine go _ ?_ ?_ ?_)|(refine go _ ?_ ?_)|(with_reducible apply And.intro))
  all_goals first|omega|exact bXQ h1 h2 h3' h4' h5' (bOK hk' (by omega))|(rw[e,hG,Bool.true_and];exact decide_eq_true ⟨by omega,by omega⟩)|rfl
 intro hge
 have h6':aA3 c=true:=bLX (by omega) (aW7 hG (by omega))
 clear go hG
 refine fun _ _=>⟨by omega,fun _=>⟨fun h=>bZ1 h1 h2 h3' h4' h5' h6' (bU4 (by omega)),fun h7=>?_⟩⟩
 refine xL (fun k=>(k:Int)) (fun k=>∀ i,i<k->bKE c (b.length:Int) i=true) (List.length c.2.2.2.2.2) rfl (fun i hi=>absurd hi (Nat.not_lt_zero _)) fun I μ k hk hG _ go=>?_
 try dsimp only
 refine iC ?_
 intro _
 constructor
 ·intro hlt
  have hk':k<List.length c.2.2.2.2.2:=by omega
  (repeat' first|intro _|(refine go _ ?_ ?_ ?_)|(refine go _ ?_ ?_)|(with_reducible apply And.intro))
  all_goals first|omega|exact hp|exact bZ1 h1 h2 h3' h4' h5' h6' (bWP hk' (fun hh=>by have h1:zE c (k:Int) (b.length:Int)<=List.getD c.2.2.2.2.2 k (aK tI):=hh.1;have h2:List.getD c.2.2.2.2.2 k (aK tI)<=100000:=hh.2;omega))|exact aET hG (decide_eq_true (by assumption)) _ (by assumption)|exact aET hG (decide_eq_true ⟨by omega,by omega⟩) _ (by assumption)|rfl|skip
 ·intro hge
  exact cAZ h1 h2 h3' h4' h5' h6' (bZT (by omega) fun i hi=>hG i (by omega))
end
theorem bP0 {o:dU} (h:opB o=true) (k:Nat) (hk:k<o.2.2.2.length):mK (o.2.2.2.getD k 0)=true:=by
 rw[aO hk]
 exact List.all_eq_true.1 ((lQ o).1 h).2 _ (List.getElem_mem hk)
theorem cBN (x:Int):mK (lD x)=true:=(aBA _).2 (qS x)
theorem aFI (x:Int):mK (aTL x).1=true:=cBN x
theorem bU3 (a b:List Int):(k:Nat)->mK (aQ4 a b k).1=true
 | 0=>by show mK 0=true;decide
 | k+1=>aFI _
theorem bUG (a b:List Int):mK (nW a b).1=true:=by
 unfold nW;split
 ·exact bU3 _ _ _
 ·show mK 0=true;decide
theorem aFC {n:Nat} {z:Int} {g:Nat->Int} (h1:1<=n) (h6:n<=6) (hz:(n:Int)=z) (h:∀ i,mK (g i)=true):dJ (mp n g) z=true:=by
 refine (cP _ _).2 ⟨(eC _).2 ⟨by rw[eX];exact h1,by rw[eX];exact h6,List.all_eq_true.2 fun v hv=>?_⟩,by rw[eX];exact hz⟩
 obtain ⟨i,_,rfl⟩:=List.mem_map.1 (show v∈(List.range n).map g from hv)
 exact h i
theorem bON {o:dU} (h:opB o=true) (hk:o.1=1\/o.1=5):aNB (aFT o)=true:=by
 obtain ⟨⟨h1,h2,h3,h4,h5,h6,h7,h8⟩,h9⟩:=(lQ o).1 h
 refine (vP _).2 ⟨⟨h5,h6,h3,h4,?_⟩,h9⟩
 show (o.2.2.2.length:Int)=o.2.2.1 * o.2.1
 rw[h8];unfold lM
 rw[if_neg (by omega),if_pos hk,Int.mul_comm]
theorem bYF (x:Int):mK (bA4 x)=true:=(aBA _).2 (by have:=qS x;unfold bA4;omega)
theorem cAA {o:dU} {x:List Int} (h:opB o=true) (hx:dJ x o.2.1=true):dJ (sX o x).1 o.2.2.1=true:=by
 obtain ⟨⟨h1,h2,h3,h4,h5,h6,h7,h8⟩,h9⟩:=(lQ o).1 h
 obtain ⟨x1,x2⟩:=(cP x _).1 hx
 obtain ⟨x3,x4,x5⟩:=(eC x).1 x1
 have hmv:o.1=1\/o.1=5->dJ (tQ (aFT o) x).1 o.2.2.1=true:=fun hk=>by
  unfold tQ
  rw[if_pos ⟨bON h hk,hx⟩]
  exact aFC (by show 1<=o.2.2.1.toNat;omega) (by show o.2.2.1.toNat<=6;omega) (by show (o.2.2.1.toNat:Int)=o.2.2.1;omega) fun i=>bUG _ _
 have hva:∀ b,o.2.1=o.2.2.1->dJ b o.2.1=true->dJ (qE gI x b).1 o.2.2.1=true:=fun b he hb=>by
  unfold qE
  rw[if_pos ((aMZ _ _).2 ⟨x1,by rw[x2];exact hb⟩)]
  exact aFC x3 x4 (by rw[x2,he]) fun i=>aFI _
 unfold sX
 rw[if_neg (fun hn=>hn ⟨h,hx⟩)]
 split
 ·rename_i hk;exact hmv (.inl hk)
 ·rename_i hk1
  have he:=h7 hk1
  split
  ·rename_i hk
   refine hva _ he ((cP _ _).2 ⟨(eC _).2 ?_,?_⟩)
   ·have hl:(o.2.2.2.length:Int)=o.2.1:=by rw[h8];unfold lM;rw[if_neg (by omega),if_neg (by omega),if_pos hk]
    exact ⟨by omega,by omega,h9⟩
   ·rw[h8];unfold lM;rw[if_neg (by omega),if_neg (by omega),if_pos hk]
  ·split
   ·rename_i hk
    unfold aED
    have hl:o.2.2.2.length=1:=by
     have:(o.2.2.2.length:Int)=1:=by rw[h8];unfold lM;rw[if_neg (by omega),if_neg (by omega),if_neg (by omega),if_pos hk]
     omega
    rw[if_pos ⟨bP0 h 0 (by omega),x1⟩]
    exact aFC x3 x4 (by rw[x2,he]) fun i=>aFI _
   ·split
    ·rename_i hk
     exact hva _ he (by rw[he];exact hmv (.inr hk))
    ·unfold aB4
     rw[if_pos x1]
     exact aFC x3 x4 (by rw[x2,he]) fun i=>bYF _
def uT (m:List dU) (x:List Int):Nat->List Int
 | 0=>x
 | k+1=>(sX (m.getD k nO) (uT m x k)).1
theorem aFB (m : List dU) (x : List Int) : (k i : Nat) -> i <= k -> (jD m x k).1.getD i [] = uT m x i
  | 0, i, h => by obtain rfl : i = 0 := by omega
                  rfl
  | k + 1, i, h => by
    have hl := tR m x k
    show ((jD m x k).1 ++ [(sX (m.getD k nO) ((jD m x k).1.getD k [])).1]).getD i [] = _
    rcases Nat.lt_or_ge i (k + 1) with hi | hi
    · rw [List.getD_eq_getElem?_getD, List.getElem?_append_left (by omega), <- List.getD_eq_getElem?_getD]
      exact aFB m x k i (by omega)
    · obtain rfl : i = k + 1 := by omega
      rw [List.getD_eq_getElem?_getD, List.getElem?_append_right (by omega), hl, Nat.sub_self]
      show (sX (m.getD k nO) ((jD m x k).1.getD k [])).1 = _
      rw [aFB m x k k (Nat.le_refl _)]; rfl
theorem bMY {m:List dU} {x:List Int} (hm:bY m=true) (hx:dJ x (jP m)=true):(k:Nat)->k<m.length->dJ (uT m x k) (m.getD k nO).2.1=true/\dJ (uT m x (k+1)) (m.getD k nO).2.2.1=true
 | 0,h=>by
  have h1:=(bR m).1 hm
  have ho:opB (m.getD 0 nO)=true:=by rw[aO h];exact ((uY m h).1 (h1.2.2 0 h)).1
  have h2:dJ x (m.getD 0 nO).2.1=true:=by unfold jP at hx;rwa [if_pos hm] at hx
  exact ⟨h2,cAA ho h2⟩
 | k+1,h=>by
  have h1:=(bR m).1 hm
  obtain ⟨g1,g2⟩:=(uY m h).1 (h1.2.2 (k+1) h)
  have hk:=(bMY hm hx k (by omega)).2
  have e:(m.getD k nO).2.2.1=(m.getD (k+1) nO).2.1:=by
   have:=g2.resolve_left (by omega)
   rw[aO (show k<m.length by omega),aO h]
   simpa using this
  rw[e] at hk
  exact ⟨hk,cAA (by rw[aO h];exact g1) hk⟩
end Go.Proofs.YtlhaoiaieiladaaGreat
