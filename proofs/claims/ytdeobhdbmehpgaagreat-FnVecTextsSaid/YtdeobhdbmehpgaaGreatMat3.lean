/- Mat3: lemmas. No conditions. -/
import Derived.Test.YtdeobhdbmehpgaaGreatLin2
namespace Go.Proofs.YtdeobhdbmehpgaaGreat
noncomputable section
set_option maxRecDepth 100000
open Go.ChangeShapes Go.WideShapes Go.ChangeAt Go.RowKit Go.Deep
set_option linter.unusedVariables false
set_option linter.unusedSimpArgs false
abbrev aE9:=Int × (Int × List Int)
def aC2 (m:aE9):Bool:=decide (1≤m.1∧m.1≤6∧1≤m.2.1∧m.2.1≤6∧(m.2.2.length:Int)=m.1 * m.2.1)&&m.2.2.all fZ
theorem rS (m:aE9):aC2 m=true↔(1≤m.1∧m.1≤6∧1≤m.2.1∧m.2.1≤6∧(m.2.2.length:Int)=m.1 * m.2.1)∧m.2.2.all fZ=true:=by unfold aC2;simp only[Bool.and_eq_true,decide_eq_true_eq]
def aDO (m:aE9) (i:Nat):List Int:=(m.2.2.take ((i+1) * m.2.1.toNat)).drop (i * m.2.1.toNat)
def aIS (m:aE9) (k:Nat):List Int:=mp m.1.toNat fun i=>m.2.2.getD (i * m.2.1.toNat+k) 0
def nN (m:aE9) (x:List Int):List Int × Bool:=if aC2 m=true∧eG x m.2.1=true then (mp m.1.toNat fun r=>(fX (aDO m r) x).1,an m.1.toNat fun r=>(fX (aDO m r) x).2) else ([],false)
def jE (m:aE9) (d:List Int):List Int × Bool:=if aC2 m=true∧eG d m.1=true then (mp m.2.1.toNat fun k=>(fX (aIS m k) d).1,an m.2.1.toNat fun k=>(fX (aIS m k) d).2) else ([],false)
def bEI:aE9:=(0,0,[])
def aHX (f:Nat→List Int):Nat→List Int
 | 0=>[]
 | n+1=>aHX f n++f n
def aD5 (d x:List Int) (i:Nat):List Int:=mp x.length fun j=>(gH (d.getD i 0) (x.getD j 0)).1
def aQA (d x:List Int) (i:Nat):Bool:=an x.length fun j=>(gH (d.getD i 0) (x.getD j 0)).2
def wG (d x:List Int):aE9 × Bool:=if kH d=true∧kH x=true then (((d.length:Int),(x.length:Int),aHX (aD5 d x) d.length),an d.length (aQA d x)) else (bEI,false)
def uQ (o:dR):aE9:=(o.2.2.1,o.2.1,o.2.2.2)
def vM (o:dR) (x:List Int):List Int × Bool:=if ¬ (opB o=true∧eG x o.2.1=true) then ([],false) else
 if o.1=1 then nN (uQ o) x else if o.1=2 then kI dP x o.2.2.2 else if o.1=4 then yN (o.2.2.2.getD 0 0) x else
 if o.1=5 then ((kI dP x (nN (uQ o) x).1).1,(nN (uQ o) x).2 || (kI dP x (nN (uQ o) x).1).2) else (sY x,false)
def kO (o:dR) (x d:List Int):List Int × (List Int × Bool):=if ¬ (opB o=true∧eG x o.2.1=true∧eG d o.2.2.1=true) then ([],[],false) else
 if o.1=1 then ((jE (uQ o) d).1,(wG d x).1.2.2,(jE (uQ o) d).2 || (wG d x).2) else
 if o.1=2 then (d,d,false) else
 if o.1=4 then ((yN (o.2.2.2.getD 0 0) d).1,[(fX d x).1],(yN (o.2.2.2.getD 0 0) d).2 || (fX d x).2) else
 if o.1=5 then ((kI dP d (jE (uQ o) d).1).1,(wG d x).1.2.2,(jE (uQ o) d).2 || (kI dP d (jE (uQ o) d).1).2 || (wG d x).2) else
 (tU x d,[],false)
theorem oN {m:aE9} (h:aC2 m=true):∃ (R C:Nat) (data:List Int),m=((R:Int),(C:Int),data)∧1≤R∧R≤6∧1≤C∧C≤6∧data.length=R * C∧R * C≤36∧data.all fZ=true:=by
 obtain ⟨a,b,data⟩:=m
 obtain ⟨⟨h1,h2,h3,h4,h5⟩,h6⟩:=(rS _).1 h
 dsimp only at h1 h2 h3 h4 h5 h6
 refine ⟨a.toNat,b.toNat,data,?_,by omega,by omega,by omega,by omega,?_,Nat.le_trans (Nat.mul_le_mul (show a.toNat≤6 by omega) (show b.toNat≤6 by omega)) (by decide),h6⟩
 ·rw[Int.toNat_of_nonneg (by omega),Int.toNat_of_nonneg (by omega)]
 ·have:((a.toNat * b.toNat:Nat):Int)=a * b:=by rw[Int.natCast_mul,Int.toNat_of_nonneg (by omega),Int.toNat_of_nonneg (by omega)]
  omega
theorem aYG {R C k:Nat} (h:k<R):k * C+C≤R * C:=by
 have:=Nat.mul_le_mul_right C (show k+1≤R from h)
 rwa [Nat.succ_mul] at this
theorem aXO (R C k p:Nat) (data:List Int) (e:p=k * C):aDO ((R:Int),(C:Int),data) k=(data.take (p+C)).drop p:=by
 unfold aDO;simp only[Int.toNat_natCast,Nat.succ_mul,← e]
theorem aH3 {f:Nat→List Int} {L:Nat} (h:∀ i,(f i).length=L):(n:Nat)→(aHX f n).length=n * L
 | 0=>by simp[aHX]
 | n+1=>by rw[aHX,List.length_append,aH3 h n,h,Nat.succ_mul]
theorem aT6 {o:dR} (h:opB o=true) (h4:o.1=4):o.2.2.2.length=1:=by
 have:=((gA o).1 h).1
 have e:=aGG (o:=o) (by omega)
 omega
def kD:Con:=⟨193,(.bEL tI aK),.bool,[.val ⟨true,(.bEL tI aK),[]⟩],[⟨false,.bool,[0]⟩],false,none,
 ((fun _=>True):(Int × iZ)→Prop),
 ((fun x=>aC2 x):(Int × iZ)→(Bool))⟩
def aCY:T:=.call 0 (aY (.bEL tI aD) [(.p1 tI aK (.Z 0)),(.ci .i64 1),(.ci .i64 6)]) <|
 .bEM .not (.Z 1) <|
 .ite (.Z 2) (
  .ret (.cb false)) (
  .call 0 (aY (.bEL tI aD) [(aI (.bEL tI aK) 1 (.Z 0)),(.ci .i64 1),(.ci .i64 6)]) <|
  .bEM .not (.Z 3) <|
  .ite (.Z 4) (
   .ret (.cb false)) (
   .bEM (.bEP 3 tI) (aN (.bEL tI aK) 2 (.Z 0)) <|
   .bEM (.ar .mul .i64) (.bEN tI tI (.p1 tI aK (.Z 0)) (aI (.bEL tI aK) 1 (.Z 0))) <|
   .bEM (.cmp .neq .i64) (.bEN tI tI (.Z 5) (.Z 6)) <|
   .ite (.Z 7) (
    .ret (.cb false)) (
    .loop tI (.ci .i64 0) <|
     .bEM (.bEP 3 tI) (aN (.bEL tI aK) 2 (.Z 0)) <|
     .bEM (.cmp .lss .i64) (.bEN tI tI (.Z 8) (.Z 9)) <|
     .ite (.Z 10) (
      .bEM (.bEQ 3 tI) (.bEN aA tI (aN (.bEL tI aK) 2 (.Z 0)) (.Z 8)) <|
      .call 1 (.Z 11) <|
      .bEM .not (.Z 12) <|
      .ite (.Z 13) (
       .ret (.cb false)) (
       .bEM (.ar .add .i64) (.bEN tI tI (.Z 8) (.ci .i64 1)) <|
       .bEO 0 (.Z 14))) (
      .ret (.cb true)))))
theorem aX6:bJ Tryz.prog [bM,eS] kD false 3000 ⟨[(2988,8008,jT 24 4++[.dr 0,.tm 3 0])],[]⟩ = .ok aCY:=by kernel_rfl
theorem aX1 (x:Int × iZ) (hx:okD (.bEL tI aK) x) (hp:(fun _=>True) x):aCY.wp [bM,eS] [⟨(.bEL tI aK),x⟩] [] (fun v=>v.as .bool=(fun x=>aC2 x) x):=by
 have hm:List.length x.2.2≤9223372036854775807:=hx.2.2.1
 delta aCY bM eS;refine eE ?_
 simp only[sS,aBZ,aCO]
 (repeat' first|intro _|(with_reducible apply And.intro))
 all_goals first|(first|(refine (Bool.eq_false_iff.2 ?_).symm;rw[ne_eq,rS];intro hh;omega)|(refine (rS.2 ?_).symm;omega))|(have:=aOR (a:=x.1) (b:=x.2.1) (by omega) (by omega) (by omega) (by omega);omega)|(refine (Bool.eq_false_iff.2 fun h=>?_).symm;rw[rS] at h;exact absurd h.1.2.2.2.2 (by assumption))|skip
 refine aNT (fun k=>(k:Int)) (fun k=>(List.take k x.2.2).all fZ=true) x.2.2.length rfl rfl fun I μ k hk hG _ go=>?_
 try dsimp only
 refine fJ ?_
 have e:∀ h:k<x.2.2.length,(List.take (k+1) x.2.2).all fZ=fZ (x.2.2.getD k 0):=fun h=>by rw[pJ fZ x.2.2 h,hG,Bool.true_and,bE h]
 (repeat' first|intro _|(refine go _ ?_ ?_ ?_)|(refine go _ ?_ ?_)|(with_reducible apply And.intro))
 all_goals first|omega|(refine (Bool.eq_false_iff.2 fun hh=>?_).symm;have h1:=List.all_eq_true.1 ((rS x).1 hh).2 _ (List.getElem_mem (show k<x.2.2.length by omega));rw[← bE (d:=0)] at h1;exact Bool.noConfusion (h1.symm.trans (by assumption:_=false)))|(exact (e (by omega)).trans (by assumption))|rfl|skip
 refine ((rS x).2 ⟨⟨by omega,by omega,by omega,by omega,by omega⟩,?_⟩).symm
 rwa [List.take_of_length_le (by omega)] at hG
theorem aJB:Con.Holds Tryz.prog kD:=aQ aR (aG iV (aG yA aO)) aX6 aX1
def rZ:Con:=⟨194,(.bEL (.bEL tI aK) tI),aA,[.val ⟨true,(.bEL tI aK),[]⟩,.val ⟨false,tI,[]⟩],[⟨false,aA,[0]⟩],true,none,
 ((fun x=>aC2 x.1=true∧0≤x.2∧x.2<x.1.1):((Int × iZ) × Int)→Prop),
 ((fun x=>aDO x.1 x.2.toNat):((Int × iZ) × Int)→(List Int))⟩
def aC1:T :=
 .bEM (.ar .mul .i64) (.bEN tI tI (aN (.bEL (.bEL tI aK) tI) 1 (.Z 0)) (aI (.bEL tI aK) 1 (.p1 (.bEL tI aK) tI (.Z 0)))) <|
 .bEM (.ar .add .i64) (.bEN tI tI (aN (.bEL (.bEL tI aK) tI) 1 (.Z 0)) (.ci .i64 1)) <|
 .bEM (.ar .mul .i64) (.bEN tI tI (.Z 2) (aI (.bEL tI aK) 1 (.p1 (.bEL tI aK) tI (.Z 0)))) <|
 .bEM (.bER 3 tI) (aY (.bEL aA aD) [(aN (.bEL tI aK) 2 (.p1 (.bEL tI aK) tI (.Z 0))),(.Z 1),(.Z 3)]) <|
 .ret (.Z 4)
theorem aWM:bJ Tryz.prog [] rZ false 3000 ⟨[],[]⟩ = .ok aC1:=by kernel_rfl
theorem aWZ (x:(Int × iZ) × Int) (hx:okD (.bEL (.bEL tI aK) tI) x) (hp:(fun x=>aC2 x.1=true∧0≤x.2∧x.2<x.1.1) x):aC1.wp [] [⟨(.bEL (.bEL tI aK) tI),x⟩] [] (fun v=>v.as aA=(fun x=>aDO x.1 x.2.toNat) x):=by
 obtain ⟨m,k⟩:=x
 obtain ⟨h1,h2,h3⟩:aC2 m=true∧0≤k∧k<m.1:=hp
 obtain ⟨R,C,data,rfl,g1,g2,g3,g4,g5,g6,g7⟩:=oN h1
 obtain ⟨k,rfl⟩:=Int.eq_ofNat_of_zero_le h2
 have h3:k<R:=by dsimp only at h3;omega
 delta aC1;refine eE ?_
 obtain ⟨p,e0⟩:∃ p,p=k * C:=⟨_,rfl⟩
 have e1:(k:Int) * (C:Int)=(p:Int):=by rw[e0];exact (Int.natCast_mul k C).symm
 have e2:((k:Int)+1) * (C:Int)=((p+C:Nat):Int):=by rw[Int.add_mul,e1,Int.one_mul];rfl
 have e4:p+C≤data.length:=by rw[e0,g5];exact aYG h3
 simp only[e1,e2,sS,← aXO R C k p data e0]
 (repeat' first|intro _|(with_reducible apply And.intro))
 all_goals first|omega|trivial|rfl
theorem aX5:Con.Holds Tryz.prog rZ:=aQ aR aO aWM aWZ
def sK:Con:=⟨197,(.bEL (.bEL tI aK) tI),aA,[.val ⟨true,(.bEL tI aK),[]⟩,.val ⟨false,tI,[]⟩],[⟨false,aA,[2]⟩],false,none,
 ((fun x=>aC2 x.1=true∧0≤x.2∧x.2<x.1.2.1):((Int × iZ) × Int)→Prop),
 ((fun x=>aIS x.1 x.2.toNat):((Int × iZ) × Int)→(List Int))⟩
def aC0:T:=.loop aK (.bEN tI aA (.ci .i64 0) (.nl 3 tI)) <|
 .bEM (.cmp .lss .i64) (.bEN tI tI (.p1 tI aA (.Z 1)) (.p1 tI aK (.p1 (.bEL tI aK) tI (.Z 0)))) <|
 .ite (.Z 2) (
  .bEM (.ar .mul .i64) (.bEN tI tI (.p1 tI aA (.Z 1)) (aI (.bEL tI aK) 1 (.p1 (.bEL tI aK) tI (.Z 0)))) <|
  .bEM (.ar .add .i64) (.bEN tI tI (.Z 3) (aN (.bEL (.bEL tI aK) tI) 1 (.Z 0))) <|
  .bEM (.bEQ 3 tI) (.bEN aA tI (aN (.bEL tI aK) 2 (.p1 (.bEL tI aK) tI (.Z 0))) (.Z 4)) <|
  .bEM (.lit 3 tI 1) (.Z 5) <|
  .bEM (.bES 3 tI 8) (.bEN aA aA (aN aK 1 (.Z 1)) (.Z 6)) <|
  .bEM (.ar .add .i64) (.bEN tI tI (.p1 tI aA (.Z 1)) (.ci .i64 1)) <|
  .bEO 0 (.bEN tI aA (.Z 8) (.Z 7))) (
  .ret (aN aK 1 (.Z 1)))
theorem aW3:bJ Tryz.prog [] sK false 3000 ⟨[(2991,1001,[.dr 7,.dr 0,.tm 6 0,.on 5,.sl 2])],[]⟩ = .ok aC0:=by kernel_rfl
theorem aUX (x:(Int × iZ) × Int) (hx:okD (.bEL (.bEL tI aK) tI) x) (hp:(fun x=>aC2 x.1=true∧0≤x.2∧x.2<x.1.2.1) x):aC0.wp [] [⟨(.bEL (.bEL tI aK) tI),x⟩] [] (fun v=>v.as aA=(fun x=>aIS x.1 x.2.toNat) x):=by
 obtain ⟨m,c⟩:=x
 obtain ⟨h1,h2,h3⟩:aC2 m=true∧0≤c∧c<m.2.1:=hp
 obtain ⟨R,C,data,rfl,g1,g2,g3,g4,g5,g6,g7⟩:=oN h1
 obtain ⟨c,rfl⟩:=Int.eq_ofNat_of_zero_le h2
 have h3:c<C:=by dsimp only at h3;omega
 delta aC0;refine eE ?_
 refine jC (fun r=>((r:Int),mp r fun i=>data.getD (i * C+c) 0)) R rfl fun I μ k hk _ go=>?_
 dsimp only
 obtain ⟨p,e0⟩:∃ p,p=k * C:=⟨_,rfl⟩
 have e1:(k:Int) * (C:Int)=(p:Int):=by rw[e0];exact (Int.natCast_mul k C).symm
 have e2:(p:Int)+(c:Int)=((p+c:Nat):Int):=rfl
 have e4:k<R→p+C≤data.length:=fun h=>by rw[e0,g5];exact aYG h
 simp only[e1,e2,sS,nO]
 (repeat' first|intro _|(refine go _ ?_ ?_ ?_)|(refine go _ ?_ ?_)|(with_reducible apply And.intro))
 all_goals first|omega|(unfold maxLen;omega)|(rw[oF,← e0];rfl)|(have e:k=R:=(by omega);subst e;rfl)
theorem aUT:Con.Holds Tryz.prog sK:=aQ aR aO aW3 aUX
def pZ:Con:=⟨181,(.bEL (.bEL tI aK) aA),(.bEL aA .bool),[.val ⟨true,(.bEL tI aK),[]⟩,.val ⟨false,aA,[]⟩],[⟨false,aA,[2]⟩,⟨false,.bool,[0]⟩],false,none,
 ((fun _=>True):((Int × iZ) × aW)→Prop),
 ((fun x=>nN x.1 x.2):((Int × iZ) × aW)→(aW × Bool))⟩
def zM:T:=.call 0 (.p1 (.bEL tI aK) aA (.Z 0)) <|
 .bEM .not (.Z 1) <|
 .ite (.Z 2) (
  .ret (.bEN aA .bool (.nl 3 tI) (.cb false))) (
  .call 1 (aN (.bEL (.bEL tI aK) aA) 1 (.Z 0)) <|
  .bEM .not (.Z 3) <|
  .ite (.Z 4) (
   .ret (.bEN aA .bool (.nl 3 tI) (.cb false))) (
   .bEM (.bEP 3 tI) (aN (.bEL (.bEL tI aK) aA) 1 (.Z 0)) <|
   .bEM (.cmp .neq .i64) (.bEN tI tI (.Z 5) (aI (.bEL tI aK) 1 (.p1 (.bEL tI aK) aA (.Z 0)))) <|
   .ite (.Z 6) (
    .ret (.bEN aA .bool (.nl 3 tI) (.cb false))) (
    .loop (.bEL tI (.bEL .bool aA)) (aY (.bEL tI (.bEL .bool aA)) [(.ci .i64 0),(.cb false),(.nl 3 tI)]) <|
     .bEM (.cmp .lss .i64) (.bEN tI tI (.p1 tI (.bEL .bool aA) (.Z 7)) (.p1 tI aK (.p1 (.bEL tI aK) aA (.Z 0)))) <|
     .ite (.Z 8) (
      .call 2 (.bEN (.bEL tI aK) tI (.p1 (.bEL tI aK) aA (.Z 0)) (.p1 tI (.bEL .bool aA) (.Z 7))) <|
      .call 3 (.bEN aA aA (.Z 9) (aN (.bEL (.bEL tI aK) aA) 1 (.Z 0))) <|
      .bEM (.lit 3 tI 1) (.p1 tI .bool (.Z 10)) <|
      .bEM (.bES 3 tI 8) (.bEN aA aA (aN (.bEL tI (.bEL .bool aA)) 2 (.Z 7)) (.Z 11)) <|
      .ite (aI (.bEL tI (.bEL .bool aA)) 1 (.Z 7)) (
       .bEM (.ar .add .i64) (.bEN tI tI (.p1 tI (.bEL .bool aA) (.Z 7)) (.ci .i64 1)) <|
       .bEO 0 (aY (.bEL tI (.bEL .bool aA)) [(.Z 13),(.cb true),(.Z 12)])) (
       .bEM (.ar .add .i64) (.bEN tI tI (.p1 tI (.bEL .bool aA) (.Z 7)) (.ci .i64 1)) <|
       .bEO 0 (aY (.bEL tI (.bEL .bool aA)) [(.Z 13),(aN (.bEL tI .bool) 1 (.Z 10)),(.Z 12)]))) (
      .ret (.bEN aA .bool (aN (.bEL tI (.bEL .bool aA)) 2 (.Z 7)) (aI (.bEL tI (.bEL .bool aA)) 1 (.Z 7)))))))
theorem aS0:bJ Tryz.prog [kD,bF,rZ,dH] pZ false 3000 ⟨[(2984,8007,jT 26 11++[.dr 0,.tm 8 0,.tm 7 0,.on 6,.sl 2])],[]⟩ = .ok zM:=by kernel_rfl
theorem aSS (x:(Int × iZ) × aW) (hx:okD (.bEL (.bEL tI aK) aA) x) (hp:(fun _=>True) x):zM.wp [kD,bF,rZ,dH] [⟨(.bEL (.bEL tI aK) aA),x⟩] [] (fun v=>v.as (.bEL aA .bool)=(fun x=>nN x.1 x.2) x):=by
 obtain ⟨m,v⟩:=x
 delta zM kD bF rZ dH;refine eE ?_
 simp only[Bool.not_eq_true',Bool.not_eq_false',aBZ,aCO]
 refine ⟨fun h=>?_,fun h1=>⟨fun h=>?_,fun h2 _=>⟨fun h=>?_,fun h3=>?_⟩⟩⟩
 ·unfold nN;rw[if_neg (by rw[h];simp)]
 ·unfold nN eG;rw[if_neg (by rw[h];simp)]
 ·unfold nN eG;rw[if_neg (fun hh=>h (by have:=hh.2;rw[Bool.and_eq_true,decide_eq_true_eq] at this;exact this.2))]
 have h4:eG v m.2.1=true:=(bT _ _).2 ⟨h2,h3⟩
 rw[show nN m v=_ from if_pos ⟨h1,h4⟩]
 obtain ⟨R,C,data,rfl,g1,g2,g3,g4,g5,g6,g7⟩:=oN h1
 refine jC (fun k=>((k:Int),an k (fun r=>(fX (aDO ((R:Int),(C:Int),data) r) v).2),mp k fun r=>(fX (aDO ((R:Int),(C:Int),data) r) v).1)) R rfl fun I μ k hk _ go=>?_
 dsimp only
 simp only[sS,nO]
 (repeat' first|intro _|(refine go _ ?_ ?_ ?_)|(refine go _ ?_ ?_)|(with_reducible apply And.intro))
 all_goals first|omega|exact h1|(unfold maxLen;omega)|(rw[oF,tM];first|exact Prod.ext rfl (Prod.ext (nS (by assumption)) rfl)|exact Prod.ext rfl (Prod.ext (uH (by assumption)) rfl))|(have e:k=R:=(by omega);subst e;rfl)
theorem aRL:Con.Holds Tryz.prog pZ:=aQ aR (aG aJB (aG fL (aG aX5 (aG tA aO)))) aS0 aSS
def nH:Con:=⟨188,(.bEL (.bEL tI aK) aA),(.bEL aA .bool),[.val ⟨true,(.bEL tI aK),[]⟩,.val ⟨false,aA,[]⟩],[⟨false,aA,[2]⟩,⟨false,.bool,[0]⟩],false,none,
 ((fun _=>True):((Int × iZ) × aW)→Prop),
 ((fun x=>jE x.1 x.2):((Int × iZ) × aW)→(aW × Bool))⟩
def vK:T:=.call 0 (.p1 (.bEL tI aK) aA (.Z 0)) <|
 .bEM .not (.Z 1) <|
 .ite (.Z 2) (
  .ret (.bEN aA .bool (.nl 3 tI) (.cb false))) (
  .call 1 (aN (.bEL (.bEL tI aK) aA) 1 (.Z 0)) <|
  .bEM .not (.Z 3) <|
  .ite (.Z 4) (
   .ret (.bEN aA .bool (.nl 3 tI) (.cb false))) (
   .bEM (.bEP 3 tI) (aN (.bEL (.bEL tI aK) aA) 1 (.Z 0)) <|
   .bEM (.cmp .neq .i64) (.bEN tI tI (.Z 5) (.p1 tI aK (.p1 (.bEL tI aK) aA (.Z 0)))) <|
   .ite (.Z 6) (
    .ret (.bEN aA .bool (.nl 3 tI) (.cb false))) (
    .loop (.bEL tI (.bEL .bool aA)) (aY (.bEL tI (.bEL .bool aA)) [(.ci .i64 0),(.cb false),(.nl 3 tI)]) <|
     .bEM (.cmp .lss .i64) (.bEN tI tI (.p1 tI (.bEL .bool aA) (.Z 7)) (aI (.bEL tI aK) 1 (.p1 (.bEL tI aK) aA (.Z 0)))) <|
     .ite (.Z 8) (
      .call 2 (.bEN (.bEL tI aK) tI (.p1 (.bEL tI aK) aA (.Z 0)) (.p1 tI (.bEL .bool aA) (.Z 7))) <|
      .call 3 (.bEN aA aA (.Z 9) (aN (.bEL (.bEL tI aK) aA) 1 (.Z 0))) <|
      .bEM (.lit 3 tI 1) (.p1 tI .bool (.Z 10)) <|
      .bEM (.bES 3 tI 8) (.bEN aA aA (aN (.bEL tI (.bEL .bool aA)) 2 (.Z 7)) (.Z 11)) <|
      .ite (aI (.bEL tI (.bEL .bool aA)) 1 (.Z 7)) (
       .bEM (.ar .add .i64) (.bEN tI tI (.p1 tI (.bEL .bool aA) (.Z 7)) (.ci .i64 1)) <|
       .bEO 0 (aY (.bEL tI (.bEL .bool aA)) [(.Z 13),(.cb true),(.Z 12)])) (
       .bEM (.ar .add .i64) (.bEN tI tI (.p1 tI (.bEL .bool aA) (.Z 7)) (.ci .i64 1)) <|
       .bEO 0 (aY (.bEL tI (.bEL .bool aA)) [(.Z 13),(aN (.bEL tI .bool) 1 (.Z 10)),(.Z 12)]))) (
      .ret (.bEN aA .bool (aN (.bEL tI (.bEL .bool aA)) 2 (.Z 7)) (aI (.bEL tI (.bEL .bool aA)) 1 (.Z 7)))))))
theorem aPR:bJ Tryz.prog [kD,bF,sK,dH] nH false 3000 ⟨[(2984,8007,jT 26 11++[.dr 0,.tm 8 0,.tm 7 0,.on 6,.sl 2])],[]⟩ = .ok vK:=by kernel_rfl
theorem aPT (x:(Int × iZ) × aW) (hx:okD (.bEL (.bEL tI aK) aA) x) (hp:(fun _=>True) x):vK.wp [kD,bF,sK,dH] [⟨(.bEL (.bEL tI aK) aA),x⟩] [] (fun v=>v.as (.bEL aA .bool)=(fun x=>jE x.1 x.2) x):=by
 obtain ⟨m,v⟩:=x
 delta vK kD bF sK dH;refine eE ?_
 simp only[Bool.not_eq_true',Bool.not_eq_false',aBZ,aCO]
 refine ⟨fun h=>?_,fun h1=>⟨fun h=>?_,fun h2 _=>⟨fun h=>?_,fun h3=>?_⟩⟩⟩
 ·unfold jE;rw[if_neg (by rw[h];simp)]
 ·unfold jE eG;rw[if_neg (by rw[h];simp)]
 ·unfold jE eG;rw[if_neg (fun hh=>h (by have:=hh.2;rw[Bool.and_eq_true,decide_eq_true_eq] at this;exact this.2))]
 have h4:eG v m.1=true:=(bT _ _).2 ⟨h2,h3⟩
 rw[show jE m v=_ from if_pos ⟨h1,h4⟩]
 obtain ⟨R,C,data,rfl,g1,g2,g3,g4,g5,g6,g7⟩:=oN h1
 refine jC (fun k=>((k:Int),an k (fun r=>(fX (aIS ((R:Int),(C:Int),data) r) v).2),mp k fun r=>(fX (aIS ((R:Int),(C:Int),data) r) v).1)) C rfl fun I μ k hk _ go=>?_
 dsimp only
 simp only[sS,nO]
 (repeat' first|intro _|(refine go _ ?_ ?_ ?_)|(refine go _ ?_ ?_)|(with_reducible apply And.intro))
 all_goals first|omega|exact h1|(unfold maxLen;omega)|(rw[oF,tM];first|exact Prod.ext rfl (Prod.ext (nS (by assumption)) rfl)|exact Prod.ext rfl (Prod.ext (uH (by assumption)) rfl))|(have e:k=C:=(by omega);subst e;rfl)
theorem aOP:Con.Holds Tryz.prog nH:=aQ aR (aG aJB (aG fL (aG aUT (aG tA aO)))) aPR aPT
def sQ:Con:=⟨189,aU,(.bEL (.bEL tI aK) .bool),[.val ⟨false,aA,[]⟩,.val ⟨false,aA,[]⟩],[⟨true,(.bEL tI aK),[0,0,2]⟩,⟨false,.bool,[0]⟩],false,none,
 ((fun _=>True):(eZ)→Prop),
 ((fun x=>wG x.1 x.2):(eZ)→((Int × iZ) × Bool))⟩
def aC9:T:=.call 0 (.p1 aA aA (.Z 0)) <|
 .bEM .not (.Z 1) <|
 .ite (.Z 2) (
  .ret (.bEN (.bEL tI aK) .bool (aY (.bEL tI aK) [(.ci .i64 0),(.ci .i64 0),(.nl 3 tI)]) (.cb false))) (
  .call 0 (aN aU 1 (.Z 0)) <|
  .bEM .not (.Z 3) <|
  .ite (.Z 4) (
   .ret (.bEN (.bEL tI aK) .bool (aY (.bEL tI aK) [(.ci .i64 0),(.ci .i64 0),(.nl 3 tI)]) (.cb false))) (
   .bEM (.bEP 3 tI) (.p1 aA aA (.Z 0)) <|
   .bEM (.bEP 3 tI) (aN aU 1 (.Z 0)) <|
   .loop (.bEL tI (.bEL .bool aA)) (aY (.bEL tI (.bEL .bool aA)) [(.ci .i64 0),(.cb false),(.nl 3 tI)]) <|
    .bEM (.bEP 3 tI) (.p1 aA aA (.Z 0)) <|
    .bEM (.cmp .lss .i64) (.bEN tI tI (.p1 tI (.bEL .bool aA) (.Z 7)) (.Z 8)) <|
    .ite (.Z 9) (
     .loop (.bEL tI (.bEL .bool aA)) (.bEN tI (.bEL .bool aA) (.ci .i64 0) (aN (.bEL tI (.bEL .bool aA)) 1 (.Z 7))) <|
      .bEM (.bEP 3 tI) (aN aU 1 (.Z 0)) <|
      .bEM (.cmp .lss .i64) (.bEN tI tI (.p1 tI (.bEL .bool aA) (.Z 10)) (.Z 11)) <|
      .ite (.Z 12) (
       .bEM (.bEQ 3 tI) (.bEN aA tI (.p1 aA aA (.Z 0)) (.p1 tI (.bEL .bool aA) (.Z 7))) <|
       .bEM (.bEQ 3 tI) (.bEN aA tI (aN aU 1 (.Z 0)) (.p1 tI (.bEL .bool aA) (.Z 10))) <|
       .call 1 (.bEN tI tI (.Z 13) (.Z 14)) <|
       .bEM (.lit 3 tI 1) (.p1 tI .bool (.Z 15)) <|
       .bEM (.bES 3 tI 8) (.bEN aA aA (aN (.bEL tI (.bEL .bool aA)) 2 (.Z 10)) (.Z 16)) <|
       .ite (aI (.bEL tI (.bEL .bool aA)) 1 (.Z 10)) (
        .bEM (.ar .add .i64) (.bEN tI tI (.p1 tI (.bEL .bool aA) (.Z 10)) (.ci .i64 1)) <|
        .bEO 0 (aY (.bEL tI (.bEL .bool aA)) [(.Z 18),(.cb true),(.Z 17)])) (
        .bEM (.ar .add .i64) (.bEN tI tI (.p1 tI (.bEL .bool aA) (.Z 10)) (.ci .i64 1)) <|
        .bEO 0 (aY (.bEL tI (.bEL .bool aA)) [(.Z 18),(aN (.bEL tI .bool) 1 (.Z 15)),(.Z 17)]))) (
       .bEM (.ar .add .i64) (.bEN tI tI (.p1 tI (.bEL .bool aA) (.Z 7)) (.ci .i64 1)) <|
       .bEO 1 (.bEN tI (.bEL .bool aA) (.Z 13) (aN (.bEL tI (.bEL .bool aA)) 1 (.Z 10))))) (
     .ret (.bEN (.bEL tI aK) .bool (aY (.bEL tI aK) [(.Z 5),(.Z 6),(aN (.bEL tI (.bEL .bool aA)) 2 (.Z 7))]) (aI (.bEL tI (.bEL .bool aA)) 1 (.Z 7))))))
theorem aWG:bJ Tryz.prog [bF,fG] sQ false 3000 ⟨[(2984,4007,jT 25 21++jT 19 12++[.tm 8 0,.tm 7 0,.sl 5]),(2973,12010,[.tm 9 0,.tm 7 0,.sl 5])],[]⟩ = .ok aC9:=by kernel_rfl
theorem aVJ (x:eZ) (hx:okD aU x) (hp:(fun _=>True) x):aC9.wp [bF,fG] [⟨aU,x⟩] [] (fun v=>v.as (.bEL (.bEL tI aK) .bool)=(fun x=>wG x.1 x.2) x):=by
 obtain ⟨d,v⟩:=x
 delta aC9 bF fG;refine eE ?_
 simp only[Bool.not_eq_true',Bool.not_eq_false']
 refine ⟨fun h=>?_,fun h1=>⟨fun h=>?_,fun h2 _ _=>?_⟩⟩
 ·unfold wG;rw[if_neg (by rw[h];simp)];rfl
 ·unfold wG;rw[if_neg (by rw[h];simp)];rfl
 rw[show wG d v=_ from if_pos ⟨h1,h2⟩]
 have hd:=(dU d).1 h1
 have hv:=(dU v).1 h2
 refine jC (fun i=>((i:Int),an i (aQA d v),aHX (aD5 d v) i)) d.length rfl fun I μ i hi _ go=>?_
 dsimp only
 refine fJ ?_
 have hl:(aHX (aD5 d v) i).length=i * v.length:=aH3 (fun i=>nO _ _) i
 have hq:i * v.length≤36:=Nat.le_trans (Nat.mul_le_mul hi (show v.length≤6 by omega)) (by omega)
 generalize hD:aHX (aD5 d v) i=D at *
 generalize hA:an i (aQA d v)=A at *
 intro _
 constructor
 ·intro hlt
  refine jC (fun j=>((j:Int),A || an j (fun j=>(gH (d.getD i 0) (v.getD j 0)).2),D++mp j fun j=>(gH (d.getD i 0) (v.getD j 0)).1)) v.length (by simp[bBJ,bBI]) fun I2 μ2 j hj _ go2=>?_
  dsimp only
  simp only[sS,nO]
  have ea:(A || an (j+1) (fun j=>(gH (d.getD i 0) (v.getD j 0)).2))=((A || an j (fun j=>(gH (d.getD i 0) (v.getD j 0)).2)) || (gH (d.getD i 0) (v.getD j 0)).2):=by rw[tM,Bool.or_assoc]
  (repeat' first|intro _|(refine go2 _ ?_ ?_ ?_)|(refine go2 _ ?_ ?_)|(refine go _ ?_ ?_ ?_)|(refine go _ ?_ ?_)|(with_reducible apply And.intro))
  all_goals first|omega|(unfold maxLen;omega)|(rw[oF,← List.append_assoc,ea];first|exact Prod.ext rfl (Prod.ext (nS (by assumption)) rfl)|exact Prod.ext rfl (Prod.ext (uH (by assumption)) rfl))|(have e:j=v.length:=(by omega);subst e;rw[aHX,hD,tM,hA];rfl)
 ·intro hge
  have e:i=d.length:=by omega
  subst e
  rw[← hD,← hA]
theorem aVI:Con.Holds Tryz.prog sQ:=aQ aR (aG fL (aG zA aO)) aWG aVJ
def kF:Con:=⟨182,bC,(.bEL tI aK),[.val ⟨true,bC,[]⟩],[⟨true,(.bEL tI aK),[0,0,0]⟩],true,none,
 ((fun _=>True):(dR)→Prop),
 ((fun x=>uQ x):(dR)→(Int × iZ))⟩
def aDD:T:=.ret (aY (.bEL tI aK) [(aI bC 2 (.Z 0)),(aI bC 1 (.Z 0)),(aN bC 3 (.Z 0))])
theorem aWC:bJ Tryz.prog [] kF false 3000 ⟨[],[]⟩ = .ok aDD:=by kernel_rfl
theorem aV3 (x:dR) (hx:okD bC x) (hp:(fun _=>True) x):aDD.wp [] [⟨bC,x⟩] [] (fun v=>v.as (.bEL tI aK)=(fun x=>uQ x) x):=by
 delta aDD;refine eE ?_;try with_reducible exact True.intro
 rfl
theorem aJG:Con.Holds Tryz.prog kF:=aQ aR aO aWC aV3
def jL:Con:=⟨158,(.bEL bC aA),(.bEL aA .bool),[.val ⟨true,bC,[]⟩,.val ⟨false,aA,[]⟩],[⟨false,aA,[2]⟩,⟨false,.bool,[0]⟩],false,none,
 ((fun _=>True):(dR × aW)→Prop),
 ((fun x=>vM x.1 x.2):(dR × aW)→(aW × Bool))⟩
def rA:T:=.call 0 (.p1 bC aA (.Z 0)) <|
 .bEM .not (.Z 1) <|
 .ite (.Z 2) (
  .ret (.bEN aA .bool (.nl 3 tI) (.cb false))) (
  .call 1 (aN (.bEL bC aA) 1 (.Z 0)) <|
  .bEM .not (.Z 3) <|
  .ite (.Z 4) (
   .ret (.bEN aA .bool (.nl 3 tI) (.cb false))) (
   .bEM (.bEP 3 tI) (aN (.bEL bC aA) 1 (.Z 0)) <|
   .bEM (.cmp .neq .i64) (.bEN tI tI (.Z 5) (aI bC 1 (.p1 bC aA (.Z 0)))) <|
   .ite (.Z 6) (
    .ret (.bEN aA .bool (.nl 3 tI) (.cb false))) (
    .bEM (.cmp .eql .i64) (.bEN tI tI (.p1 tI (.bEL tI aK) (.p1 bC aA (.Z 0))) (.ci .i64 1)) <|
    .ite (.Z 7) (
     .call 2 (.p1 bC aA (.Z 0)) <|
     .call 3 (.bEN (.bEL tI aK) aA (.Z 8) (aN (.bEL bC aA) 1 (.Z 0))) <|
     .ret (.Z 9)) (
     .bEM (.cmp .eql .i64) (.bEN tI tI (.p1 tI (.bEL tI aK) (.p1 bC aA (.Z 0))) (.ci .i64 2)) <|
     .ite (.Z 8) (
      .call 4 (.bEN aA aA (aN (.bEL bC aA) 1 (.Z 0)) (aN bC 3 (.p1 bC aA (.Z 0)))) <|
      .ret (.Z 9)) (
      .bEM (.cmp .eql .i64) (.bEN tI tI (.p1 tI (.bEL tI aK) (.p1 bC aA (.Z 0))) (.ci .i64 3)) <|
      .ite (.Z 9) (
       .call 5 (aN (.bEL bC aA) 1 (.Z 0)) <|
       .ret (.bEN aA .bool (.Z 10) (.cb false))) (
       .bEM (.cmp .eql .i64) (.bEN tI tI (.p1 tI (.bEL tI aK) (.p1 bC aA (.Z 0))) (.ci .i64 4)) <|
       .ite (.Z 10) (
        .bEM (.bEQ 3 tI) (.bEN aA tI (aN bC 3 (.p1 bC aA (.Z 0))) (.ci .i64 0)) <|
        .call 6 (.bEN tI aA (.Z 11) (aN (.bEL bC aA) 1 (.Z 0))) <|
        .ret (.Z 12)) (
        .call 2 (.p1 bC aA (.Z 0)) <|
        .call 3 (.bEN (.bEL tI aK) aA (.Z 11) (aN (.bEL bC aA) 1 (.Z 0))) <|
        .call 4 (.bEN aA aA (aN (.bEL bC aA) 1 (.Z 0)) (.p1 aA .bool (.Z 12))) <|
        .ite (aN (.bEL aA .bool) 1 (.Z 12)) (
         .ret (.bEN aA .bool (.p1 aA .bool (.Z 13)) (.cb true))) (
         .ret (.Z 13)))))))))
theorem aIH:bJ Tryz.prog [jA,bF,kF,pZ,jB,nC,fM] jL false 3000 ⟨[],[]⟩ = .ok rA:=by kernel_rfl
theorem aHS (x:dR × aW) (hx:okD (.bEL bC aA) x) (hp:(fun _=>True) x):rA.wp [jA,bF,kF,pZ,jB,nC,fM] [⟨(.bEL bC aA),x⟩] [] (fun v=>v.as (.bEL aA .bool)=(fun x=>vM x.1 x.2) x):=by
 obtain ⟨⟨kd,i,ou,P⟩,v⟩:=x
 delta rA jA bF kF pZ jB nC fM;refine eE ?_
 simp only[Bool.not_eq_true',Bool.not_eq_false',aBZ,aCO]
 refine ⟨fun h=>?_,fun h1=>⟨fun h=>?_,fun h2 _=>⟨fun h=>?_,fun h3=>?_⟩⟩⟩
 ·unfold vM;rw[if_pos (by rw[h];simp)]
 ·unfold vM eG;rw[if_pos (by rw[h];simp)]
 ·unfold vM;rw[if_pos (fun hh=>h ((bT _ _).1 hh.2).2)]
 have h9:eG v i=true:=(bT _ _).2 ⟨h2,h3⟩
 clear h2 h3
 have h4:=aT6 h1
 have hk:=((gA _).1 h1).1
 dsimp only at h4 hk
 (refine fJ ?_;try with_reducible exact True.intro)
 (repeat' first|intro _|(with_reducible apply And.intro))
 all_goals first|omega|(simp_all[vM];done)|(have e5:kd=5:=(by omega);subst e5;simp_all[vM];done)
theorem aIA:Con.Holds Tryz.prog jL:=aQ aR (aG aGQ (aG fL (aG aJG (aG aRL (aG aGL (aG aNG (aG aBE aO))))))) aIH aHS
def iL:Con:=⟨164,(.bEL bC aU),(.bEL aA (.bEL aA .bool)),[.val ⟨true,bC,[]⟩,.val ⟨false,aA,[]⟩,.val ⟨false,aA,[]⟩],[⟨false,aA,[2]⟩,⟨false,aA,[2]⟩,⟨false,.bool,[0]⟩],false,none,
 ((fun _=>True):(dR × eZ)→Prop),
 ((fun x=>kO x.1 x.2.1 x.2.2):(dR × eZ)→(aW × (aW × Bool)))⟩
def pG:T:=.call 0 (.p1 bC aU (.Z 0)) <|
 .bEM .not (.Z 1) <|
 .ite (.Z 2) (
  .ret (aY (.bEL aA (.bEL aA .bool)) [(.nl 3 tI),(.nl 3 tI),(.cb false)])) (
  .call 1 (aI (.bEL bC aU) 1 (.Z 0)) <|
  .bEM .not (.Z 3) <|
  .ite (.Z 4) (
   .ret (aY (.bEL aA (.bEL aA .bool)) [(.nl 3 tI),(.nl 3 tI),(.cb false)])) (
   .bEM (.bEP 3 tI) (aI (.bEL bC aU) 1 (.Z 0)) <|
   .bEM (.cmp .neq .i64) (.bEN tI tI (.Z 5) (aI bC 1 (.p1 bC aU (.Z 0)))) <|
   .ite (.Z 6) (
    .ret (aY (.bEL aA (.bEL aA .bool)) [(.nl 3 tI),(.nl 3 tI),(.cb false)])) (
    .call 1 (aN (.bEL bC aU) 2 (.Z 0)) <|
    .bEM .not (.Z 7) <|
    .ite (.Z 8) (
     .ret (aY (.bEL aA (.bEL aA .bool)) [(.nl 3 tI),(.nl 3 tI),(.cb false)])) (
     .bEM (.bEP 3 tI) (aN (.bEL bC aU) 2 (.Z 0)) <|
     .bEM (.cmp .neq .i64) (.bEN tI tI (.Z 9) (aI bC 2 (.p1 bC aU (.Z 0)))) <|
     .ite (.Z 10) (
      .ret (aY (.bEL aA (.bEL aA .bool)) [(.nl 3 tI),(.nl 3 tI),(.cb false)])) (
      .bEM (.cmp .eql .i64) (.bEN tI tI (.p1 tI (.bEL tI aK) (.p1 bC aU (.Z 0))) (.ci .i64 2)) <|
      .ite (.Z 11) (
       .bEM (.bES 3 tI 8) (.bEN aA aA (.nl 3 tI) (aN (.bEL bC aU) 2 (.Z 0))) <|
       .bEM (.bES 3 tI 8) (.bEN aA aA (.nl 3 tI) (aN (.bEL bC aU) 2 (.Z 0))) <|
       .ret (aY (.bEL aA (.bEL aA .bool)) [(.Z 12),(.Z 13),(.cb false)])) (
       .bEM (.cmp .eql .i64) (.bEN tI tI (.p1 tI (.bEL tI aK) (.p1 bC aU (.Z 0))) (.ci .i64 3)) <|
       .ite (.Z 12) (
        .call 2 (aN (.bEL bC aU) 1 (.Z 0)) <|
        .ret (aY (.bEL aA (.bEL aA .bool)) [(.Z 13),(.nl 3 tI),(.cb false)])) (
        .bEM (.cmp .eql .i64) (.bEN tI tI (.p1 tI (.bEL tI aK) (.p1 bC aU (.Z 0))) (.ci .i64 4)) <|
        .ite (.Z 13) (
         .bEM (.bEQ 3 tI) (.bEN aA tI (aN bC 3 (.p1 bC aU (.Z 0))) (.ci .i64 0)) <|
         .call 3 (.bEN tI aA (.Z 14) (aN (.bEL bC aU) 2 (.Z 0))) <|
         .call 4 (.bEN aA aA (aN (.bEL bC aU) 2 (.Z 0)) (aI (.bEL bC aU) 1 (.Z 0))) <|
         .bEM (.lit 3 tI 1) (.p1 tI .bool (.Z 16)) <|
         .ite (aN (.bEL aA .bool) 1 (.Z 15)) (
          .ret (aY (.bEL aA (.bEL aA .bool)) [(.p1 aA .bool (.Z 15)),(.Z 17),(.cb true)])) (
          .ret (aY (.bEL aA (.bEL aA .bool)) [(.p1 aA .bool (.Z 15)),(.Z 17),(aN (.bEL tI .bool) 1 (.Z 16))]))) (
         .call 5 (.p1 bC aU (.Z 0)) <|
         .call 6 (.bEN (.bEL tI aK) aA (.Z 14) (aN (.bEL bC aU) 2 (.Z 0))) <|
         .call 7 (.bEN aA aA (aN (.bEL bC aU) 2 (.Z 0)) (aI (.bEL bC aU) 1 (.Z 0))) <|
         .bEM (.cmp .eql .i64) (.bEN tI tI (.p1 tI (.bEL tI aK) (.p1 bC aU (.Z 0))) (.ci .i64 1)) <|
         .ite (.Z 17) (
          .ite (aN (.bEL aA .bool) 1 (.Z 15)) (
           .ret (aY (.bEL aA (.bEL aA .bool)) [(.p1 aA .bool (.Z 15)),(aN (.bEL tI aK) 2 (.p1 (.bEL tI aK) .bool (.Z 16))),(.cb true)])) (
           .ret (aY (.bEL aA (.bEL aA .bool)) [(.p1 aA .bool (.Z 15)),(aN (.bEL tI aK) 2 (.p1 (.bEL tI aK) .bool (.Z 16))),(aN (.bEL (.bEL tI aK) .bool) 1 (.Z 16))]))) (
          .call 8 (.bEN aA aA (aN (.bEL bC aU) 2 (.Z 0)) (.p1 aA .bool (.Z 15))) <|
          .ite (aN (.bEL aA .bool) 1 (.Z 15)) (
           .ret (aY (.bEL aA (.bEL aA .bool)) [(.p1 aA .bool (.Z 18)),(aN (.bEL tI aK) 2 (.p1 (.bEL tI aK) .bool (.Z 16))),(.cb true)])) (
           .ite (aN (.bEL (.bEL tI aK) .bool) 1 (.Z 16)) (
            .ret (aY (.bEL aA (.bEL aA .bool)) [(.p1 aA .bool (.Z 18)),(aN (.bEL tI aK) 2 (.p1 (.bEL tI aK) .bool (.Z 16))),(.cb true)])) (
            .ret (aY (.bEL aA (.bEL aA .bool)) [(.p1 aA .bool (.Z 18)),(aN (.bEL tI aK) 2 (.p1 (.bEL tI aK) .bool (.Z 16))),(aN (.bEL aA .bool) 1 (.Z 18))]))))))))))))
theorem aHE:bJ Tryz.prog [jA,bF,mR,fM,dH,kF,nH,sQ,jB] iL false 3000 ⟨[],[]⟩ = .ok pG:=by kernel_rfl
theorem aHF (x:dR × eZ) (hx:okD (.bEL bC aU) x) (hp:(fun _=>True) x):pG.wp [jA,bF,mR,fM,dH,kF,nH,sQ,jB] [⟨(.bEL bC aU),x⟩] [] (fun v=>v.as (.bEL aA (.bEL aA .bool))=(fun x=>kO x.1 x.2.1 x.2.2) x):=by
 obtain ⟨⟨kd,i,ou,P⟩,v,d⟩:=x
 delta pG jA bF mR fM dH kF nH sQ jB;refine eE ?_
 simp only[Bool.not_eq_true',Bool.not_eq_false',aBZ,aCO]
 refine ⟨fun h=>?_,fun h1=>⟨fun h=>?_,fun h2 _=>⟨fun h=>?_,fun h3=>⟨fun h=>?_,fun h5 _=>⟨fun h=>?_,fun h6=>?_⟩⟩⟩⟩⟩
 ·unfold kO;rw[if_pos (by rw[h];simp)]
 ·unfold kO eG;rw[if_pos (by rw[h];simp)]
 ·unfold kO;rw[if_pos (fun hh=>h ((bT _ _).1 hh.2.1).2)]
 ·unfold kO eG;rw[if_pos (by rw[h];simp)]
 ·unfold kO;rw[if_pos (fun hh=>h ((bT _ _).1 hh.2.2).2)]
 have h9:eG v i=true:=(bT _ _).2 ⟨h2,h3⟩
 have h10:eG d ou=true:=(bT _ _).2 ⟨h5,h6⟩
 have hd:=(dU d).1 h5
 clear h2 h3 h5 h6
 have h4:=aT6 h1
 have hk:=((gA _).1 h1).1
 dsimp only at h4 hk
 rcases (show kd=1∨kd=2∨kd=3∨kd=4∨kd=5 by omega) with rfl|rfl|rfl|rfl|rfl
 all_goals
  refine fJ ?_
  clear hk hx
  (repeat' first|intro _|(with_reducible apply And.intro))
  all_goals first|omega|(unfold maxLen;omega)|exact absurd trivial (by assumption)|(unfold kO;rw[if_neg (by simp[h1,h9,h10]),if_neg (by simp),if_neg (by simp),if_pos rfl];first|exact Prod.ext rfl (Prod.ext rfl (nS (by assumption)))|exact Prod.ext rfl (Prod.ext rfl (uH (by assumption))))|(simp[kO,h1,h9,h10, *];done)
theorem aGR:Con.Holds Tryz.prog iL:=aQ aR (aG aGQ (aG fL (aG aNQ (aG aBE (aG tA (aG aJG (aG aOP (aG aVI (aG aGL aO))))))))) aHE aHF
end
end Go.Proofs.YtdeobhdbmehpgaaGreat
