/- Lin2: lemmas. No conditions. -/
import Derived.Test.YtdeobhdbmehpgaaGreatLoop
import Derived.Test.YtdeobhdbmehpgaaGreatStage3
namespace Go.Proofs.YtdeobhdbmehpgaaGreat
noncomputable section
set_option maxRecDepth 100000
open Go.ChangeShapes Go.WideShapes Go.ChangeAt Go.RowKit Go.Deep
set_option linter.unusedVariables false
set_option linter.unusedSimpArgs false
def mp {α:Type} (n:Nat) (g:Nat→α):List α:=(List.range n).map g
def an (n:Nat) (h:Nat→Bool):Bool:=(List.range n).any h
theorem bBJ {α:Type} (g:Nat→α):mp 0 g=[]:=rfl
theorem bBI (h:Nat→Bool):an 0 h=false:=rfl
theorem oF {α:Type} (n:Nat) (g:Nat→α):mp (n+1) g=mp n g++[g n]:=by unfold mp;rw[List.range_succ,List.map_append];rfl
theorem tM (n:Nat) (h:Nat→Bool):an (n+1) h=(an n h || h n):=by unfold an;rw[List.range_succ,List.any_append];simp
theorem nO {α:Type} (n:Nat) (g:Nat→α):(mp n g).length=n:=by unfold mp;simp
theorem nS {a b:Bool} (h:a=true):true=(a || b):=by rw[h];rfl
theorem uH {a b:Bool} (h:a=false):b=(a || b):=by rw[h];rfl
theorem bE1 {a b c:Bool} (h:a=true):true=((a || b) || c):=by rw[h];rfl
theorem bE6 {a b c:Bool} (h:a=false) (h2:b=true):true=((a || b) || c):=by rw[h,h2];rfl
theorem bE3 {a b c:Bool} (h:a=false) (h2:b=false):c=((a || b) || c):=by rw[h,h2];rfl
def fK (a b:Int):Int × Bool:=aRF (dX a - dX b)
def gH (a b:Int):Int × Bool:=aRF ((dX a * dX b).fdiv 65536)
def aU4 (x:Int):Int:=max 0 (dX x)
theorem bEF {x y:Int} (h1:-2147483647≤x∧x≤2147483647) (h2:-2147483647≤y∧y≤2147483647):-4611686014132420609≤x * y∧x * y≤4611686014132420609:=by
 have h:(x * y).natAbs≤2147483647 * 2147483647:=by
  rw[Int.natAbs_mul];exact Nat.mul_le_mul (by omega) (by omega)
 omega
theorem bED {a:Int} (h:-9223372036854775808≤a∧a≤9223372036854775807):-140737488355328≤a.tdiv 65536∧a.tdiv 65536≤140737488355328:=by
 rcases Int.le_total 0 a with h1|h1
 ·rw[Int.tdiv_eq_ediv_of_nonneg h1];omega
 ·have e1:a.tdiv 65536 = -((-a) / 65536):=by
   rw[← Int.neg_neg a,Int.neg_tdiv,Int.tdiv_eq_ediv_of_nonneg (by omega),Int.neg_neg]
  omega
theorem bA1 (x:Int):x.fdiv 65536=(if x.tmod 65536≠0∧x<0 then x.tdiv 65536 - 1 else x.tdiv 65536):=by
 rw[Int.fdiv_eq_ediv_of_nonneg _ (by decide)]
 rcases Int.le_total 0 x with h|h
 ·rw[Int.tdiv_eq_ediv_of_nonneg h,if_neg (by omega)]
 ·have e1:x.tdiv 65536 = -((-x) / 65536):=by
   rw[← Int.neg_neg x,Int.neg_tdiv,Int.tdiv_eq_ediv_of_nonneg (by omega),Int.neg_neg]
  have e2:x.tmod 65536 = -((-x) % 65536):=by
   rw[← Int.neg_neg x,Int.neg_tmod,Int.tmod_eq_emod_of_nonneg (by omega),Int.neg_neg]
  rw[e1,e2]
  split <;> omega
def qI (a b:List Int):Bool:=kH a&&eG b (a.length:Int)
def vz (f:Int→Int→Int × Bool) (a b:List Int) (n:Nat):List Int × Bool:=(mp n fun i=>(f (a.getD i 0) (b.getD i 0)).1,an n fun i=>(f (a.getD i 0) (b.getD i 0)).2)
def kI (f:Int→Int→Int × Bool) (a b:List Int):List Int × Bool:=if qI a b=true then vz f a b a.length else ([],false)
def yN (c:Int) (a:List Int):List Int × Bool:=if fZ c=true∧kH a=true then (mp a.length fun i=>(gH c (a.getD i 0)).1,an a.length fun i=>(gH c (a.getD i 0)).2) else ([],false)
def aGS (a b:List Int):Nat→Int × Bool
 | 0=>(0,false)
 | k+1=>((dP (aGS a b k).1 (gH (a.getD k 0) (b.getD k 0)).1).1,(aGS a b k).2 || (gH (a.getD k 0) (b.getD k 0)).2 || (dP (aGS a b k).1 (gH (a.getD k 0) (b.getD k 0)).1).2)
def fX (a b:List Int):Int × Bool:=if qI a b=true then aGS a b a.length else (0,false)
def sY (a:List Int):List Int:=if kH a=true then mp a.length fun i=>aU4 (a.getD i 0) else []
def tU (x d:List Int):List Int:=if qI x d=true then mp x.length fun i=>if 0<x.getD i 0 then d.getD i 0 else 0 else []
theorem aWB (a b:List Int):qI a b=true↔kH a=true∧eG b (a.length:Int)=true:=by unfold qI;rw[Bool.and_eq_true]
theorem oH {a b:List Int} (h:qI a b=true):a.length≤6∧b.length=a.length:=by
 obtain ⟨h1,h2⟩:=(aWB a b).1 h
 have:=(dU a).1 h1
 have:=(bT _ _).1 h2
 omega
theorem aTN {f:Int→Int→Int × Bool} {a b:List Int} (h:qI a b=false):([],false)=kI f a b:=by unfold kI;rw[if_neg (by rw[h];exact Bool.false_ne_true)]
theorem aMV {f:Int→Int→Int × Bool} {a b:List Int} (h:qI a b=true):kI f a b=vz f a b a.length:=if_pos h
theorem aUU (a b:List Int) (k:Nat):aGS a b (k+1)=((dP (aGS a b k).1 (gH (a.getD k 0) (b.getD k 0)).1).1,(aGS a b k).2 || (gH (a.getD k 0) (b.getD k 0)).2 || (dP (aGS a b k).1 (gH (a.getD k 0) (b.getD k 0)).1).2):=rfl
theorem aTH (a b:List Int):(kH a&&(kH b&&decide (a.length=b.length)))=qI a b:=by
 unfold qI eG
 congr 2
 rw[Bool.eq_iff_iff,decide_eq_true_eq,decide_eq_true_eq];omega
def pK:Con:=⟨163,aD,(.bEL tI .bool),[.val ⟨false,tI,[]⟩,.val ⟨false,tI,[]⟩],[⟨false,tI,[0]⟩,⟨false,.bool,[0]⟩],false,none,
 ((fun _=>True):(Int × Int)→Prop),
 ((fun x=>fK x.1 x.2):(Int × Int)→(Int × Bool))⟩
def zS:T:=.call 0 (.p1 tI tI (.Z 0)) <|.call 0 (aN aD 1 (.Z 0)) <|
 .bEM (.ar .sub .i64) (.bEN tI tI (.Z 1) (.Z 2)) <|
 .call 1 (.Z 3) <|
 .ret (.Z 4)
theorem aQ3:bJ Tryz.prog [fO,eR] pK false 3000 ⟨[],[]⟩ = .ok zS:=by kernel_rfl
theorem aS4 (x:Int × Int) (hx:okD aD x) (hp:(fun _=>True) x):zS.wp [fO,eR] [⟨aD,x⟩] [] (fun v=>v.as (.bEL tI .bool)=(fun x=>fK x.1 x.2) x):=by
 delta zS fO eR;refine eE ?_
 intro _ _
 have h1:=sJ x.1
 have h2:=sJ x.2
 exact ⟨by omega,fun _ _=>rfl⟩
theorem aQJ:Con.Holds Tryz.prog pK:=aQ aR (aG aB9 (aG yG aO)) aQ3 aS4
def mP:Con:=⟨196,aD,tI,[.val ⟨false,tI,[]⟩,.val ⟨false,tI,[]⟩],[⟨false,tI,[0]⟩],false,none,
 ((fun x=>x.2=65536):(Int × Int)→Prop),
 ((fun x=>x.1.fdiv 65536):(Int × Int)→(Int))⟩
def wT:T :=
 .bEM (.quo .i64) (.bEN tI tI (.p1 tI tI (.Z 0)) (aN aD 1 (.Z 0))) <|
 .bEM (.rem .i64) (.bEN tI tI (.p1 tI tI (.Z 0)) (aN aD 1 (.Z 0))) <|
 .bEM (.cmp .neq .i64) (.bEN tI tI (.Z 2) (.ci .i64 0)) <|
 .ite (.Z 3) (
  .bEM (.cmp .lss .i64) (.bEN tI tI (.p1 tI tI (.Z 0)) (.ci .i64 0)) <|
  .bEM (.cmp .lss .i64) (.bEN tI tI (aN aD 1 (.Z 0)) (.ci .i64 0)) <|
  .bEM (.eqv true .bool) (.bEN .bool .bool (.Z 4) (.Z 5)) <|
  .ite (.Z 6) (
   .bEM (.ar .sub .i64) (.bEN tI tI (.Z 1) (.ci .i64 1)) <|
   .ret (.Z 7)) (
   .ret (.Z 1))) (
  .ret (.Z 1))
theorem aMS:bJ Tryz.prog [] mP false 3000 ⟨[],[]⟩ = .ok wT:=by kernel_rfl
theorem aPJ (x:Int × Int) (hx:okD aD x) (hp:(fun x=>x.2=65536) x):wT.wp [] [⟨aD,x⟩] [] (fun v=>v.as tI=(fun x=>x.1.fdiv 65536) x):=by
 obtain ⟨a,b⟩:=x
 obtain rfl:b=65536:=hp
 have e:=bA1 a
 have ha:-9223372036854775808≤a∧a≤9223372036854775807:=hx.1
 have hd:=bED ha
 delta wT;refine eE ?_
 simp only[bDO,bD7,aBZ,aCO,show decide ((65536:Int)<0)=false from rfl,decide_eq_false_iff_not,Classical.not_not]
 rw[e]
 (repeat' first|intro _|(with_reducible apply And.intro))
 all_goals first|omega|(rw[if_pos ⟨by assumption,by assumption⟩])|(rw[if_neg (fun h=>by have:=h.2;omega)])|(rw[if_neg (fun h=>h.1 (by assumption))])
theorem aPB:Con.Holds Tryz.prog mP:=aQ aR aO aMS aPJ
def fG:Con:=⟨186,aD,(.bEL tI .bool),[.val ⟨false,tI,[]⟩,.val ⟨false,tI,[]⟩],[⟨false,tI,[0]⟩,⟨false,.bool,[0]⟩],false,none,
 ((fun _=>True):(Int × Int)→Prop),
 ((fun x=>gH x.1 x.2):(Int × Int)→(Int × Bool))⟩
def aAD:T:=.call 0 (.p1 tI tI (.Z 0)) <|.call 0 (aN aD 1 (.Z 0)) <|
 .bEM (.ar .mul .i64) (.bEN tI tI (.Z 1) (.Z 2)) <|
 .call 1 (.bEN tI tI (.Z 3) (.ci .i64 65536)) <|
 .call 2 (.Z 4) <|
 .ret (.Z 5)
theorem aQ8:bJ Tryz.prog [fO,mP,eR] fG false 3000 ⟨[],[]⟩ = .ok aAD:=by kernel_rfl
theorem aQC (x:Int × Int) (hx:okD aD x) (hp:(fun _=>True) x):aAD.wp [fO,mP,eR] [⟨aD,x⟩] [] (fun v=>v.as (.bEL tI .bool)=(fun x=>gH x.1 x.2) x):=by
 delta aAD fO mP eR;refine eE ?_
 have h:=bEF (sJ x.1) (sJ x.2)
 exact fun _ _=>⟨by omega,fun _ _ _=>rfl⟩
theorem zA:Con.Holds Tryz.prog fG:=aQ aR (aG aB9 (aG aPB (aG yG aO))) aQ8 aQC
def wD:Con:=⟨195,tI,tI,[.val ⟨false,tI,[]⟩],[⟨false,tI,[0]⟩],false,none,
 ((fun _=>True):(Int)→Prop),
 ((fun x=>aU4 x):(Int)→(Int))⟩
def aF9:T:=.call 0 (.Z 0) <|
 .bEM (.mx .i64) (.bEN tI tI (.ci .i64 0) (.Z 1)) <|
 .ret (.Z 2)
theorem aXJ:bJ Tryz.prog [fO] wD false 3000 ⟨[],[]⟩ = .ok aF9:=by kernel_rfl
theorem aZ4 (x:Int) (hx:okD tI x) (hp:(fun _=>True) x):aF9.wp [fO] [⟨tI,x⟩] [] (fun v=>v.as tI=(fun x=>aU4 x) x):=by
 delta aF9 fO;refine eE ?_
 exact fun _ _=>rfl
theorem aY7:Con.Holds Tryz.prog wD:=aQ aR (aG aB9 aO) aXJ aZ4
def jB:Con:=⟨183,aU,(.bEL aA .bool),[.val ⟨false,aA,[]⟩,.val ⟨false,aA,[]⟩],[⟨false,aA,[2]⟩,⟨false,.bool,[0]⟩],false,none,
 ((fun _=>True):(eZ)→Prop),
 ((fun x=>kI dP x.1 x.2):(eZ)→(aW × Bool))⟩
def zE:T:=.loop (.bEL tI (.bEL .bool aA)) (aY (.bEL tI (.bEL .bool aA)) [(.ci .i64 0),(.cb false),(.nl 3 tI)]) <|
 .bEM (.bEP 3 tI) (.p1 aA aA (.Z 0)) <|
 .bEM (.cmp .lss .i64) (.bEN tI tI (.p1 tI (.bEL .bool aA) (.Z 1)) (.Z 2)) <|
 .ite (.Z 3) (
  .call 0 (.Z 0) <|
  .ite (.Z 4) (
   .bEM (.bEQ 3 tI) (.bEN aA tI (.p1 aA aA (.Z 0)) (.p1 tI (.bEL .bool aA) (.Z 1))) <|
   .bEM (.bEQ 3 tI) (.bEN aA tI (aN aU 1 (.Z 0)) (.p1 tI (.bEL .bool aA) (.Z 1))) <|
   .call 1 (.bEN tI tI (.Z 5) (.Z 6)) <|
   .bEM (.lit 3 tI 1) (.p1 tI .bool (.Z 7)) <|
   .bEM (.bES 3 tI 8) (.bEN aA aA (aN (.bEL tI (.bEL .bool aA)) 2 (.Z 1)) (.Z 8)) <|
   .ite (aI (.bEL tI (.bEL .bool aA)) 1 (.Z 1)) (
    .bEM (.ar .add .i64) (.bEN tI tI (.p1 tI (.bEL .bool aA) (.Z 1)) (.ci .i64 1)) <|
    .bEO 0 (aY (.bEL tI (.bEL .bool aA)) [(.Z 10),(.cb true),(.Z 9)])) (
    .bEM (.ar .add .i64) (.bEN tI tI (.p1 tI (.bEL .bool aA) (.Z 1)) (.ci .i64 1)) <|
    .bEO 0 (aY (.bEL tI (.bEL .bool aA)) [(.Z 10),(aN (.bEL tI .bool) 1 (.Z 7)),(.Z 9)]))) (
   .ret (.bEN aA .bool (aN (.bEL tI (.bEL .bool aA)) 2 (.Z 1)) (aI (.bEL tI (.bEL .bool aA)) 1 (.Z 1))))) (
  .ret (.bEN aA .bool (aN (.bEL tI (.bEL .bool aA)) 2 (.Z 1)) (aI (.bEL tI (.bEL .bool aA)) 1 (.Z 1))))
theorem aSR:bJ Tryz.prog [dG,cS] jB false 3000 ⟨[(2989,1001,[.dr 11,.tm 8 0,.tm 7 0,.on 6,.sl 1])],[]⟩ = .ok zE:=by kernel_rfl
theorem aSD (x:eZ) (hx:okD aU x) (hp:(fun _=>True) x):zE.wp [dG,cS] [⟨aU,x⟩] [] (fun v=>v.as (.bEL aA .bool)=(fun x=>kI dP x.1 x.2) x):=by
 obtain ⟨a,b⟩:=x
 delta zE dG cS;refine eE ?_
 simp only[aTH]
 cases h:qI a b
 ·refine jC (fun _=>((0:Int),false,([]:List Int))) 0 rfl fun I μ k hk _ go=>?_
  dsimp only
  simp only[reduceCtorEq,false_implies,true_implies,forall_const,and_true,true_and,implies_true,sS]
  (repeat' first|intro _|(refine go _ ?_ ?_ ?_)|(refine go _ ?_ ?_)|(with_reducible apply And.intro))
  all_goals first|omega|exact aTN h
 ·have hl:=oH h
  rw[aMV h]
  refine jC (fun k=>((k:Int),an k (fun i=>(dP (a.getD i 0) (b.getD i 0)).2),mp k fun i=>(dP (a.getD i 0) (b.getD i 0)).1)) a.length rfl fun I μ k hk _ go=>?_
  dsimp only
  simp only[reduceCtorEq,false_implies,true_implies,forall_const,and_true,true_and,implies_true,sS,nO]
  (repeat' first|intro _|(refine go _ ?_ ?_ ?_)|(refine go _ ?_ ?_)|(with_reducible apply And.intro))
  all_goals first|omega|(unfold maxLen;omega)|(rw[oF,tM];first|exact Prod.ext rfl (Prod.ext (nS (by assumption)) rfl)|exact Prod.ext rfl (Prod.ext (uH (by assumption)) rfl))|(have e:k=a.length:=(by omega);subst e;rfl)
theorem aGL:Con.Holds Tryz.prog jB:=aQ aR (aG uA (aG pV aO)) aSR aSD
def iY:Con:=⟨134,aU,(.bEL aA .bool),[.val ⟨false,aA,[]⟩,.val ⟨false,aA,[]⟩],[⟨false,aA,[2]⟩,⟨false,.bool,[0]⟩],false,none,
 ((fun _=>True):(eZ)→Prop),
 ((fun x=>kI fK x.1 x.2):(eZ)→(aW × Bool))⟩
def aAM:T:=.loop (.bEL tI (.bEL .bool aA)) (aY (.bEL tI (.bEL .bool aA)) [(.ci .i64 0),(.cb false),(.nl 3 tI)]) <|
 .bEM (.bEP 3 tI) (.p1 aA aA (.Z 0)) <|
 .bEM (.cmp .lss .i64) (.bEN tI tI (.p1 tI (.bEL .bool aA) (.Z 1)) (.Z 2)) <|
 .ite (.Z 3) (
  .call 0 (.Z 0) <|
  .ite (.Z 4) (
   .bEM (.bEQ 3 tI) (.bEN aA tI (.p1 aA aA (.Z 0)) (.p1 tI (.bEL .bool aA) (.Z 1))) <|
   .bEM (.bEQ 3 tI) (.bEN aA tI (aN aU 1 (.Z 0)) (.p1 tI (.bEL .bool aA) (.Z 1))) <|
   .call 1 (.bEN tI tI (.Z 5) (.Z 6)) <|
   .bEM (.lit 3 tI 1) (.p1 tI .bool (.Z 7)) <|
   .bEM (.bES 3 tI 8) (.bEN aA aA (aN (.bEL tI (.bEL .bool aA)) 2 (.Z 1)) (.Z 8)) <|
   .ite (aI (.bEL tI (.bEL .bool aA)) 1 (.Z 1)) (
    .bEM (.ar .add .i64) (.bEN tI tI (.p1 tI (.bEL .bool aA) (.Z 1)) (.ci .i64 1)) <|
    .bEO 0 (aY (.bEL tI (.bEL .bool aA)) [(.Z 10),(.cb true),(.Z 9)])) (
    .bEM (.ar .add .i64) (.bEN tI tI (.p1 tI (.bEL .bool aA) (.Z 1)) (.ci .i64 1)) <|
    .bEO 0 (aY (.bEL tI (.bEL .bool aA)) [(.Z 10),(aN (.bEL tI .bool) 1 (.Z 7)),(.Z 9)]))) (
   .ret (.bEN aA .bool (aN (.bEL tI (.bEL .bool aA)) 2 (.Z 1)) (aI (.bEL tI (.bEL .bool aA)) 1 (.Z 1))))) (
  .ret (.bEN aA .bool (aN (.bEL tI (.bEL .bool aA)) 2 (.Z 1)) (aI (.bEL tI (.bEL .bool aA)) 1 (.Z 1))))
theorem aQB:bJ Tryz.prog [dG,pK] iY false 3000 ⟨[(2989,1001,[.dr 11,.tm 8 0,.tm 7 0,.on 6,.sl 1])],[]⟩ = .ok aAM:=by kernel_rfl
theorem aRE (x:eZ) (hx:okD aU x) (hp:(fun _=>True) x):aAM.wp [dG,pK] [⟨aU,x⟩] [] (fun v=>v.as (.bEL aA .bool)=(fun x=>kI fK x.1 x.2) x):=by
 obtain ⟨a,b⟩:=x
 delta aAM dG pK;refine eE ?_
 simp only[aTH]
 cases h:qI a b
 ·refine jC (fun _=>((0:Int),false,([]:List Int))) 0 rfl fun I μ k hk _ go=>?_
  dsimp only
  simp only[reduceCtorEq,false_implies,true_implies,forall_const,and_true,true_and,implies_true,sS]
  (repeat' first|intro _|(refine go _ ?_ ?_ ?_)|(refine go _ ?_ ?_)|(with_reducible apply And.intro))
  all_goals first|omega|exact aTN h
 ·have hl:=oH h
  rw[aMV h]
  refine jC (fun k=>((k:Int),an k (fun i=>(fK (a.getD i 0) (b.getD i 0)).2),mp k fun i=>(fK (a.getD i 0) (b.getD i 0)).1)) a.length rfl fun I μ k hk _ go=>?_
  dsimp only
  simp only[reduceCtorEq,false_implies,true_implies,forall_const,and_true,true_and,implies_true,sS,nO]
  (repeat' first|intro _|(refine go _ ?_ ?_ ?_)|(refine go _ ?_ ?_)|(with_reducible apply And.intro))
  all_goals first|omega|(unfold maxLen;omega)|(rw[oF,tM];first|exact Prod.ext rfl (Prod.ext (nS (by assumption)) rfl)|exact Prod.ext rfl (Prod.ext (uH (by assumption)) rfl))|(have e:k=a.length:=(by omega);subst e;rfl)
theorem aGK:Con.Holds Tryz.prog iY:=aQ aR (aG uA (aG aQJ aO)) aQB aRE
def fM:Con:=⟨185,aK,(.bEL aA .bool),[.val ⟨false,tI,[]⟩,.val ⟨false,aA,[]⟩],[⟨false,aA,[2]⟩,⟨false,.bool,[0]⟩],false,none,
 ((fun _=>True):(iZ)→Prop),
 ((fun x=>yN x.1 x.2):(iZ)→(aW × Bool))⟩
def tP:T:=.loop (.bEL tI (.bEL .bool aA)) (aY (.bEL tI (.bEL .bool aA)) [(.ci .i64 0),(.cb false),(.nl 3 tI)]) <|
 .bEM (.bEP 3 tI) (aN aK 1 (.Z 0)) <|
 .bEM (.cmp .lss .i64) (.bEN tI tI (.p1 tI (.bEL .bool aA) (.Z 1)) (.Z 2)) <|
 .ite (.Z 3) (
  .call 0 (aN aK 1 (.Z 0)) <|
  .ite (.Z 4) (
   .call 1 (.p1 tI aA (.Z 0)) <|
   .ite (.Z 5) (
    .bEM (.bEQ 3 tI) (.bEN aA tI (aN aK 1 (.Z 0)) (.p1 tI (.bEL .bool aA) (.Z 1))) <|
    .call 2 (.bEN tI tI (.p1 tI aA (.Z 0)) (.Z 6)) <|
    .bEM (.lit 3 tI 1) (.p1 tI .bool (.Z 7)) <|
    .bEM (.bES 3 tI 8) (.bEN aA aA (aN (.bEL tI (.bEL .bool aA)) 2 (.Z 1)) (.Z 8)) <|
    .ite (aI (.bEL tI (.bEL .bool aA)) 1 (.Z 1)) (
     .bEM (.ar .add .i64) (.bEN tI tI (.p1 tI (.bEL .bool aA) (.Z 1)) (.ci .i64 1)) <|
     .bEO 0 (aY (.bEL tI (.bEL .bool aA)) [(.Z 10),(.cb true),(.Z 9)])) (
     .bEM (.ar .add .i64) (.bEN tI tI (.p1 tI (.bEL .bool aA) (.Z 1)) (.ci .i64 1)) <|
     .bEO 0 (aY (.bEL tI (.bEL .bool aA)) [(.Z 10),(aN (.bEL tI .bool) 1 (.Z 7)),(.Z 9)]))) (
    .ret (.bEN aA .bool (aN (.bEL tI (.bEL .bool aA)) 2 (.Z 1)) (aI (.bEL tI (.bEL .bool aA)) 1 (.Z 1))))) (
   .ret (.bEN aA .bool (aN (.bEL tI (.bEL .bool aA)) 2 (.Z 1)) (aI (.bEL tI (.bEL .bool aA)) 1 (.Z 1))))) (
  .ret (.bEN aA .bool (aN (.bEL tI (.bEL .bool aA)) 2 (.Z 1)) (aI (.bEL tI (.bEL .bool aA)) 1 (.Z 1))))
theorem aKN:bJ Tryz.prog [bF,eS,fG] fM false 3000 ⟨[(2989,1001,[.dr 11,.tm 8 0,.tm 7 0,.on 6,.sl 1])],[]⟩ = .ok tP:=by kernel_rfl
theorem aKD (x:iZ) (hx:okD aK x) (hp:(fun _=>True) x):tP.wp [bF,eS,fG] [⟨aK,x⟩] [] (fun v=>v.as (.bEL aA .bool)=(fun x=>yN x.1 x.2) x):=by
 obtain ⟨c,a⟩:=x
 delta tP bF eS fG;refine eE ?_
 cases h:kH a
 ·refine jC (fun _=>((0:Int),false,([]:List Int))) 0 rfl fun I μ k hk _ go=>?_
  dsimp only
  simp only[reduceCtorEq,false_implies,true_implies,forall_const,and_true,true_and,implies_true,sS]
  (repeat' first|intro _|(refine go _ ?_ ?_ ?_)|(refine go _ ?_ ?_)|(with_reducible apply And.intro))
  all_goals first|omega|(unfold yN;rw[if_neg (by rw[h];simp)])
 cases h2:fZ c
 ·refine jC (fun _=>((0:Int),false,([]:List Int))) 0 rfl fun I μ k hk _ go=>?_
  dsimp only
  simp only[reduceCtorEq,false_implies,true_implies,forall_const,and_true,true_and,implies_true,sS]
  (repeat' first|intro _|(refine go _ ?_ ?_ ?_)|(refine go _ ?_ ?_)|(with_reducible apply And.intro))
  all_goals first|omega|(unfold yN;rw[if_neg (by rw[h2];simp)])
 ·have hl:=(dU a).1 h
  rw[show yN c a=_ from if_pos ⟨h2,h⟩]
  refine jC (fun k=>((k:Int),an k (fun i=>(gH c (a.getD i 0)).2),mp k fun i=>(gH c (a.getD i 0)).1)) a.length rfl fun I μ k hk _ go=>?_
  dsimp only
  simp only[reduceCtorEq,false_implies,true_implies,forall_const,and_true,true_and,implies_true,sS,nO]
  (repeat' first|intro _|(refine go _ ?_ ?_ ?_)|(refine go _ ?_ ?_)|(with_reducible apply And.intro))
  all_goals first|omega|(unfold maxLen;omega)|(rw[oF,tM];first|exact Prod.ext rfl (Prod.ext (nS (by assumption)) rfl)|exact Prod.ext rfl (Prod.ext (uH (by assumption)) rfl))|(have e:k=a.length:=(by omega);subst e;rfl)
theorem aBE:Con.Holds Tryz.prog fM:=aQ aR (aG fL (aG yA (aG zA aO))) aKN aKD
def dH:Con:=⟨159,aU,(.bEL tI .bool),[.val ⟨false,aA,[]⟩,.val ⟨false,aA,[]⟩],[⟨false,tI,[0]⟩,⟨false,.bool,[0]⟩],false,none,
 ((fun _=>True):(eZ)→Prop),
 ((fun x=>fX x.1 x.2):(eZ)→(Int × Bool))⟩
def zX:T:=.loop (.bEL tI (.bEL .bool tI)) (aY (.bEL tI (.bEL .bool tI)) [(.ci .i64 0),(.cb false),(.ci .i64 0)]) <|
 .bEM (.bEP 3 tI) (.p1 aA aA (.Z 0)) <|
 .bEM (.cmp .lss .i64) (.bEN tI tI (.p1 tI (.bEL .bool tI) (.Z 1)) (.Z 2)) <|
 .ite (.Z 3) (
  .call 0 (.Z 0) <|
  .ite (.Z 4) (
   .bEM (.bEQ 3 tI) (.bEN aA tI (.p1 aA aA (.Z 0)) (.p1 tI (.bEL .bool tI) (.Z 1))) <|
   .bEM (.bEQ 3 tI) (.bEN aA tI (aN aU 1 (.Z 0)) (.p1 tI (.bEL .bool tI) (.Z 1))) <|
   .call 1 (.bEN tI tI (.Z 5) (.Z 6)) <|
   .call 2 (.bEN tI tI (aN (.bEL tI (.bEL .bool tI)) 2 (.Z 1)) (.p1 tI .bool (.Z 7))) <|
   .ite (aI (.bEL tI (.bEL .bool tI)) 1 (.Z 1)) (
    .bEM (.ar .add .i64) (.bEN tI tI (.p1 tI (.bEL .bool tI) (.Z 1)) (.ci .i64 1)) <|
    .bEO 0 (aY (.bEL tI (.bEL .bool tI)) [(.Z 9),(.cb true),(.p1 tI .bool (.Z 8))])) (
    .ite (aN (.bEL tI .bool) 1 (.Z 7)) (
     .bEM (.ar .add .i64) (.bEN tI tI (.p1 tI (.bEL .bool tI) (.Z 1)) (.ci .i64 1)) <|
     .bEO 0 (aY (.bEL tI (.bEL .bool tI)) [(.Z 9),(.cb true),(.p1 tI .bool (.Z 8))])) (
     .bEM (.ar .add .i64) (.bEN tI tI (.p1 tI (.bEL .bool tI) (.Z 1)) (.ci .i64 1)) <|
     .bEO 0 (aY (.bEL tI (.bEL .bool tI)) [(.Z 9),(aN (.bEL tI .bool) 1 (.Z 8)),(.p1 tI .bool (.Z 8))])))) (
   .ret (.bEN tI .bool (aN (.bEL tI (.bEL .bool tI)) 2 (.Z 1)) (aI (.bEL tI (.bEL .bool tI)) 1 (.Z 1))))) (
  .ret (.bEN tI .bool (aN (.bEL tI (.bEL .bool tI)) 2 (.Z 1)) (aI (.bEL tI (.bEL .bool tI)) 1 (.Z 1))))
theorem aRU:bJ Tryz.prog [dG,fG,cS] dH false 3000 ⟨[(2989,1001,[.tm 8 0,.tm 7 0,.tm 6 0])],[]⟩ = .ok zX:=by kernel_rfl
theorem aR8 (x:eZ) (hx:okD aU x) (hp:(fun _=>True) x):zX.wp [dG,fG,cS] [⟨aU,x⟩] [] (fun v=>v.as (.bEL tI .bool)=(fun x=>fX x.1 x.2) x):=by
 obtain ⟨a,b⟩:=x
 delta zX dG fG cS;refine eE ?_
 simp only[aTH]
 cases h:qI a b
 ·refine jC (fun _=>((0:Int),false,(0:Int))) 0 rfl fun I μ k hk _ go=>?_
  dsimp only
  simp only[reduceCtorEq,false_implies,true_implies,forall_const,and_true,true_and,implies_true,sS]
  (repeat' first|intro _|(refine go _ ?_ ?_ ?_)|(refine go _ ?_ ?_)|(with_reducible apply And.intro))
  all_goals first|omega|(unfold fX;rw[if_neg (by rw[h];exact Bool.false_ne_true)])
 ·have hl:=oH h
  rw[show fX a b=_ from if_pos h]
  refine jC (fun k=>((k:Int),(aGS a b k).2,(aGS a b k).1)) a.length rfl fun I μ k hk _ go=>?_
  dsimp only
  simp only[reduceCtorEq,false_implies,true_implies,forall_const,and_true,true_and,implies_true,sS]
  (repeat' first|intro _|(refine go _ ?_ ?_ ?_)|(refine go _ ?_ ?_)|(with_reducible apply And.intro))
  all_goals first|omega|(rw[aUU];first|exact Prod.ext rfl (Prod.ext (bE1 (by assumption)) rfl)|exact Prod.ext rfl (Prod.ext (bE6 (by assumption) (by assumption)) rfl)|exact Prod.ext rfl (Prod.ext (bE3 (by assumption) (by assumption)) rfl))|(have e:k=a.length:=(by omega);subst e;rfl)
theorem tA:Con.Holds Tryz.prog dH:=aQ aR (aG uA (aG zA (aG pV aO))) aRU aR8
def nC:Con:=⟨184,aA,aA,[.val ⟨false,aA,[]⟩],[⟨false,aA,[2]⟩],false,none,
 ((fun _=>True):(List Int)→Prop),
 ((fun x=>sY x):(List Int)→(List Int))⟩
def wA:T:=.loop aK (.bEN tI aA (.ci .i64 0) (.nl 3 tI)) <|
 .bEM (.bEP 3 tI) (.Z 0) <|
 .bEM (.cmp .lss .i64) (.bEN tI tI (.p1 tI aA (.Z 1)) (.Z 2)) <|
 .ite (.Z 3) (
  .call 0 (.Z 0) <|
  .ite (.Z 4) (
   .bEM (.bEQ 3 tI) (.bEN aA tI (.Z 0) (.p1 tI aA (.Z 1))) <|
   .call 1 (.Z 5) <|
   .bEM (.lit 3 tI 1) (.Z 6) <|
   .bEM (.bES 3 tI 8) (.bEN aA aA (aN aK 1 (.Z 1)) (.Z 7)) <|
   .bEM (.ar .add .i64) (.bEN tI tI (.p1 tI aA (.Z 1)) (.ci .i64 1)) <|
   .bEO 0 (.bEN tI aA (.Z 9) (.Z 8))) (
   .ret (aN aK 1 (.Z 1)))) (
  .ret (aN aK 1 (.Z 1)))
theorem aP1:bJ Tryz.prog [bF,wD] nC false 3000 ⟨[(2991,1001,[.dr 5,.tm 4 0,.on 3,.sl 1])],[]⟩ = .ok wA:=by kernel_rfl
theorem aMR (x:List Int) (hx:okD aA x) (hp:(fun _=>True) x):wA.wp [bF,wD] [⟨aA,x⟩] [] (fun v=>v.as aA=(fun x=>sY x) x):=by
 obtain ⟨a,rfl⟩:∃ a,a=x:=⟨_,rfl⟩
 delta wA bF wD;refine eE ?_
 cases h:kH a
 ·refine jC (fun _=>((0:Int),([]:List Int))) 0 rfl fun I μ k hk _ go=>?_
  dsimp only
  simp only[reduceCtorEq,false_implies,true_implies,forall_const,and_true,true_and,implies_true,sS]
  (repeat' first|intro _|(refine go _ ?_ ?_ ?_)|(refine go _ ?_ ?_)|(with_reducible apply And.intro))
  all_goals first|omega|(unfold sY;rw[if_neg (by rw[h];exact Bool.false_ne_true)])
 ·have hl:=(dU a).1 h
  rw[show sY a=_ from if_pos h]
  refine jC (fun k=>((k:Int),mp k fun i=>aU4 (a.getD i 0))) a.length rfl fun I μ k hk _ go=>?_
  dsimp only
  simp only[reduceCtorEq,false_implies,true_implies,forall_const,and_true,true_and,implies_true,sS,nO]
  (repeat' first|intro _|(refine go _ ?_ ?_ ?_)|(refine go _ ?_ ?_)|(with_reducible apply And.intro))
  all_goals first|omega|(unfold maxLen;omega)|(rw[oF];rfl)|(have e:k=a.length:=(by omega);subst e;rfl)
theorem aNG:Con.Holds Tryz.prog nC:=aQ aR (aG fL (aG aY7 aO)) aP1 aMR
def mR:Con:=⟨187,aU,aA,[.val ⟨false,aA,[]⟩,.val ⟨false,aA,[]⟩],[⟨false,aA,[2]⟩],false,none,
 ((fun _=>True):(eZ)→Prop),
 ((fun x=>tU x.1 x.2):(eZ)→(List Int))⟩
def vF:T:=.loop aK (.bEN tI aA (.ci .i64 0) (.nl 3 tI)) <|
 .bEM (.bEP 3 tI) (.p1 aA aA (.Z 0)) <|
 .bEM (.cmp .lss .i64) (.bEN tI tI (.p1 tI aA (.Z 1)) (.Z 2)) <|
 .ite (.Z 3) (
  .call 0 (.Z 0) <|
  .ite (.Z 4) (
   .bEM (.bEQ 3 tI) (.bEN aA tI (.p1 aA aA (.Z 0)) (.p1 tI aA (.Z 1))) <|
   .bEM (.cmp .gtr .i64) (.bEN tI tI (.Z 5) (.ci .i64 0)) <|
   .ite (.Z 6) (
    .bEM (.bEQ 3 tI) (.bEN aA tI (aN aU 1 (.Z 0)) (.p1 tI aA (.Z 1))) <|
    .bEM (.lit 3 tI 1) (.Z 7) <|
    .bEM (.bES 3 tI 8) (.bEN aA aA (aN aK 1 (.Z 1)) (.Z 8)) <|
    .bEM (.ar .add .i64) (.bEN tI tI (.p1 tI aA (.Z 1)) (.ci .i64 1)) <|
    .bEO 0 (.bEN tI aA (.Z 10) (.Z 9))) (
    .bEM (.lit 3 tI 1) (.ci .i64 0) <|
    .bEM (.bES 3 tI 8) (.bEN aA aA (aN aK 1 (.Z 1)) (.Z 7)) <|
    .bEM (.ar .add .i64) (.bEN tI tI (.p1 tI aA (.Z 1)) (.ci .i64 1)) <|
    .bEO 0 (.bEN tI aA (.Z 9) (.Z 8)))) (
   .ret (aN aK 1 (.Z 1)))) (
  .ret (aN aK 1 (.Z 1)))
theorem aPH:bJ Tryz.prog [dG] mR false 3000 ⟨[(2991,1001,[.dr 7,.tm 6 0,.on 5,.sl 1])],[]⟩ = .ok vF:=by kernel_rfl
theorem aNZ (x:eZ) (hx:okD aU x) (hp:(fun _=>True) x):vF.wp [dG] [⟨aU,x⟩] [] (fun v=>v.as aA=(fun x=>tU x.1 x.2) x):=by
 obtain ⟨a,b⟩:=x
 delta vF dG;refine eE ?_
 simp only[aTH]
 cases h:qI a b
 ·refine jC (fun _=>((0:Int),([]:List Int))) 0 rfl fun I μ k hk _ go=>?_
  dsimp only
  simp only[reduceCtorEq,false_implies,true_implies,forall_const,and_true,true_and,implies_true,sS]
  (repeat' first|intro _|(refine go _ ?_ ?_ ?_)|(refine go _ ?_ ?_)|(with_reducible apply And.intro))
  all_goals first|omega|(unfold tU;rw[if_neg (by rw[h];exact Bool.false_ne_true)])
 ·have hl:=oH h
  rw[show tU a b=_ from if_pos h]
  refine jC (fun k=>((k:Int),mp k fun i=>if 0<a.getD i 0 then b.getD i 0 else 0)) a.length rfl fun I μ k hk _ go=>?_
  dsimp only
  simp only[reduceCtorEq,false_implies,true_implies,forall_const,and_true,true_and,implies_true,sS,nO]
  have e1:0<a.getD k 0→b.getD k 0=if 0<a.getD k 0 then b.getD k 0 else 0:=fun h=>(if_pos h).symm
  have e2:a.getD k 0≤0→0=if 0<a.getD k 0 then b.getD k 0 else 0:=fun h=>(if_neg (by omega)).symm
  (repeat' first|intro _|(refine go _ ?_ ?_ ?_)|(refine go _ ?_ ?_)|(with_reducible apply And.intro))
  all_goals first|omega|(unfold maxLen;omega)|(rw[oF];first|exact Prod.ext rfl (congrArg (mp k _++[·]) (e1 (by assumption)))|exact Prod.ext rfl (congrArg (mp k _++[·]) (e2 (by assumption))))|(have e:k=a.length:=(by omega);subst e;rfl)
theorem aNQ:Con.Holds Tryz.prog mR:=aQ aR (aG uA aO) aPH aNZ
end
end Go.Proofs.YtdeobhdbmehpgaaGreat
