/- CoreL: lemmas. No conditions. -/
import Derived.Test.YtpafjioccjpmfaaGreatCore9
namespace Go.Proofs.YtpafjioccjpmfaaGreat
noncomputable section
set_option maxRecDepth 100000
open Go.ChangeShapes Go.WideShapes Go.ChangeAt Go.RowKit Go.Deep
set_option linter.unusedVariables false
set_option linter.unusedSimpArgs false
def kJ (r:dG):Nat:=(r.map List.length).sum
def yG (l:List gK):Nat:=(l.map fun x=>kJ x.2).sum
def vC (s:bG):Int:=((s.2.2.2.2.2.2.2.1.length+s.2.2.2.2.2.2.2.2.1.length+s.2.2.2.2.2.2.2.2.2.1.length+s.2.2.2.2.2.2.2.2.2.2.1.length+kJ s.2.2.2.2.2.2.1+yG s.2.2.2.2.2.1:Nat):Int)
def pW (s:bG):Nat:=s.2.1.length - s.1.toNat
def dD (p:bF):Int:=(((p.2.1.map pW).sum:Nat):Int)
def aPD (p:bF):Bool:=decide (0<p.2.1.length)&&decide (dD p=0)
def jU (p:bF):Nat→List Int
 | 0=>[]
 | k+1=>jU p k++(if cC p (k:Int)=true then [(k:Int)] else [])
def iY (p:bF):List Int:=jU p p.2.1.length
theorem aJU (p:bF):(k:Nat)→(jU p k).length≤k
 | 0=>Nat.le_refl _
 | k+1=>by
  have:=aJU p k
  rw[jU,List.length_append]
  split
  ·simp;omega
  ·simp;omega
theorem bA7 {r:dG} {k:Nat} (h:k<r.length):((r.take (k+1)).map List.length).sum=((r.take k).map List.length).sum+r[k].length:=mO List.length r k h
theorem wK {α:Type} (f g:α→Nat):(l:List α)→(∀ x∈l,f x≤g x)→(l.map f).sum≤(l.map g).sum
 | [],_=>Nat.le_refl _
 | a :: l,h=>by
  have h1:=h a (by simp)
  have h2:=wK f g l fun x hx=>h x (by simp[hx])
  simp only[List.map_cons,List.sum_cons];omega
theorem lW {α:Type} (f:α→Nat) (l:List α) (k:Nat):((l.take k).map f).sum≤(l.map f).sum:=by
 have e:(l.map f).sum=((l.take k++l.drop k).map f).sum:=by rw[List.take_append_drop]
 rw[e,List.map_append,List.sum_append];omega
theorem bHT (s:bG):pW s≤bS aA s:=by
 have h:List.length s.2.1≤bS aR s.2.1:=pN (e:=76) (t:=aD) s.2.1
 have h3:=fN s
 unfold pW;omega
theorem bBF (l:List bG):(l.map pW).sum≤bS (.slice 66 aA) l:=by
 have h:=wK pW (bS aA) l fun x _=>bHT x
 have e:bS (.slice 66 aA) l=l.length+(l.map (bS aA)).sum:=rfl
 omega
theorem bLL (p:bF):0≤dD p∧dD p≤(bS aK p:Nat):=by
 have h:=bBF p.2.1
 have e:=xY p
 unfold dD;omega
theorem aF4 (r:dG):kJ r≤bS aO r:=by
 have h:=wK List.length (bS aFJ) r fun x _=>by have e:=gN x;have e2:bS aFJ x=bS aB x:=rfl;omega
 have e:bS aO r=r.length+(r.map (bS aFJ)).sum:=rfl
 unfold kJ;omega
theorem aU1 (l:List gK):yG l≤bS qX l:=by
 have h:=wK (fun x:gK=>kJ x.2) (bS aL) l fun x _=>by have e:=aF4 x.2;have e2:bS aL x=0+bS aO x.2:=rfl;omega
 have e:bS qX l=l.length+(l.map (bS aL)).sum:=rfl
 unfold yG;omega
theorem bG0 (s:bG):0≤vC s∧vC s≤(bS aA s:Nat):=by
 have h1:=aF4 s.2.2.2.2.2.2.1
 have h2:=aU1 s.2.2.2.2.2.1
 have h3:=fN s
 unfold vC
 omega
theorem bMJ (s:bG):List.length s.2.1≤bS aA s:=by
 have h:List.length s.2.1≤bS aR s.2.1:=pN (e:=76) (t:=aD) s.2.1
 have h3:=fN s
 omega
theorem bFT {p:bF} (hz:bS aK p=bS aF p.1+(bS (.slice 66 aA) p.2.1+(bS aU p.2.2.1+bS aU p.2.2.2))) (hp:bS aK p≤1000000000) {k:Nat} (hk:k<List.length p.2.1):List.length (p.2.1[k]).2.1≤1000000000:=by
 have h5:bS aA (p.2.1[k])≤bS (.slice 66 aA) p.2.1:=rN (List.getElem_mem hk)
 have h6:=bMJ (p.2.1[k])
 omega
def qH:Con:=⟨60,aO,tI,[.val ⟨false,aO,[]⟩],[⟨false,tI,[0]⟩],false,none,
 ((fun x=>bS aO x≤1000000000):(dG)→Prop),
 ((fun x=>((kJ x:Nat):Int)):(dG)→(Int))⟩
def zQ:T :=
 .bPX (.bQ0 134 aB) (.Z 0) <|
 .loop aD (.bPY tI tI (.ci .i64 0) (.ci .i64 0)) <|
  .bPX (.cmp .lss .i64) (.bPY tI tI (.p1 tI tI (.Z 2)) (.Z 1)) <|
  .ite (.Z 3) (
   .bPX (.bQ1 134 aB) (.bPY aO tI (.Z 0) (.p1 tI tI (.Z 2))) <|
   .bPX (.bQ0 3 tI) (.Z 4) <|
   .bPX (.ar .add .i64) (.bPY tI tI (aS aD 1 (.Z 2)) (.Z 5)) <|
   .bPX (.ar .add .i64) (.bPY tI tI (.p1 tI tI (.Z 2)) (.ci .i64 1)) <|
   .bPZ 0 (.bPY tI tI (.Z 7) (.Z 6))) (
   .ret (aS aD 1 (.Z 2)))
theorem aTG:bW Tryz.prog [] qH false 3000 ⟨[(2991,1002,[.dr 0,.tm 8 0,.tm 3 0])],[]⟩ = .ok zQ:=by kernel_rfl
theorem aV8 (x:dG) (hx:okD aO x) (hp:(fun x=>bS aO x≤1000000000) x):zQ.wp [] [⟨aO,x⟩] [] (fun v=>v.as tI=(fun x=>((kJ x:Nat):Int)) x):=by
 have hw:=aF4 x
 have hp:bS aO x≤1000000000:=hp
 have hl:List.length x≤1000000000:=(rC (t:=aO) hp).1
 delta zQ;refine dY ?_;try with_reducible exact True.intro
 (repeat' first|intro _|(with_reducible apply And.intro))
 refine eW (fun k=>((k:Int),((((List.take k x).map List.length).sum:Nat):Int))) (List.length x) rfl fun I μ k hk _ go=>?_
 dsimp only
 refine eD ?_
 have hs:=lW List.length x k
 have hs2:=lW List.length x (k+1)
 unfold kJ at hw
 constructor
 ·intro hlt
  have hk':k<List.length x:=by omega
  have e:=bA7 hk'
  simp only[aW hk']
  (repeat' first|intro _|(refine go _ ?_ ?_ ?_)|(refine go _ ?_ ?_)|(with_reducible apply And.intro))
  all_goals first|omega|(refine Prod.ext rfl ?_;refine @Eq.trans Int _ _ _ ?_ rfl;dsimp only;omega)|skip
 ·intro hge
  rw[List.take_of_length_le (by omega)];rfl
theorem aTH:Con.Holds Tryz.prog qH:=aX aZ aT aTG aV8
def lO:Con:=⟨28,aA,tI,[.val ⟨true,aA,[]⟩],[⟨false,tI,[0]⟩],false,none,
 ((fun x=>bS aA x≤1000000000):(bG)→Prop),
 ((fun x=>vC x):(bG)→(Int))⟩
def aE4:T :=
 .bPX (.bQ0 3 tI) (aH aA 7 (.Z 0)) <|
 .bPX (.bQ0 3 tI) (aH aA 8 (.Z 0)) <|
 .bPX (.ar .add .i64) (.bPY tI tI (.Z 1) (.Z 2)) <|
 .bPX (.bQ0 3 tI) (aH aA 9 (.Z 0)) <|
 .bPX (.ar .add .i64) (.bPY tI tI (.Z 3) (.Z 4)) <|
 .bPX (.bQ0 3 tI) (aH aA 10 (.Z 0)) <|
 .bPX (.ar .add .i64) (.bPY tI tI (.Z 5) (.Z 6)) <|
 .call 0 (aH aA 6 (.Z 0)) <|
 .bPX (.ar .add .i64) (.bPY tI tI (.Z 7) (.Z 8)) <|
 .bPX (.bQ0 104 aL) (aH aA 5 (.Z 0)) <|
 .loop aD (.bPY tI tI (.ci .i64 0) (.Z 9)) <|
  .bPX (.cmp .lss .i64) (.bPY tI tI (.p1 tI tI (.Z 11)) (.Z 10)) <|
  .ite (.Z 12) (
   .bPX (.bQ1 104 aL) (.bPY (.slice 104 aL) tI (aH aA 5 (.Z 0)) (.p1 tI tI (.Z 11))) <|
   .call 0 (aS aL 1 (.Z 13)) <|
   .bPX (.ar .add .i64) (.bPY tI tI (aS aD 1 (.Z 11)) (.Z 14)) <|
   .bPX (.ar .add .i64) (.bPY tI tI (.p1 tI tI (.Z 11)) (.ci .i64 1)) <|
   .bPZ 0 (.bPY tI tI (.Z 16) (.Z 15))) (
   .ret (aS aD 1 (.Z 11)))
theorem bAQ:bW Tryz.prog [qH] lO false 3000 ⟨[(2991,1011,jV 25 22++jV 20 18++jV 16 14++jV 12 10++[.dr 8,.dr 7,.dr 21,.dr 17,.dr 13,.dr 9,.dr 6,.dr 1,.dr 0,.tm 28 0,.tm 3 0])],[]⟩ = .ok aE4:=by kernel_rfl
theorem aY1 (x:bG) (hx:okD aA x) (hp:(fun x=>bS aA x≤1000000000) x):aE4.wp [qH] [⟨aA,x⟩] [] (fun v=>v.as tI=(fun x=>vC x) x):=by
 have hp:bS aA x≤1000000000:=hp
 have h1:=aF4 x.2.2.2.2.2.2.1
 have h2:=aU1 x.2.2.2.2.2.1
 have h3:=fN x
 have hl:List.length x.2.2.2.2.2.1≤1000000000:=(rC (t:=aA) hp).2.2.2.2.2.1.1
 have hm:∀ k (hk:k<List.length x.2.2.2.2.2.1),bS aO (x.2.2.2.2.2.1[k]).2≤1000000000:=fun k hk=>by
  have h:=rN (e:=104) (t:=aL) (List.getElem_mem hk)
  have e:bS aL (x.2.2.2.2.2.1[k])=0+bS aO (x.2.2.2.2.2.1[k]).2:=rfl
  have e2:bS qX x.2.2.2.2.2.1=bS (.slice 104 aL) x.2.2.2.2.2.1:=rfl
  omega
 delta aE4 qH;refine dY ?_
 refine eD ?_
 unfold yG at h2
 (repeat' first|intro _|(with_reducible apply And.intro))
 all_goals first|omega|skip
 refine eW (fun k=>((k:Int),(((List.length x.2.2.2.2.2.2.2.1:Nat):Int)+((List.length x.2.2.2.2.2.2.2.2.1:Nat):Int)+((List.length x.2.2.2.2.2.2.2.2.2.1:Nat):Int)+((List.length x.2.2.2.2.2.2.2.2.2.2.1:Nat):Int)+((kJ x.2.2.2.2.2.2.1:Nat):Int))+((((List.take k x.2.2.2.2.2.1).map fun y=>kJ y.2).sum:Nat):Int))) (List.length x.2.2.2.2.2.1) (Prod.ext rfl (Int.add_zero _).symm) fun I μ k hk _ go=>?_
 dsimp only
 refine eD ?_
 have hs:=lW (fun y:gK=>kJ y.2) x.2.2.2.2.2.1 k
 have hs2:=lW (fun y:gK=>kJ y.2) x.2.2.2.2.2.1 (k+1)
 constructor
 ·intro hlt
  have hk':k<List.length x.2.2.2.2.2.1:=by omega
  have e:=mO (fun y:gK=>kJ y.2) x.2.2.2.2.2.1 k hk'
  have hmk:=hm k hk'
  simp only[aW hk']
  try dsimp only at e
  (repeat' first|intro _|(refine go _ ?_ ?_ ?_)|(refine go _ ?_ ?_)|(with_reducible apply And.intro))
  all_goals first|omega|exact hmk|(refine Prod.ext rfl ?_;refine @Eq.trans Int _ _ _ ?_ rfl;dsimp only;omega)|skip
 ·intro hge
  rw[List.take_of_length_le (by omega)]
  refine @Eq.trans Int _ _ _ ?_ rfl
  unfold vC yG
  omega
theorem aL9:Con.Holds Tryz.prog lO:=aX aZ (aG aTH aT) bAQ aY1
def aBG:Con:=⟨57,aK,tI,[.val ⟨true,aK,[]⟩],[⟨false,tI,[0]⟩],false,none,
 ((fun x=>bS aK x≤1000000000):(bF)→Prop),
 ((fun x=>dD x):(bF)→(Int))⟩
def aM0:T :=
 .bPX (.bQ0 66 aA) (aH aK 1 (.Z 0)) <|
 .loop aD (.bPY tI tI (.ci .i64 0) (.ci .i64 0)) <|
  .bPX (.cmp .lss .i64) (.bPY tI tI (.p1 tI tI (.Z 2)) (.Z 1)) <|
  .ite (.Z 3) (
   .bPX (.bQ1 66 aA) (.bPY (.slice 66 aA) tI (aH aK 1 (.Z 0)) (.p1 tI tI (.Z 2))) <|
   .bPX (.bQ0 76 aD) (aH aA 1 (.Z 4)) <|
   .bPX (.mx .i64) (.bPY tI tI (.p1 tI gO (.Z 4)) (.ci .i64 0)) <|
   .bPX (.bQ0 76 aD) (aH aA 1 (.Z 4)) <|
   .bPX (.mn .i64) (.bPY tI tI (.Z 6) (.Z 7)) <|
   .bPX (.ar .sub .i64) (.bPY tI tI (.Z 5) (.Z 8)) <|
   .bPX (.ar .add .i64) (.bPY tI tI (aS aD 1 (.Z 2)) (.Z 9)) <|
   .bPX (.ar .add .i64) (.bPY tI tI (.p1 tI tI (.Z 2)) (.ci .i64 1)) <|
   .bPZ 0 (.bPY tI tI (.Z 11) (.Z 10))) (
   .ret (aS aD 1 (.Z 2)))
theorem bK8:bW Tryz.prog [] aBG false 3000 ⟨[(2991,1002,[.dr 6,.dr 1,.dr 0,.tm 9 0,.tm 3 0])],[]⟩ = .ok aM0:=by kernel_rfl
theorem bI4 (x:bF) (hx:okD aK x) (hp:(fun x=>bS aK x≤1000000000) x):aM0.wp [] [⟨aK,x⟩] [] (fun v=>v.as tI=(fun x=>dD x) x):=by
 have hp:bS aK x≤1000000000:=hp
 have hs0:=bBF x.2.1
 have hz:=xY x
 have hl:List.length x.2.1≤bS (.slice 66 aA) x.2.1:=pN (e:=66) (t:=aA) x.2.1
 delta aM0;refine dY ?_
 (refine eD ?_;try with_reducible exact True.intro)
 (repeat' first|intro _|(with_reducible apply And.intro))
 refine eW (fun k=>((k:Int),((((List.take k x.2.1).map pW).sum:Nat):Int))) (List.length x.2.1) rfl fun I μ k hk _ go=>?_
 dsimp only
 refine eD ?_
 have hs:=lW pW x.2.1 k
 have hs2:=lW pW x.2.1 (k+1)
 by_cases hk':k<List.length x.2.1
 ·have e:=mO pW x.2.1 k hk'
  have hlk:=bFT hz hp hk'
  have hpcb:-9223372036854775808≤(x.2.1[k]).1∧(x.2.1[k]).1≤9223372036854775807:=(hx.2.1.2 _ (List.getElem_mem hk')).1
  simp only[aW hk']
  have e9:pW (x.2.1[k])=List.length (x.2.1[k]).2.1 - (x.2.1[k]).1.toNat:=rfl
  (repeat' first|intro _|(refine go _ ?_ ?_ ?_)|(refine go _ ?_ ?_)|(with_reducible apply And.intro))
  all_goals first|omega|(refine Prod.ext rfl ?_;refine @Eq.trans Int _ _ _ ?_ rfl;dsimp only;omega)|skip
 ·(repeat' first|intro _|(refine go _ ?_ ?_ ?_)|(refine go _ ?_ ?_)|(with_reducible apply And.intro))
  all_goals first|omega|(rw[List.take_of_length_le (by omega)];rfl)|skip
theorem bH1:Con.Holds Tryz.prog aBG:=aX aZ aT bK8 bI4
def aA0:Con:=⟨26,aK,.bool,[.val ⟨true,aK,[]⟩],[⟨false,.bool,[0]⟩],false,none,
 ((fun x=>bS aK x≤1000000000):(bF)→Prop),
 ((fun x=>aPD x):(bF)→(Bool))⟩
def aL3:T :=
 .bPX (.bQ0 66 aA) (aH aK 1 (.Z 0)) <|
 .bPX (.cmp .gtr .i64) (.bPY tI tI (.Z 1) (.ci .i64 0)) <|
 .ite (.Z 2) (
  .call 0 (.Z 0) <|
  .bPX (.cmp .eql .i64) (.bPY tI tI (.Z 3) (.ci .i64 0)) <|
  .ret (.Z 4)) (
  .ret (.cb false))
theorem bGF:bW Tryz.prog [aBG] aA0 false 3000 ⟨[],[]⟩ = .ok aL3:=by kernel_rfl
theorem bIK (x:bF) (hx:okD aK x) (hp:(fun x=>bS aK x≤1000000000) x):aL3.wp [aBG] [⟨aK,x⟩] [] (fun v=>v.as .bool=(fun x=>aPD x) x):=by
 delta aL3 aBG;refine dY ?_
 (refine eD ?_;try with_reducible exact True.intro)
 (repeat' first|intro _|(with_reducible apply And.intro))
 all_goals first|exact hp|skip
 ·unfold aPD;rw[decide_eq_true (show 0<List.length x.2.1 by omega),Bool.true_and];rfl
 ·unfold aPD;rw[decide_eq_false (show ¬ 0<List.length x.2.1 by omega),Bool.false_and]
theorem bH8:Con.Holds Tryz.prog aA0:=aX aZ (aG bH1 aT) bGF bIK
def kT:Con:=⟨58,aK,aB,[.val ⟨true,aK,[]⟩],[⟨false,aB,[2]⟩],false,none,
 ((fun x=>bS aK x≤1000000000):(bF)→Prop),
 ((fun x=>iY x):(bF)→(List Int))⟩
def tW:T :=
 .bPX (.bQ0 66 aA) (aH aK 1 (.Z 0)) <|
 .loop aI (.bPY tI aB (.ci .i64 0) (.nl 3 tI)) <|
  .bPX (.cmp .lss .i64) (.bPY tI tI (.p1 tI aB (.Z 2)) (.Z 1)) <|
  .ite (.Z 3) (
   .call 0 (.bPY aK tI (.Z 0) (.p1 tI aB (.Z 2))) <|
   .ite (.Z 4) (
    .bPX (.lit 3 tI 1) (.p1 tI aB (.Z 2)) <|
    .bPX (.bQ3 3 tI 8) (.bPY aB aB (aS aI 1 (.Z 2)) (.Z 5)) <|
    .bPX (.ar .add .i64) (.bPY tI tI (.p1 tI aB (.Z 2)) (.ci .i64 1)) <|
    .bPZ 0 (.bPY tI aB (.Z 7) (.Z 6))) (
    .bPX (.ar .add .i64) (.bPY tI tI (.p1 tI aB (.Z 2)) (.ci .i64 1)) <|
    .bPZ 0 (.bPY tI aB (.Z 5) (aS aI 1 (.Z 2))))) (
   .ret (aS aI 1 (.Z 2)))
theorem aMU:bW Tryz.prog [gB] kT false 3000 ⟨[(2991,1002,jV 7 5++[.dr 0,.tm 9 0,.on 3,.sl 2])],[]⟩ = .ok tW:=by kernel_rfl
theorem aLG (x:bF) (hx:okD aK x) (hp:(fun x=>bS aK x≤1000000000) x):tW.wp [gB] [⟨aK,x⟩] [] (fun v=>v.as aB=(fun x=>iY x) x):=by
 have hp:bS aK x≤1000000000:=hp
 have hz:=xY x
 have hl:List.length x.2.1≤bS (.slice 66 aA) x.2.1:=pN (e:=66) (t:=aA) x.2.1
 delta tW gB;refine dY ?_
 refine eD ?_
 intro _
 refine eW (fun k=>((k:Int),jU x k)) (List.length x.2.1) rfl fun I μ k hk _ go=>?_
 dsimp only
 refine eD ?_
 have hw:=aJU x k
 (repeat' first|intro _|(refine go _ ?_ ?_ ?_)|(refine go _ ?_ ?_)|(with_reducible apply And.intro))
 all_goals first|omega|(unfold maxLen;omega)|(rw[jU,if_pos (by assumption)];rfl)|(rw[jU,if_neg (by simp_all),List.append_nil];rfl)|(have e:k=List.length x.2.1:=(by omega);subst e;rfl)|skip
theorem aMZ:Con.Holds Tryz.prog kT:=aX aZ (aG aB0 aT) aMU aLG
end
end Go.Proofs.YtpafjioccjpmfaaGreat
