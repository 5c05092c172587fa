/- Core6: lemmas. No conditions. -/
import Derived.Test.YtdeobhdbmehpgaaGreatSeq5
import Derived.Test.YtdeobhdbmehpgaaGreatPipe4
import Derived.Test.YtdeobhdbmehpgaaGreatCpy2
import Derived.Test.YtdeobhdbmehpgaaGreatCe
namespace Go.Proofs.YtdeobhdbmehpgaaGreat
noncomputable section
set_option maxRecDepth 100000
open Go.ChangeShapes Go.WideShapes Go.ChangeAt Go.RowKit Go.Deep
set_option linter.unusedVariables false
set_option linter.unusedSimpArgs false
theorem aIK {e:TypeId} {l:cV} (h:bCU (.slice e aKN) l):List.length l≤1000000000∧∀ y∈l,List.length y≤1000000000:=⟨h.1,fun y hy=>(h.2 y hy).1⟩
theorem aU3 {g:dP} (h:bCU aT g):jE g:=aIK h.1
def bIX:cC:=aV aF
def tV (q:bX) (x:cC):bX × Bool:=if gD q=true∧wD x=true∧(q.2.length:Int)<q.1 then ((q.1,q.2++[x]),true) else (q,false)
def wJ (q:bX):bX × (cC × Bool):=if gD q=true∧0<q.2.length then ((q.1,q.2.drop 1),q.2.getD 0 bIX,true) else (q,bIX,false)
theorem gA {q:bX} {x:cC} (h:gD q=false∨wD x=false∨¬ (q.2.length:Int)<q.1):(q,false)=tV q x:=by
 unfold tV;rw[if_neg]
 rintro ⟨h1,h2,h3⟩
 rcases h with h|h|h
 ·rw[h] at h1;cases h1
 ·rw[h] at h2;cases h2
 ·exact h h3
theorem pL {q:bX} {x:cC} (h1:gD q=true) (h2:wD x=true) (h3:(q.2.length:Int)<q.1):((q.1,q.2++[x]),true)=tV q x:=by unfold tV;rw[if_pos ⟨h1,h2,h3⟩]
theorem zM {q:bX} (h:gD q=false∨q.2.length=0):(q,(0,[]),false)=wJ q:=by
 unfold wJ;rw[if_neg]
 ·rfl
 rintro ⟨h1,h2⟩
 rcases h with h|h
 ·rw[h] at h1;cases h1
 ·omega
theorem tJ {q:bX} (h1:gD q=true) (h2:0<q.2.length):((q.1,q.2.drop 1),q.2.getD 0 bIX,true)=wJ q:=by unfold wJ;rw[if_pos ⟨h1,h2⟩]
theorem aAM {x:cC} (h:iA x.2=false∨x.1<0∨4<x.1):wD x=false:=by
 refine Bool.eq_false_iff.2 fun hh=>?_
 rw[jV] at hh
 rcases h with h|h
 ·rw[h] at hh;cases hh.1
 ·omega
theorem aP2 {x:cC} (h:iA x.2=true) (h2:0≤x.1) (h3:x.1<5):wD x=true:=(jV _).2 ⟨h,h2,h3⟩
theorem aAA {x:cC} (h:wD x=true):x.2.length≤6:=((cL _).1 ((jV _).1 h).1).2.1
theorem aBW {q:bX} (h:gD q=true):(q.2.length:Int)≤q.1∧q.2.length≤5:=by have:=(mM.1 h).1;omega
theorem tU {q:bX} (h:gD q=true) (h2:0<q.2.length):(q.2.getD 0 (aV aF)).2.length≤6:=aAA ((mM.1 h).2 0 h2)
def nC (l:List iQ) (m:Int):Nat→Int
 | 0=>-1
 | k+1=>if nC l m k = -1∧(l.getD k (aV aD)).1=m then (k:Int) else nC l m k
def dU (l:List iQ) (m:Int):Int:=nC l m l.length
theorem zO (l:List iQ) (m:Int):(k:Nat)→-1≤nC l m k∧nC l m k<k
 | 0=>by unfold nC;omega
 | k+1=>by
  have:=zO l m k
  unfold nC;split <;> omega
theorem aLU {l : List iQ} {m : Int} : {k n : Nat} → k ≤ n → nC l m k ≠ -1 → nC l m n = nC l m k
  | k, 0, h, _ => by have : k = 0 := by omega
                     subst this; rfl
  | k, n + 1, h, hk => by
    rcases Nat.lt_or_eq_of_le h with h | rfl
    · have e := aLU (Nat.le_of_lt_succ h) hk
      rw [nC, if_neg (fun hh => hk (e ▸ hh.1)), e]
    · rfl
theorem aOF {l:List iQ} {m:Int} {k:Nat} (hk:k<l.length) (h:nC l m k = -1) (hm:(l.getD k (aV aD)).1=m):(k:Int)=dU l m:=by
 have e:nC l m (k+1)=k:=by rw[nC,if_pos ⟨h,hm⟩]
 unfold dU
 rw[aLU (k:=k+1) hk (by omega),e]
theorem aO4 {l:List iQ} {m:Int} {k:Nat} (h:nC l m k = -1) (hm:¬ (l.getD k (aV aD)).1=m):nC l m (k+1) = -1:=by rw[nC,if_neg (fun hh=>hm hh.2),h]
def lP:Con:=⟨75,aN,aN,[.val ⟨false,aN,[]⟩],[⟨false,aN,[2]⟩],false,none,
 ((fun x=>bQ aN x≤1000000000):(dL)→Prop),
 ((fun x=>x):(dL)→(dL))⟩
def uX:T :=
 .bNU (.bNX 94 aM) (.Z 0) <|
 .loop (.bNT tI aN) (.bNV tI aN (.ci .i64 0) (.nl 94 aM)) <|
  .bNU (.cmp .lss .i64) (.bNV tI tI (.p1 tI aN (.Z 2)) (.Z 1)) <|
  .ite (.Z 3) (
   .bNU (.bNY 94 aM) (.bNV aN tI (.Z 0) (.p1 tI aN (.Z 2))) <|
   .call 0 (.p1 aB aB (.Z 4)) <|
   .call 0 (aO aM 1 (.Z 4)) <|
   .bNU (.lit 94 aM 1) (.bNV aB aB (.Z 5) (.Z 6)) <|
   .bNU (.bO0 94 aM 48) (.bNV aN aN (aO (.bNT tI aN) 1 (.Z 2)) (.Z 7)) <|
   .bNU (.ar .add .i64) (.bNV tI tI (.p1 tI aN (.Z 2)) (.ci .i64 1)) <|
   .bNW 0 (.bNV tI aN (.Z 9) (.Z 8))) (
   .ret (aO (.bNT tI aN) 1 (.Z 2)))
theorem aMP:bM Tryz.prog [bN] lP false 3000 ⟨[(2991,1002,[.dr 6,.dr 0,.tm 9 0,.on 3,.sl 1])],[(2981,3005,[19,16],[])]⟩ = .ok uX:=by kernel_rfl
theorem aMG (x:dL) (hx:okD aN x) (hp:(fun x=>bQ aN x≤1000000000) x):uX.wp [bN] [⟨aN,x⟩] [] (fun v=>v.as aN=(fun x=>x) x):=by
 have hB:=kA (t:=aN) hp
 delta uX bN;refine dB ?_;try with_reducible exact True.intro
 (repeat' first|intro _|(with_reducible apply And.intro))
 all_goals first|omega|(unfold maxLen;omega)|skip
 refine cZ (fun k=>((k:Int),List.take k x)) (List.length x) rfl fun I μ k hk _ go=>?_
 dsimp only
 refine dT ?_
 by_cases hkn:k<List.length x
 ·have hm:=hB.2 _ (List.getElem_mem hkn)
  have hn:=hB.1
  rw[aZ hkn]
  (repeat' first|intro _|(refine go _ ?_ ?_ ?_)|(refine go _ ?_ ?_)|(with_reducible apply And.intro))
  all_goals first|omega|exact hm.1.1|exact hm.2.1|(simp only[List.length_take];unfold maxLen;omega)|(simp only[List.length_take];omega)|(rw[iI hkn];rfl)
 ·(repeat' first|intro _|(refine go _ ?_ ?_ ?_)|(refine go _ ?_ ?_)|(with_reducible apply And.intro))
  all_goals first|omega|(have e:k=List.length x:=(by omega);subst e;exact List.take_length)
theorem aNH:Con.Holds Tryz.prog lP:=aS aW (aH gK aR) aMP aMG
def eE:Con:=⟨77,aL,aL,[.val ⟨true,aL,[]⟩],[⟨true,aL,[0,2]⟩],false,none,
 ((fun x=>bQ aL x≤1000000000):(bX)→Prop),
 ((fun x=>x):(bX)→(bX))⟩
def vE:T :=
 .bNU (.bNX 125 aF) (aO aL 1 (.Z 0)) <|
 .loop aL (.bNV tI (.slice 125 aF) (.ci .i64 0) (.nl 125 aF)) <|
  .bNU (.cmp .lss .i64) (.bNV tI tI (.p1 tI (.slice 125 aF) (.Z 2)) (.Z 1)) <|
  .ite (.Z 3) (
   .bNU (.bNY 125 aF) (.bNV (.slice 125 aF) tI (aO aL 1 (.Z 0)) (.p1 tI (.slice 125 aF) (.Z 2))) <|
   .call 0 (aO aF 1 (.Z 4)) <|
   .bNU (.lit 125 aF 1) (.bNV tI aB (.p1 tI aB (.Z 4)) (.Z 5)) <|
   .bNU (.bO0 125 aF 32) (.bNV (.slice 125 aF) (.slice 125 aF) (aO aL 1 (.Z 2)) (.Z 6)) <|
   .bNU (.ar .add .i64) (.bNV tI tI (.p1 tI (.slice 125 aF) (.Z 2)) (.ci .i64 1)) <|
   .bNW 0 (.bNV tI (.slice 125 aF) (.Z 8) (.Z 7))) (
   .ret (.bNV tI (.slice 125 aF) (.p1 tI (.slice 125 aF) (.Z 0)) (aO aL 1 (.Z 2))))
theorem aM7:bM Tryz.prog [bN] eE false 3000 ⟨[(2991,1002,iT 9 6++[.dr 1,.dr 0,.tm 12 0,.sl 6])],[(2981,3005,[22],[])]⟩ = .ok vE:=by kernel_rfl
theorem aNA (x:bX) (hx:okD aL x) (hp:(fun x=>bQ aL x≤1000000000) x):vE.wp [bN] [⟨aL,x⟩] [] (fun v=>v.as aL=(fun x=>x) x):=by
 obtain ⟨c,l⟩:=x
 have hB:=(kA (t:=aL) hp).2
 have hn:List.length l≤1000000000:=hB.1
 delta vE bN;refine dB ?_;try with_reducible exact True.intro
 (repeat' first|intro _|(with_reducible apply And.intro))
 all_goals first|omega|(unfold maxLen;omega)|skip
 refine cZ (fun k=>((k:Int),List.take k l)) (List.length l) rfl fun I μ k hk _ go=>?_
 dsimp only
 refine dT ?_
 by_cases hkn:k<List.length l
 ·have hm:=hB.2 _ (List.getElem_mem hkn)
  have hn:=hB.1
  rw[aZ hkn]
  (repeat' first|intro _|(refine go _ ?_ ?_ ?_)|(refine go _ ?_ ?_)|(with_reducible apply And.intro))
  all_goals first|omega|exact hm.2.1|(simp only[List.length_take];unfold maxLen;omega)|(simp only[List.length_take];omega)|(rw[iI hkn];rfl)
 ·(repeat' first|intro _|(refine go _ ?_ ?_ ?_)|(refine go _ ?_ ?_)|(with_reducible apply And.intro))
  all_goals first|omega|(have e:k=List.length l:=(by omega);subst e;exact congrArg (Prod.mk c) List.take_length)
theorem vC:Con.Holds Tryz.prog eE:=aS aW (aH gK aR) aM7 aNA
def fT:Con:=⟨171,aL,aL,[.val ⟨true,aL,[]⟩],[⟨true,aL,[0,2]⟩],false,none,
 ((fun x=>bQ aL x≤1000000000):(bX)→Prop),
 ((fun x=>x):(bX)→(bX))⟩
def aAH:T:=.loop aL (.bNV tI (.slice 125 aF) (.ci .i64 0) (.nl 125 aF)) <|
 .bNU (.bNX 125 aF) (aO aL 1 (.Z 0)) <|
 .bNU (.cmp .lss .i64) (.bNV tI tI (.p1 tI (.slice 125 aF) (.Z 1)) (.Z 2)) <|
 .ite (.Z 3) (
  .bNU (.bNY 125 aF) (.bNV (.slice 125 aF) tI (aO aL 1 (.Z 0)) (.p1 tI (.slice 125 aF) (.Z 1))) <|
  .bNU (.bNY 125 aF) (.bNV (.slice 125 aF) tI (aO aL 1 (.Z 0)) (.p1 tI (.slice 125 aF) (.Z 1))) <|
  .bNU (.bO0 3 tI 8) (.bNV aB aB (.nl 3 tI) (aO aF 1 (.Z 5))) <|
  .bNU (.lit 125 aF 1) (.bNV tI aB (.p1 tI aB (.Z 4)) (.Z 6)) <|
  .bNU (.bO0 125 aF 32) (.bNV (.slice 125 aF) (.slice 125 aF) (aO aL 1 (.Z 1)) (.Z 7)) <|
  .bNU (.ar .add .i64) (.bNV tI tI (.p1 tI (.slice 125 aF) (.Z 1)) (.ci .i64 1)) <|
  .bNW 0 (.bNV tI (.slice 125 aF) (.Z 9) (.Z 8))) (
  .ret (.bNV tI (.slice 125 aF) (.p1 tI (.slice 125 aF) (.Z 0)) (aO aL 1 (.Z 1))))
theorem aTV:bM Tryz.prog [] fT false 3000 ⟨[(2991,1001,[.dr 5,.dr 0,.tm 4 0,.on 3,.sl 4])],[(2983,3004,[27],[])]⟩ = .ok aAH:=by kernel_rfl
theorem aSQ (x:bX) (hx:okD aL x) (hp:(fun x=>bQ aL x≤1000000000) x):aAH.wp [] [⟨aL,x⟩] [] (fun v=>v.as aL=(fun x=>x) x):=by
 obtain ⟨c,l⟩:=x
 have hB:=(kA (t:=aL) hp).2
 have hn:List.length l≤1000000000:=hB.1
 delta aAH;refine dB ?_;try with_reducible exact True.intro
 (repeat' first|intro _|(with_reducible apply And.intro))
 all_goals first|omega|(unfold maxLen;omega)|skip
 refine cZ (fun k=>((k:Int),List.take k l)) (List.length l) rfl fun I μ k hk _ go=>?_
 dsimp only
 refine dT ?_
 by_cases hkn:k<List.length l
 ·have hm:=hB.2 _ (List.getElem_mem hkn)
  have hn:=hB.1
  have hn2:=hm.2.1
  rw[aZ hkn]
  (repeat' first|intro _|(refine go _ ?_ ?_ ?_)|(refine go _ ?_ ?_)|(with_reducible apply And.intro))
  all_goals first|omega|(unfold maxLen;omega)|(simp only[List.length_take];unfold maxLen;omega)|(simp only[List.length_take];omega)|(rw[iI hkn];rfl)
 ·(repeat' first|intro _|(refine go _ ?_ ?_ ?_)|(refine go _ ?_ ?_)|(with_reducible apply And.intro))
  all_goals first|omega|(have e:k=List.length l:=(by omega);subst e;exact congrArg (Prod.mk c) List.take_length)
theorem aAC:Con.Holds Tryz.prog fT:=aS aW aR aTV aSQ
def aAS:Con:=⟨81,(.bNT aL aF),(.bNT aL .bool),[.val ⟨true,aL,[]⟩,.val ⟨true,aF,[]⟩],[⟨true,aL,[0,2]⟩,⟨false,.bool,[0]⟩],false,none,
 ((fun x=>bQ aL x.1≤1000000000):(bX × cC)→Prop),
 ((fun x=>tV x.1 x.2):(bX × cC)→(bX × Bool))⟩
def aKU:T:=.call 0 (.p1 aL aF (.Z 0)) <|.call 1 (.p1 aL aF (.Z 0)) <|
 .bNU .not (.Z 2) <|
 .ite (.Z 3) (
  .ret (.bNV aL .bool (.Z 1) (.cb false))) (
  .call 2 (aO (.bNT aL aF) 1 (.Z 0)) <|
  .bNU .not (.Z 4) <|
  .ite (.Z 5) (
   .ret (.bNV aL .bool (.Z 1) (.cb false))) (
   .bNU (.bNX 125 aF) (aO aL 1 (.p1 aL aF (.Z 0))) <|
   .bNU (.cmp .eql .i64) (.bNV tI tI (.Z 6) (.p1 tI (.slice 125 aF) (.p1 aL aF (.Z 0)))) <|
   .ite (.Z 7) (
    .ret (.bNV aL .bool (.Z 1) (.cb false))) (
    .call 3 (aO (.bNT aL aF) 2 (.Z 0)) <|
    .bNU (.lit 125 aF 1) (.bNV tI aB (aJ (.bNT aL aF) 1 (.Z 0)) (.Z 8)) <|
    .bNU (.bO0 125 aF 32) (.bNV (.slice 125 aF) (.slice 125 aF) (aO aL 1 (.Z 1)) (.Z 9)) <|
    .ret (.bNV aL .bool (.bNV tI (.slice 125 aF) (.p1 tI (.slice 125 aF) (.Z 1)) (.Z 10)) (.cb true)))))
theorem bIT:bM Tryz.prog [eE,fQ,kF,bN] aAS false 3000 ⟨[],[(2989,8008,[32],[])]⟩ = .ok aKU:=by kernel_rfl
theorem bII (x:bX × cC) (hx:okD (.bNT aL aF) x) (hp:(fun x=>bQ aL x.1≤1000000000) x):aKU.wp [eE,fQ,kF,bN] [⟨(.bNT aL aF),x⟩] [] (fun v=>v.as (.bNT aL .bool)=(fun x=>tV x.1 x.2) x):=by
 obtain ⟨q,y⟩:=x
 have hB:=kA (t:=aL) hp
 delta aKU eE fQ kF bN;refine dB ?_
 refine ⟨hp,fun _=>?_⟩
 (repeat' first|intro _|(with_reducible apply And.intro))
 all_goals simp only[nS] at *
 all_goals try have hqq:=aBW (by assumption)
 all_goals try have hq8:=tU (by assumption) (by omega)
 all_goals try have hq6:=aAA (by assumption)
 all_goals try have hq7:=(cL _).1 (by assumption)
 all_goals first|omega|(unfold maxLen;omega)|exact gA (.inl (by assumption))|exact gA (.inr (.inl (by assumption)))|exact gA (.inr (.inr (by omega)))|exact zM (.inl (by assumption))|exact zM (.inr (by omega))|exact pL (by assumption) (by assumption) (by omega)|exact tJ (by assumption) (by omega)|(rw[List.take_length];exact tJ (by assumption) (by omega))|exact gA (.inr (.inl (aAM (.inl (by assumption)))))|exact gA (.inr (.inl (aAM (.inr (by omega)))))|exact pL (by assumption) (aP2 (by assumption) (by omega) (by omega)) (by omega)|skip
theorem bH3:Con.Holds Tryz.prog aAS:=aS aW (aH vC (aH yY (aH aJ1 (aH gK aR)))) bIT bII
def eD:Con:=⟨114,(.bNT (.slice 80 aD) tI),tI,[.val ⟨false,(.slice 80 aD),[]⟩,.val ⟨false,tI,[]⟩],[⟨false,tI,[0]⟩],false,none,
 ((fun _=>True):((List iQ) × Int)→Prop),
 ((fun x=>dU x.1 x.2):((List iQ) × Int)→(Int))⟩
def uW:T :=
 .bNU (.bNX 80 aD) (.p1 (.slice 80 aD) tI (.Z 0)) <|
 .loop tI (.ci .i64 0) <|
  .bNU (.cmp .lss .i64) (.bNV tI tI (.Z 2) (.Z 1)) <|
  .ite (.Z 3) (
   .bNU (.bNY 80 aD) (.bNV (.slice 80 aD) tI (.p1 (.slice 80 aD) tI (.Z 0)) (.Z 2)) <|
   .bNU (.cmp .eql .i64) (.bNV tI tI (.p1 tI aI (.Z 4)) (aO (.bNT (.slice 80 aD) tI) 1 (.Z 0))) <|
   .ite (.Z 5) (
    .ret (.Z 2)) (
    .bNU (.ar .add .i64) (.bNV tI tI (.Z 2) (.ci .i64 1)) <|
    .bNW 0 (.Z 6))) (
   .ret (.ci .i64 (-1)))
theorem aMV:bM Tryz.prog [] eD false 3000 ⟨[(2993,1002,[.dr 0,.tm 9 0])],[]⟩ = .ok uW:=by kernel_rfl
theorem aN2 (x:(List iQ) × Int) (hx:okD (.bNT (.slice 80 aD) tI) x) (hp:(fun _=>True) x):uW.wp [] [⟨(.bNT (.slice 80 aD) tI),x⟩] [] (fun v=>v.as tI=(fun x=>dU x.1 x.2) x):=by
 obtain ⟨l,m⟩:=x
 have hm:l.length≤9223372036854775807:=hx.1.1
 delta uW;refine dB ?_;try with_reducible exact True.intro
 (repeat' first|intro _|(with_reducible apply And.intro))
 all_goals first|omega|(unfold maxLen;omega)|skip
 refine yV (fun k=>(k:Int)) (fun k=>nC l m k = -1) (List.length l) rfl rfl fun I μ k hk hg _ go=>?_
 try dsimp only
 (refine dT ?_;try with_reducible exact True.intro)
 (repeat' first|intro _|(refine go _ ?_ ?_ ?_)|(refine go _ ?_ ?_)|(with_reducible apply And.intro))
 all_goals first|omega|exact aOF (by omega) hg (by assumption)|exact aO4 hg (by assumption)|rfl|(have e:k=List.length l:=(by omega);subst e;exact hg.symm)
theorem uD:Con.Holds Tryz.prog eD:=aS aW aR aMV aN2
def eB:Con:=⟨130,(.bNT (.slice 80 aD) tI),tI,[.val ⟨false,(.slice 80 aD),[]⟩,.val ⟨false,tI,[]⟩],[⟨false,tI,[0]⟩],false,none,
 ((fun _=>True):((List iQ) × Int)→Prop),
 ((fun x=>dU x.1 x.2):((List iQ) × Int)→(Int))⟩
def uG:T:=.loop tI (.ci .i64 0) <|
 .bNU (.bNX 80 aD) (.p1 (.slice 80 aD) tI (.Z 0)) <|
 .bNU (.cmp .lss .i64) (.bNV tI tI (.Z 1) (.Z 2)) <|
 .ite (.Z 3) (
  .bNU (.bNY 80 aD) (.bNV (.slice 80 aD) tI (.p1 (.slice 80 aD) tI (.Z 0)) (.Z 1)) <|
  .bNU (.cmp .eql .i64) (.bNV tI tI (.p1 tI aI (.Z 4)) (aO (.bNT (.slice 80 aD) tI) 1 (.Z 0))) <|
  .ite (.Z 5) (
   .ret (.Z 1)) (
   .bNU (.ar .add .i64) (.bNV tI tI (.Z 1) (.ci .i64 1)) <|
   .bNW 0 (.Z 6))) (
  .ret (.ci .i64 (-1)))
theorem aN0:bM Tryz.prog [] eB false 3000 ⟨[(2993,1001,[.tm 5 0])],[]⟩ = .ok uG:=by kernel_rfl
theorem aND (x:(List iQ) × Int) (hx:okD (.bNT (.slice 80 aD) tI) x) (hp:(fun _=>True) x):uG.wp [] [⟨(.bNT (.slice 80 aD) tI),x⟩] [] (fun v=>v.as tI=(fun x=>dU x.1 x.2) x):=by
 obtain ⟨l,m⟩:=x
 have hm:l.length≤9223372036854775807:=hx.1.1
 delta uG;refine dB ?_;try with_reducible exact True.intro
 (repeat' first|intro _|(with_reducible apply And.intro))
 all_goals first|omega|(unfold maxLen;omega)|skip
 refine yV (fun k=>(k:Int)) (fun k=>nC l m k = -1) (List.length l) rfl rfl fun I μ k hk hg _ go=>?_
 try dsimp only
 (refine dT ?_;try with_reducible exact True.intro)
 (repeat' first|intro _|(refine go _ ?_ ?_ ?_)|(refine go _ ?_ ?_)|(with_reducible apply And.intro))
 all_goals first|omega|exact aOF (by omega) hg (by assumption)|exact aO4 hg (by assumption)|rfl|(have e:k=List.length l:=(by omega);subst e;exact hg.symm)
theorem uE:Con.Holds Tryz.prog eB:=aS aW aR aN0 aND
def aAD:Con:=⟨149,(.bNT aL aF),(.bNT aL .bool),[.val ⟨true,aL,[]⟩,.val ⟨true,aF,[]⟩],[⟨true,aL,[0,2]⟩,⟨false,.bool,[0]⟩],false,none,
 ((fun x=>bQ aL x.1≤1000000000):(bX × cC)→Prop),
 ((fun x=>tV x.1 x.2):(bX × cC)→(bX × Bool))⟩
def aLH:T:=.call 0 (.p1 aL aF (.Z 0)) <|.call 1 (.p1 aL aF (.Z 0)) <|
 .bNU .not (.Z 2) <|
 .ite (.Z 3) (
  .ret (.bNV aL .bool (.Z 1) (.cb false))) (
  .bNU (.bNX 125 aF) (aO aL 1 (.p1 aL aF (.Z 0))) <|
  .bNU (.cmp .geq .i64) (.bNV tI tI (.Z 4) (.p1 tI (.slice 125 aF) (.p1 aL aF (.Z 0)))) <|
  .ite (.Z 5) (
   .ret (.bNV aL .bool (.Z 1) (.cb false))) (
   .call 2 (aO (.bNT aL aF) 2 (.Z 0)) <|
   .bNU .not (.Z 6) <|
   .ite (.Z 7) (
    .ret (.bNV aL .bool (.Z 1) (.cb false))) (
    .call 3 (bB (.bNT tI aE) [(aJ (.bNT aL aF) 1 (.Z 0)),(.ci .i64 0),(.ci .i64 4)]) <|
    .bNU .not (.Z 8) <|
    .ite (.Z 9) (
     .ret (.bNV aL .bool (.Z 1) (.cb false))) (
     .bNU (.bO0 3 tI 8) (.bNV aB aB (.nl 3 tI) (aO (.bNT aL aF) 2 (.Z 0))) <|
     .bNU (.lit 125 aF 1) (.bNV tI aB (aJ (.bNT aL aF) 1 (.Z 0)) (.Z 10)) <|
     .bNU (.bO0 125 aF 32) (.bNV (.slice 125 aF) (.slice 125 aF) (aO aL 1 (.Z 1)) (.Z 11)) <|
     .ret (.bNV aL .bool (.bNV tI (.slice 125 aF) (.p1 tI (.slice 125 aF) (.Z 1)) (.Z 12)) (.cb true))))))
theorem bGP:bM Tryz.prog [fT,fS,bJ,bI] aAD false 3000 ⟨[],[(2989,16010,[40],[])]⟩ = .ok aLH:=by kernel_rfl
theorem bIF (x:bX × cC) (hx:okD (.bNT aL aF) x) (hp:(fun x=>bQ aL x.1≤1000000000) x):aLH.wp [fT,fS,bJ,bI] [⟨(.bNT aL aF),x⟩] [] (fun v=>v.as (.bNT aL .bool)=(fun x=>tV x.1 x.2) x):=by
 obtain ⟨q,y⟩:=x
 have hB:=kA (t:=aL) hp
 delta aLH fT fS bJ bI;refine dB ?_
 refine ⟨hp,fun _=>?_⟩
 (repeat' first|intro _|(with_reducible apply And.intro))
 all_goals simp only[nS] at *
 all_goals try have hqq:=aBW (by assumption)
 all_goals try have hq8:=tU (by assumption) (by omega)
 all_goals try have hq6:=aAA (by assumption)
 all_goals try have hq7:=(cL _).1 (by assumption)
 all_goals first|omega|(unfold maxLen;omega)|exact gA (.inl (by assumption))|exact gA (.inr (.inl (by assumption)))|exact gA (.inr (.inr (by omega)))|exact zM (.inl (by assumption))|exact zM (.inr (by omega))|exact pL (by assumption) (by assumption) (by omega)|exact tJ (by assumption) (by omega)|(rw[List.take_length];exact tJ (by assumption) (by omega))|exact gA (.inr (.inl (aAM (.inl (by assumption)))))|exact gA (.inr (.inl (aAM (.inr (by omega)))))|exact pL (by assumption) (aP2 (by assumption) (by omega) (by omega)) (by omega)|skip
theorem bHV:Con.Holds Tryz.prog aAD:=aS aW (aH aAC (aH aAN (aH fD (aH eY aR)))) bGP bIF
def aES:Con:=⟨79,aL,(.bNT aL (.bNT aF .bool)),[.val ⟨true,aL,[]⟩],[⟨true,aL,[0,0]⟩,⟨true,aF,[0,0]⟩,⟨false,.bool,[0]⟩],false,none,
 ((fun x=>bQ aL x≤1000000000):(bX)→Prop),
 ((fun x=>wJ x):(bX)→(bX × (cC × Bool)))⟩
def aR0:T:=.call 0 (.Z 0) <|.call 1 (.Z 0) <|
 .bNU .not (.Z 2) <|
 .ite (.Z 3) (
  .ret (bB (.bNT aL (.bNT aF .bool)) [(.Z 1),(.bNV tI aB (.ci .i64 0) (.nl 3 tI)),(.cb false)])) (
  .bNU (.bNX 125 aF) (aO aL 1 (.Z 0)) <|
  .bNU (.cmp .eql .i64) (.bNV tI tI (.Z 4) (.ci .i64 0)) <|
  .ite (.Z 5) (
   .ret (bB (.bNT aL (.bNT aF .bool)) [(.Z 1),(.bNV tI aB (.ci .i64 0) (.nl 3 tI)),(.cb false)])) (
   .bNU (.bNY 125 aF) (.bNV (.slice 125 aF) tI (aO aL 1 (.Z 1)) (.ci .i64 0)) <|
   .bNU (.bNY 125 aF) (.bNV (.slice 125 aF) tI (aO aL 1 (.Z 1)) (.ci .i64 0)) <|
   .bNU (.bNX 125 aF) (aO aL 1 (.Z 1)) <|
   .bNU (.bNZ 125 aF) (bB (.bNT (.slice 125 aF) aE) [(aO aL 1 (.Z 1)),(.ci .i64 1),(.Z 8)]) <|
   .ret (bB (.bNT aL (.bNT aF .bool)) [(.bNV tI (.slice 125 aF) (.p1 tI (.slice 125 aF) (.Z 1)) (.Z 9)),(.Z 7),(.cb true)])))
theorem bJK:bM Tryz.prog [eE,fQ] aES false 3000 ⟨[],[(2987,4008,[],[6])]⟩ = .ok aR0:=by kernel_rfl
theorem bK0 (x:bX) (hx:okD aL x) (hp:(fun x=>bQ aL x≤1000000000) x):aR0.wp [eE,fQ] [⟨aL,x⟩] [] (fun v=>v.as (.bNT aL (.bNT aF .bool))=(fun x=>wJ x) x):=by
 have hB:=kA (t:=aL) hp
 delta aR0 eE fQ;refine dB ?_
 refine ⟨hp,fun _=>?_⟩
 (repeat' first|intro _|(with_reducible apply And.intro))
 all_goals simp only[nS] at *
 all_goals try have hqq:=aBW (by assumption)
 all_goals try have hq8:=tU (by assumption) (by omega)
 all_goals try have hq6:=aAA (by assumption)
 all_goals try have hq7:=(cL _).1 (by assumption)
 all_goals first|omega|(unfold maxLen;omega)|exact gA (.inl (by assumption))|exact gA (.inr (.inl (by assumption)))|exact gA (.inr (.inr (by omega)))|exact zM (.inl (by assumption))|exact zM (.inr (by omega))|exact pL (by assumption) (by assumption) (by omega)|exact tJ (by assumption) (by omega)|(rw[List.take_length];exact tJ (by assumption) (by omega))|exact gA (.inr (.inl (aAM (.inl (by assumption)))))|exact gA (.inr (.inl (aAM (.inr (by omega)))))|exact pL (by assumption) (aP2 (by assumption) (by omega) (by omega)) (by omega)|skip
theorem bKE:Con.Holds Tryz.prog aES:=aS aW (aH vC (aH yY aR)) bJK bK0
def aEL:Con:=⟨148,aL,(.bNT aL (.bNT aF .bool)),[.val ⟨true,aL,[]⟩],[⟨true,aL,[0,0]⟩,⟨true,aF,[0,0]⟩,⟨false,.bool,[0]⟩],false,none,
 ((fun x=>bQ aL x≤1000000000):(bX)→Prop),
 ((fun x=>wJ x):(bX)→(bX × (cC × Bool)))⟩
def aQQ:T:=.call 0 (.Z 0) <|.call 1 (.Z 0) <|
 .bNU .not (.Z 2) <|
 .ite (.Z 3) (
  .ret (bB (.bNT aL (.bNT aF .bool)) [(.Z 1),(.bNV tI aB (.ci .i64 0) (.nl 3 tI)),(.cb false)])) (
  .bNU (.bNX 125 aF) (aO aL 1 (.Z 0)) <|
  .bNU (.cmp .eql .i64) (.bNV tI tI (.Z 4) (.ci .i64 0)) <|
  .ite (.Z 5) (
   .ret (bB (.bNT aL (.bNT aF .bool)) [(.Z 1),(.bNV tI aB (.ci .i64 0) (.nl 3 tI)),(.cb false)])) (
   .bNU (.bNY 125 aF) (.bNV (.slice 125 aF) tI (aO aL 1 (.Z 0)) (.ci .i64 0)) <|
   .bNU (.bNX 125 aF) (aO aL 1 (.Z 1)) <|
   .bNU (.bNZ 125 aF) (bB (.bNT (.slice 125 aF) aE) [(aO aL 1 (.Z 1)),(.ci .i64 1),(.Z 7)]) <|
   .bNU (.bO0 3 tI 8) (.bNV aB aB (.nl 3 tI) (aO aF 1 (.Z 6))) <|
   .ret (bB (.bNT aL (.bNT aF .bool)) [(.bNV tI (.slice 125 aF) (.p1 tI (.slice 125 aF) (.Z 1)) (.Z 8)),(.bNV tI aB (.p1 tI aB (.Z 6)) (.Z 9)),(.cb true)])))
theorem bJM:bM Tryz.prog [fT,fS] aEL false 3000 ⟨[],[(2987,4007,[],[6])]⟩ = .ok aQQ:=by kernel_rfl
theorem bL7 (x:bX) (hx:okD aL x) (hp:(fun x=>bQ aL x≤1000000000) x):aQQ.wp [fT,fS] [⟨aL,x⟩] [] (fun v=>v.as (.bNT aL (.bNT aF .bool))=(fun x=>wJ x) x):=by
 have hB:=kA (t:=aL) hp
 delta aQQ fT fS;refine dB ?_
 refine ⟨hp,fun _=>?_⟩
 (repeat' first|intro _|(with_reducible apply And.intro))
 all_goals simp only[nS] at *
 all_goals try have hqq:=aBW (by assumption)
 all_goals try have hq8:=tU (by assumption) (by omega)
 all_goals try have hq6:=aAA (by assumption)
 all_goals try have hq7:=(cL _).1 (by assumption)
 all_goals first|omega|(unfold maxLen;omega)|exact gA (.inl (by assumption))|exact gA (.inr (.inl (by assumption)))|exact gA (.inr (.inr (by omega)))|exact zM (.inl (by assumption))|exact zM (.inr (by omega))|exact pL (by assumption) (by assumption) (by omega)|exact tJ (by assumption) (by omega)|(rw[List.take_length];exact tJ (by assumption) (by omega))|exact gA (.inr (.inl (aAM (.inl (by assumption)))))|exact gA (.inr (.inl (aAM (.inr (by omega)))))|exact pL (by assumption) (aP2 (by assumption) (by omega) (by omega)) (by omega)|skip
theorem bJ5:Con.Holds Tryz.prog aEL:=aS aW (aH aAC (aH aAN aR)) bJM bL7
end
end Go.Proofs.YtdeobhdbmehpgaaGreat
