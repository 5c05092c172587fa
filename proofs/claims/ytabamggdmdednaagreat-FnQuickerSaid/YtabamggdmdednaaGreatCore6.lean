/- Core6: lemmas. No conditions. -/
import Derived.Test.YtabamggdmdednaaGreatSeq5
import Derived.Test.YtabamggdmdednaaGreatPipe4
import Derived.Test.YtabamggdmdednaaGreatCpy2
import Derived.Test.YtabamggdmdednaaGreatCe
namespace Go.Proofs.YtabamggdmdednaaGreat
noncomputable section
set_option maxRecDepth 100000
open Go.ChangeShapes Go.WideShapes Go.ChangeAt Go.RowKit Go.Deep
set_option linter.unusedVariables false
set_option linter.unusedSimpArgs false
theorem aL5 {e:TypeId} {l:cZ} (h:bHR (.slice e aHZ) l):List.length l≤1000000000∧∀ y∈l,List.length y≤1000000000:=⟨h.1,fun y hy=>(h.2 y hy).1⟩
theorem aZE {g:eZ} (h:bHR aX g):jS g:=aL5 h.1
def bLU:cP:=aW aH
def vH (q:cG) (x:cP):cG × Bool:=if gL q=true∧xO x=true∧(q.2.length:Int)<q.1 then ((q.1,q.2++[x]),true) else (q,false)
def yG (q:cG):cG × (cP × Bool):=if gL q=true∧0<q.2.length then ((q.1,q.2.drop 1),q.2.getD 0 bLU,true) else (q,bLU,false)
theorem gH {q:cG} {x:cP} (h:gL q=false∨xO x=false∨¬ (q.2.length:Int)<q.1):(q,false)=vH q x:=by
 unfold vH;rw[if_neg]
 rintro ⟨h1,h2,h3⟩
 rcases h with h|h|h
 ·rw[h] at h1;cases h1
 ·rw[h] at h2;cases h2
 ·exact h h3
theorem qW {q:cG} {x:cP} (h1:gL q=true) (h2:xO x=true) (h3:(q.2.length:Int)<q.1):((q.1,q.2++[x]),true)=vH q x:=by unfold vH;rw[if_pos ⟨h1,h2,h3⟩]
theorem aC2 {q:cG} (h:gL q=false∨q.2.length=0):(q,(0,[]),false)=yG q:=by
 unfold yG;rw[if_neg]
 ·rfl
 rintro ⟨h1,h2⟩
 rcases h with h|h
 ·rw[h] at h1;cases h1
 ·omega
theorem vO {q:cG} (h1:gL q=true) (h2:0<q.2.length):((q.1,q.2.drop 1),q.2.getD 0 bLU,true)=yG q:=by unfold yG;rw[if_pos ⟨h1,h2⟩]
theorem aBZ {x:cP} (h:iQ x.2=false∨x.1<0∨4<x.1):xO x=false:=by
 refine Bool.eq_false_iff.2 fun hh=>?_
 rw[kS] at hh
 rcases h with h|h
 ·rw[h] at hh;cases hh.1
 ·omega
theorem aUT {x:cP} (h:iQ x.2=true) (h2:0≤x.1) (h3:x.1<5):xO x=true:=(kS _).2 ⟨h,h2,h3⟩
theorem aC3 {x:cP} (h:xO x=true):x.2.length≤6:=((cT _).1 ((kS _).1 h).1).2.1
theorem aDA {q:cG} (h:gL q=true):(q.2.length:Int)≤q.1∧q.2.length≤5:=by have:=(nJ.1 h).1;omega
theorem vL {q:cG} (h:gL q=true) (h2:0<q.2.length):(q.2.getD 0 (aW aH)).2.length≤6:=aC3 ((nJ.1 h).2 0 h2)
def oJ (l:List eX) (m:Int):Nat→Int
 | 0=>-1
 | k+1=>if oJ l m k = -1∧(l.getD k (aW aF)).1=m then (k:Int) else oJ l m k
def dX (l:List eX) (m:Int):Int:=oJ l m l.length
theorem aD8 (l:List eX) (m:Int):(k:Nat)→-1≤oJ l m k∧oJ l m k<k
 | 0=>by unfold oJ;omega
 | k+1=>by
  have:=aD8 l m k
  unfold oJ;split <;> omega
theorem aN0 {l : List eX} {m : Int} : {k n : Nat} → k ≤ n → oJ l m k ≠ -1 → oJ l m n = oJ l m k
  | k, 0, h, _ => by have : k = 0 := by omega
                     subst this; rfl
  | k, n + 1, h, hk => by
    rcases Nat.lt_or_eq_of_le h with h | rfl
    · have e := aN0 (Nat.le_of_lt_succ h) hk
      rw [oJ, if_neg (fun hh => hk (e ▸ hh.1)), e]
    · rfl
theorem aQS {l:List eX} {m:Int} {k:Nat} (hk:k<l.length) (h:oJ l m k = -1) (hm:(l.getD k (aW aF)).1=m):(k:Int)=dX l m:=by
 have e:oJ l m (k+1)=k:=by rw[oJ,if_pos ⟨h,hm⟩]
 unfold dX
 rw[aN0 (k:=k+1) hk (by omega),e]
theorem aR8 {l:List eX} {m:Int} {k:Nat} (h:oJ l m k = -1) (hm:¬ (l.getD k (aW aF)).1=m):oJ l m (k+1) = -1:=by rw[oJ,if_neg (fun hh=>hm hh.2),h]
def iA:Con:=⟨27,aG,aG,[.val ⟨false,aG,[]⟩],[⟨false,aG,[2]⟩],false,none,
 ((fun x=>bM aG x≤1000000000):(bO)→Prop),
 ((fun x=>x):(bO)→(bO))⟩
def wL:T :=
 .bRX (.bS0 92 aO) (.Z 0) <|
 .loop (.bRW tI aG) (.bRY tI aG (.ci .i64 0) (.nl 92 aO)) <|
  .bRX (.cmp .lss .i64) (.bRY tI tI (.p1 tI aG (.Z 2)) (.Z 1)) <|
  .ite (.Z 3) (
   .bRX (.bS1 92 aO) (.bRY aG tI (.Z 0) (.p1 tI aG (.Z 2))) <|
   .call 0 (.p1 aB aB (.Z 4)) <|
   .call 0 (aP aO 1 (.Z 4)) <|
   .bRX (.lit 92 aO 1) (.bRY aB aB (.Z 5) (.Z 6)) <|
   .bRX (.bS3 92 aO 48) (.bRY aG aG (aP (.bRW tI aG) 1 (.Z 2)) (.Z 7)) <|
   .bRX (.ar .add .i64) (.bRY tI tI (.p1 tI aG (.Z 2)) (.ci .i64 1)) <|
   .bRZ 0 (.bRY tI aG (.Z 9) (.Z 8))) (
   .ret (aP (.bRW tI aG) 1 (.Z 2)))
theorem aP2:bI Tryz.prog [bR] iA false 3000 ⟨[(2991,1002,[.dr 6,.dr 0,.tm 9 0,.on 3,.sl 1])],[(2981,3005,[19,16],[])]⟩ = .ok wL:=by kernel_rfl
theorem aPU (x:bO) (hx:okD aG x) (hp:(fun x=>bM aG x≤1000000000) x):wL.wp [bR] [⟨aG,x⟩] [] (fun v=>v.as aG=(fun x=>x) x):=by
 have hB:=gZ (t:=aG) hp
 delta wL bR;refine cW ?_;try with_reducible exact True.intro
 (repeat' first|intro _|(with_reducible apply And.intro))
 all_goals first|omega|(unfold maxLen;omega)|skip
 refine cN (fun k=>((k:Int),List.take k x)) (List.length x) rfl fun I μ k hk _ go=>?_
 dsimp only
 refine dB ?_
 by_cases hkn:k<List.length x
 ·have hm:=hB.2 _ (List.getElem_mem hkn)
  have hn:=hB.1
  rw[aZ hkn]
  (repeat' first|intro _|(refine go _ ?_ ?_ ?_)|(refine go _ ?_ ?_)|(with_reducible apply And.intro))
  all_goals first|omega|exact hm.1.1|exact hm.2.1|(simp only[List.length_take];unfold maxLen;omega)|(simp only[List.length_take];omega)|(rw[iW hkn];rfl)
 ·(repeat' first|intro _|(refine go _ ?_ ?_ ?_)|(refine go _ ?_ ?_)|(with_reducible apply And.intro))
  all_goals first|omega|(have e:k=List.length x:=(by omega);subst e;exact List.take_length)
theorem aE6:Con.Holds Tryz.prog iA:=aS aV (aI gS aQ) aP2 aPU
def eD:Con:=⟨62,aN,aN,[.val ⟨true,aN,[]⟩],[⟨true,aN,[0,2]⟩],false,none,
 ((fun x=>bM aN x≤1000000000):(cG)→Prop),
 ((fun x=>x):(cG)→(cG))⟩
def wU:T :=
 .bRX (.bS0 110 aH) (aP aN 1 (.Z 0)) <|
 .loop aN (.bRY tI (.slice 110 aH) (.ci .i64 0) (.nl 110 aH)) <|
  .bRX (.cmp .lss .i64) (.bRY tI tI (.p1 tI (.slice 110 aH) (.Z 2)) (.Z 1)) <|
  .ite (.Z 3) (
   .bRX (.bS1 110 aH) (.bRY (.slice 110 aH) tI (aP aN 1 (.Z 0)) (.p1 tI (.slice 110 aH) (.Z 2))) <|
   .call 0 (aP aH 1 (.Z 4)) <|
   .bRX (.lit 110 aH 1) (.bRY tI aB (.p1 tI aB (.Z 4)) (.Z 5)) <|
   .bRX (.bS3 110 aH 32) (.bRY (.slice 110 aH) (.slice 110 aH) (aP aN 1 (.Z 2)) (.Z 6)) <|
   .bRX (.ar .add .i64) (.bRY tI tI (.p1 tI (.slice 110 aH) (.Z 2)) (.ci .i64 1)) <|
   .bRZ 0 (.bRY tI (.slice 110 aH) (.Z 8) (.Z 7))) (
   .ret (.bRY tI (.slice 110 aH) (.p1 tI (.slice 110 aH) (.Z 0)) (aP aN 1 (.Z 2))))
theorem aQC:bI Tryz.prog [bR] eD false 3000 ⟨[(2991,1002,gQ 9 6++[.dr 1,.dr 0,.tm 12 0,.sl 6])],[(2981,3005,[22],[])]⟩ = .ok wU:=by kernel_rfl
theorem aQ7 (x:cG) (hx:okD aN x) (hp:(fun x=>bM aN x≤1000000000) x):wU.wp [bR] [⟨aN,x⟩] [] (fun v=>v.as aN=(fun x=>x) x):=by
 obtain ⟨c,l⟩:=x
 have hB:=(gZ (t:=aN) hp).2
 have hn:List.length l≤1000000000:=hB.1
 delta wU bR;refine cW ?_;try with_reducible exact True.intro
 (repeat' first|intro _|(with_reducible apply And.intro))
 all_goals first|omega|(unfold maxLen;omega)|skip
 refine cN (fun k=>((k:Int),List.take k l)) (List.length l) rfl fun I μ k hk _ go=>?_
 dsimp only
 refine dB ?_
 by_cases hkn:k<List.length l
 ·have hm:=hB.2 _ (List.getElem_mem hkn)
  have hn:=hB.1
  rw[aZ hkn]
  (repeat' first|intro _|(refine go _ ?_ ?_ ?_)|(refine go _ ?_ ?_)|(with_reducible apply And.intro))
  all_goals first|omega|exact hm.2.1|(simp only[List.length_take];unfold maxLen;omega)|(simp only[List.length_take];omega)|(rw[iW hkn];rfl)
 ·(repeat' first|intro _|(refine go _ ?_ ?_ ?_)|(refine go _ ?_ ?_)|(with_reducible apply And.intro))
  all_goals first|omega|(have e:k=List.length l:=(by omega);subst e;exact congrArg (Prod.mk c) List.take_length)
theorem wI:Con.Holds Tryz.prog eD:=aS aV (aI gS aQ) aQC aQ7
def gE:Con:=⟨121,aN,aN,[.val ⟨true,aN,[]⟩],[⟨true,aN,[0,2]⟩],false,none,
 ((fun x=>bM aN x≤1000000000):(cG)→Prop),
 ((fun x=>x):(cG)→(cG))⟩
def aCB:T:=.loop aN (.bRY tI (.slice 110 aH) (.ci .i64 0) (.nl 110 aH)) <|
 .bRX (.bS0 110 aH) (aP aN 1 (.Z 0)) <|
 .bRX (.cmp .lss .i64) (.bRY tI tI (.p1 tI (.slice 110 aH) (.Z 1)) (.Z 2)) <|
 .ite (.Z 3) (
  .bRX (.bS1 110 aH) (.bRY (.slice 110 aH) tI (aP aN 1 (.Z 0)) (.p1 tI (.slice 110 aH) (.Z 1))) <|
  .bRX (.bS1 110 aH) (.bRY (.slice 110 aH) tI (aP aN 1 (.Z 0)) (.p1 tI (.slice 110 aH) (.Z 1))) <|
  .bRX (.bS3 3 tI 8) (.bRY aB aB (.nl 3 tI) (aP aH 1 (.Z 5))) <|
  .bRX (.lit 110 aH 1) (.bRY tI aB (.p1 tI aB (.Z 4)) (.Z 6)) <|
  .bRX (.bS3 110 aH 32) (.bRY (.slice 110 aH) (.slice 110 aH) (aP aN 1 (.Z 1)) (.Z 7)) <|
  .bRX (.ar .add .i64) (.bRY tI tI (.p1 tI (.slice 110 aH) (.Z 1)) (.ci .i64 1)) <|
  .bRZ 0 (.bRY tI (.slice 110 aH) (.Z 9) (.Z 8))) (
  .ret (.bRY tI (.slice 110 aH) (.p1 tI (.slice 110 aH) (.Z 0)) (aP aN 1 (.Z 1))))
theorem aW2:bI Tryz.prog [] gE false 3000 ⟨[(2991,1001,[.dr 5,.dr 0,.tm 4 0,.on 3,.sl 4])],[(2983,3004,[27],[])]⟩ = .ok aCB:=by kernel_rfl
theorem aZR (x:cG) (hx:okD aN x) (hp:(fun x=>bM aN x≤1000000000) x):aCB.wp [] [⟨aN,x⟩] [] (fun v=>v.as aN=(fun x=>x) x):=by
 obtain ⟨c,l⟩:=x
 have hB:=(gZ (t:=aN) hp).2
 have hn:List.length l≤1000000000:=hB.1
 delta aCB;refine cW ?_;try with_reducible exact True.intro
 (repeat' first|intro _|(with_reducible apply And.intro))
 all_goals first|omega|(unfold maxLen;omega)|skip
 refine cN (fun k=>((k:Int),List.take k l)) (List.length l) rfl fun I μ k hk _ go=>?_
 dsimp only
 refine dB ?_
 by_cases hkn:k<List.length l
 ·have hm:=hB.2 _ (List.getElem_mem hkn)
  have hn:=hB.1
  have hn2:=hm.2.1
  rw[aZ hkn]
  (repeat' first|intro _|(refine go _ ?_ ?_ ?_)|(refine go _ ?_ ?_)|(with_reducible apply And.intro))
  all_goals first|omega|(unfold maxLen;omega)|(simp only[List.length_take];unfold maxLen;omega)|(simp only[List.length_take];omega)|(rw[iW hkn];rfl)
 ·(repeat' first|intro _|(refine go _ ?_ ?_ ?_)|(refine go _ ?_ ?_)|(with_reducible apply And.intro))
  all_goals first|omega|(have e:k=List.length l:=(by omega);subst e;exact congrArg (Prod.mk c) List.take_length)
theorem aBK:Con.Holds Tryz.prog gE:=aS aV aQ aW2 aZR
def aB7:Con:=⟨66,(.bRW aN aH),(.bRW aN .bool),[.val ⟨true,aN,[]⟩,.val ⟨true,aH,[]⟩],[⟨true,aN,[0,2]⟩,⟨false,.bool,[0]⟩],false,none,
 ((fun x=>bM aN x.1≤1000000000):(cG × cP)→Prop),
 ((fun x=>vH x.1 x.2):(cG × cP)→(cG × Bool))⟩
def aN1:T:=.call 0 (.p1 aN aH (.Z 0)) <|.call 1 (.p1 aN aH (.Z 0)) <|
 .bRX .not (.Z 2) <|
 .ite (.Z 3) (
  .ret (.bRY aN .bool (.Z 1) (.cb false))) (
  .call 2 (aP (.bRW aN aH) 1 (.Z 0)) <|
  .bRX .not (.Z 4) <|
  .ite (.Z 5) (
   .ret (.bRY aN .bool (.Z 1) (.cb false))) (
   .bRX (.bS0 110 aH) (aP aN 1 (.p1 aN aH (.Z 0))) <|
   .bRX (.cmp .eql .i64) (.bRY tI tI (.Z 6) (.p1 tI (.slice 110 aH) (.p1 aN aH (.Z 0)))) <|
   .ite (.Z 7) (
    .ret (.bRY aN .bool (.Z 1) (.cb false))) (
    .call 3 (aP (.bRW aN aH) 2 (.Z 0)) <|
    .bRX (.lit 110 aH 1) (.bRY tI aB (aK (.bRW aN aH) 1 (.Z 0)) (.Z 8)) <|
    .bRX (.bS3 110 aH 32) (.bRY (.slice 110 aH) (.slice 110 aH) (aP aN 1 (.Z 1)) (.Z 9)) <|
    .ret (.bRY aN .bool (.bRY tI (.slice 110 aH) (.p1 tI (.slice 110 aH) (.Z 1)) (.Z 10)) (.cb true)))))
theorem bKY:bI Tryz.prog [eD,fZ,lV,bR] aB7 false 3000 ⟨[],[(2989,8008,[32],[])]⟩ = .ok aN1:=by kernel_rfl
theorem bJY (x:cG × cP) (hx:okD (.bRW aN aH) x) (hp:(fun x=>bM aN x.1≤1000000000) x):aN1.wp [eD,fZ,lV,bR] [⟨(.bRW aN aH),x⟩] [] (fun v=>v.as (.bRW aN .bool)=(fun x=>vH x.1 x.2) x):=by
 obtain ⟨q,y⟩:=x
 have hB:=gZ (t:=aN) hp
 delta aN1 eD fZ lV bR;refine cW ?_
 refine ⟨hp,fun _=>?_⟩
 (repeat' first|intro _|(with_reducible apply And.intro))
 all_goals simp only[mG] at *
 all_goals try have hqq:=aDA (by assumption)
 all_goals try have hq8:=vL (by assumption) (by omega)
 all_goals try have hq6:=aC3 (by assumption)
 all_goals try have hq7:=(cT _).1 (by assumption)
 all_goals first|omega|(unfold maxLen;omega)|exact gH (.inl (by assumption))|exact gH (.inr (.inl (by assumption)))|exact gH (.inr (.inr (by omega)))|exact aC2 (.inl (by assumption))|exact aC2 (.inr (by omega))|exact qW (by assumption) (by assumption) (by omega)|exact vO (by assumption) (by omega)|(rw[List.take_length];exact vO (by assumption) (by omega))|exact gH (.inr (.inl (aBZ (.inl (by assumption)))))|exact gH (.inr (.inl (aBZ (.inr (by omega)))))|exact qW (by assumption) (aUT (by assumption) (by omega) (by omega)) (by omega)|skip
theorem bJO:Con.Holds Tryz.prog aB7:=aS aV (aI wI (aI aBH (aI aNA (aI gS aQ)))) bKY bJY
def eF:Con:=⟨103,(.bRW (.slice 82 aF) tI),tI,[.val ⟨false,(.slice 82 aF),[]⟩,.val ⟨false,tI,[]⟩],[⟨false,tI,[0]⟩],false,none,
 ((fun _=>True):((List eX) × Int)→Prop),
 ((fun x=>dX x.1 x.2):((List eX) × Int)→(Int))⟩
def wH:T :=
 .bRX (.bS0 82 aF) (.p1 (.slice 82 aF) tI (.Z 0)) <|
 .loop tI (.ci .i64 0) <|
  .bRX (.cmp .lss .i64) (.bRY tI tI (.Z 2) (.Z 1)) <|
  .ite (.Z 3) (
   .bRX (.bS1 82 aF) (.bRY (.slice 82 aF) tI (.p1 (.slice 82 aF) tI (.Z 0)) (.Z 2)) <|
   .bRX (.cmp .eql .i64) (.bRY tI tI (.p1 tI aL (.Z 4)) (aP (.bRW (.slice 82 aF) tI) 1 (.Z 0))) <|
   .ite (.Z 5) (
    .ret (.Z 2)) (
    .bRX (.ar .add .i64) (.bRY tI tI (.Z 2) (.ci .i64 1)) <|
    .bRZ 0 (.Z 6))) (
   .ret (.ci .i64 (-1)))
theorem aPG:bI Tryz.prog [] eF false 3000 ⟨[(2993,1002,[.dr 0,.tm 9 0])],[]⟩ = .ok wH:=by kernel_rfl
theorem aPI (x:(List eX) × Int) (hx:okD (.bRW (.slice 82 aF) tI) x) (hp:(fun _=>True) x):wH.wp [] [⟨(.bRW (.slice 82 aF) tI),x⟩] [] (fun v=>v.as tI=(fun x=>dX x.1 x.2) x):=by
 obtain ⟨l,m⟩:=x
 have hm:l.length≤9223372036854775807:=hx.1.1
 delta wH;refine cW ?_;try with_reducible exact True.intro
 (repeat' first|intro _|(with_reducible apply And.intro))
 all_goals first|omega|(unfold maxLen;omega)|skip
 refine pA (fun k=>(k:Int)) (fun k=>oJ l m k = -1) (List.length l) rfl rfl fun I μ k hk hg _ go=>?_
 try dsimp only
 (refine dB ?_;try with_reducible exact True.intro)
 (repeat' first|intro _|(refine go _ ?_ ?_ ?_)|(refine go _ ?_ ?_)|(with_reducible apply And.intro))
 all_goals first|omega|exact aQS (by omega) hg (by assumption)|exact aR8 hg (by assumption)|rfl|(have e:k=List.length l:=(by omega);subst e;exact hg.symm)
theorem wK:Con.Holds Tryz.prog eF:=aS aV aQ aPG aPI
def eE:Con:=⟨147,(.bRW (.slice 82 aF) tI),tI,[.val ⟨false,(.slice 82 aF),[]⟩,.val ⟨false,tI,[]⟩],[⟨false,tI,[0]⟩],false,none,
 ((fun _=>True):((List eX) × Int)→Prop),
 ((fun x=>dX x.1 x.2):((List eX) × Int)→(Int))⟩
def wY:T:=.loop tI (.ci .i64 0) <|
 .bRX (.bS0 82 aF) (.p1 (.slice 82 aF) tI (.Z 0)) <|
 .bRX (.cmp .lss .i64) (.bRY tI tI (.Z 1) (.Z 2)) <|
 .ite (.Z 3) (
  .bRX (.bS1 82 aF) (.bRY (.slice 82 aF) tI (.p1 (.slice 82 aF) tI (.Z 0)) (.Z 1)) <|
  .bRX (.cmp .eql .i64) (.bRY tI tI (.p1 tI aL (.Z 4)) (aP (.bRW (.slice 82 aF) tI) 1 (.Z 0))) <|
  .ite (.Z 5) (
   .ret (.Z 1)) (
   .bRX (.ar .add .i64) (.bRY tI tI (.Z 1) (.ci .i64 1)) <|
   .bRZ 0 (.Z 6))) (
  .ret (.ci .i64 (-1)))
theorem aPN:bI Tryz.prog [] eE false 3000 ⟨[(2993,1001,[.tm 5 0])],[]⟩ = .ok wY:=by kernel_rfl
theorem aQ1 (x:(List eX) × Int) (hx:okD (.bRW (.slice 82 aF) tI) x) (hp:(fun _=>True) x):wY.wp [] [⟨(.bRW (.slice 82 aF) tI),x⟩] [] (fun v=>v.as tI=(fun x=>dX x.1 x.2) x):=by
 obtain ⟨l,m⟩:=x
 have hm:l.length≤9223372036854775807:=hx.1.1
 delta wY;refine cW ?_;try with_reducible exact True.intro
 (repeat' first|intro _|(with_reducible apply And.intro))
 all_goals first|omega|(unfold maxLen;omega)|skip
 refine pA (fun k=>(k:Int)) (fun k=>oJ l m k = -1) (List.length l) rfl rfl fun I μ k hk hg _ go=>?_
 try dsimp only
 (refine dB ?_;try with_reducible exact True.intro)
 (repeat' first|intro _|(refine go _ ?_ ?_ ?_)|(refine go _ ?_ ?_)|(with_reducible apply And.intro))
 all_goals first|omega|exact aQS (by omega) hg (by assumption)|exact aR8 hg (by assumption)|rfl|(have e:k=List.length l:=(by omega);subst e;exact hg.symm)
theorem wO:Con.Holds Tryz.prog eE:=aS aV aQ aPN aQ1
def aCD:Con:=⟨125,(.bRW aN aH),(.bRW aN .bool),[.val ⟨true,aN,[]⟩,.val ⟨true,aH,[]⟩],[⟨true,aN,[0,2]⟩,⟨false,.bool,[0]⟩],false,none,
 ((fun x=>bM aN x.1≤1000000000):(cG × cP)→Prop),
 ((fun x=>vH x.1 x.2):(cG × cP)→(cG × Bool))⟩
def aM1:T:=.call 0 (.p1 aN aH (.Z 0)) <|.call 1 (.p1 aN aH (.Z 0)) <|
 .bRX .not (.Z 2) <|
 .ite (.Z 3) (
  .ret (.bRY aN .bool (.Z 1) (.cb false))) (
  .bRX (.bS0 110 aH) (aP aN 1 (.p1 aN aH (.Z 0))) <|
  .bRX (.cmp .geq .i64) (.bRY tI tI (.Z 4) (.p1 tI (.slice 110 aH) (.p1 aN aH (.Z 0)))) <|
  .ite (.Z 5) (
   .ret (.bRY aN .bool (.Z 1) (.cb false))) (
   .call 2 (aP (.bRW aN aH) 2 (.Z 0)) <|
   .bRX .not (.Z 6) <|
   .ite (.Z 7) (
    .ret (.bRY aN .bool (.Z 1) (.cb false))) (
    .call 3 (bB (.bRW tI aD) [(aK (.bRW aN aH) 1 (.Z 0)),(.ci .i64 0),(.ci .i64 4)]) <|
    .bRX .not (.Z 8) <|
    .ite (.Z 9) (
     .ret (.bRY aN .bool (.Z 1) (.cb false))) (
     .bRX (.bS3 3 tI 8) (.bRY aB aB (.nl 3 tI) (aP (.bRW aN aH) 2 (.Z 0))) <|
     .bRX (.lit 110 aH 1) (.bRY tI aB (aK (.bRW aN aH) 1 (.Z 0)) (.Z 10)) <|
     .bRX (.bS3 110 aH 32) (.bRY (.slice 110 aH) (.slice 110 aH) (aP aN 1 (.Z 1)) (.Z 11)) <|
     .ret (.bRY aN .bool (.bRY tI (.slice 110 aH) (.p1 tI (.slice 110 aH) (.Z 1)) (.Z 12)) (.cb true))))))
theorem bK4:bI Tryz.prog [gE,gA,bN,bL] aCD false 3000 ⟨[],[(2989,16010,[40],[])]⟩ = .ok aM1:=by kernel_rfl
theorem bL7 (x:cG × cP) (hx:okD (.bRW aN aH) x) (hp:(fun x=>bM aN x.1≤1000000000) x):aM1.wp [gE,gA,bN,bL] [⟨(.bRW aN aH),x⟩] [] (fun v=>v.as (.bRW aN .bool)=(fun x=>vH x.1 x.2) x):=by
 obtain ⟨q,y⟩:=x
 have hB:=gZ (t:=aN) hp
 delta aM1 gE gA bN bL;refine cW ?_
 refine ⟨hp,fun _=>?_⟩
 (repeat' first|intro _|(with_reducible apply And.intro))
 all_goals simp only[mG] at *
 all_goals try have hqq:=aDA (by assumption)
 all_goals try have hq8:=vL (by assumption) (by omega)
 all_goals try have hq6:=aC3 (by assumption)
 all_goals try have hq7:=(cT _).1 (by assumption)
 all_goals first|omega|(unfold maxLen;omega)|exact gH (.inl (by assumption))|exact gH (.inr (.inl (by assumption)))|exact gH (.inr (.inr (by omega)))|exact aC2 (.inl (by assumption))|exact aC2 (.inr (by omega))|exact qW (by assumption) (by assumption) (by omega)|exact vO (by assumption) (by omega)|(rw[List.take_length];exact vO (by assumption) (by omega))|exact gH (.inr (.inl (aBZ (.inl (by assumption)))))|exact gH (.inr (.inl (aBZ (.inr (by omega)))))|exact qW (by assumption) (aUT (by assumption) (by omega) (by omega)) (by omega)|skip
theorem bMI:Con.Holds Tryz.prog aCD:=aS aV (aI aBK (aI aAS (aI fD (aI eV aQ)))) bK4 bL7
def aHD:Con:=⟨64,aN,(.bRW aN (.bRW aH .bool)),[.val ⟨true,aN,[]⟩],[⟨true,aN,[0,0]⟩,⟨true,aH,[0,0]⟩,⟨false,.bool,[0]⟩],false,none,
 ((fun x=>bM aN x≤1000000000):(cG)→Prop),
 ((fun x=>yG x):(cG)→(cG × (cP × Bool)))⟩
def aUE:T:=.call 0 (.Z 0) <|.call 1 (.Z 0) <|
 .bRX .not (.Z 2) <|
 .ite (.Z 3) (
  .ret (bB (.bRW aN (.bRW aH .bool)) [(.Z 1),(.bRY tI aB (.ci .i64 0) (.nl 3 tI)),(.cb false)])) (
  .bRX (.bS0 110 aH) (aP aN 1 (.Z 0)) <|
  .bRX (.cmp .eql .i64) (.bRY tI tI (.Z 4) (.ci .i64 0)) <|
  .ite (.Z 5) (
   .ret (bB (.bRW aN (.bRW aH .bool)) [(.Z 1),(.bRY tI aB (.ci .i64 0) (.nl 3 tI)),(.cb false)])) (
   .bRX (.bS1 110 aH) (.bRY (.slice 110 aH) tI (aP aN 1 (.Z 1)) (.ci .i64 0)) <|
   .bRX (.bS1 110 aH) (.bRY (.slice 110 aH) tI (aP aN 1 (.Z 1)) (.ci .i64 0)) <|
   .bRX (.bS0 110 aH) (aP aN 1 (.Z 1)) <|
   .bRX (.bS2 110 aH) (bB (.bRW (.slice 110 aH) aD) [(aP aN 1 (.Z 1)),(.ci .i64 1),(.Z 8)]) <|
   .ret (bB (.bRW aN (.bRW aH .bool)) [(.bRY tI (.slice 110 aH) (.p1 tI (.slice 110 aH) (.Z 1)) (.Z 9)),(.Z 7),(.cb true)])))
theorem bON:bI Tryz.prog [eD,fZ] aHD false 3000 ⟨[],[(2987,4008,[],[6])]⟩ = .ok aUE:=by kernel_rfl
theorem bOT (x:cG) (hx:okD aN x) (hp:(fun x=>bM aN x≤1000000000) x):aUE.wp [eD,fZ] [⟨aN,x⟩] [] (fun v=>v.as (.bRW aN (.bRW aH .bool))=(fun x=>yG x) x):=by
 have hB:=gZ (t:=aN) hp
 delta aUE eD fZ;refine cW ?_
 refine ⟨hp,fun _=>?_⟩
 (repeat' first|intro _|(with_reducible apply And.intro))
 all_goals simp only[mG] at *
 all_goals try have hqq:=aDA (by assumption)
 all_goals try have hq8:=vL (by assumption) (by omega)
 all_goals try have hq6:=aC3 (by assumption)
 all_goals try have hq7:=(cT _).1 (by assumption)
 all_goals first|omega|(unfold maxLen;omega)|exact gH (.inl (by assumption))|exact gH (.inr (.inl (by assumption)))|exact gH (.inr (.inr (by omega)))|exact aC2 (.inl (by assumption))|exact aC2 (.inr (by omega))|exact qW (by assumption) (by assumption) (by omega)|exact vO (by assumption) (by omega)|(rw[List.take_length];exact vO (by assumption) (by omega))|exact gH (.inr (.inl (aBZ (.inl (by assumption)))))|exact gH (.inr (.inl (aBZ (.inr (by omega)))))|exact qW (by assumption) (aUT (by assumption) (by omega) (by omega)) (by omega)|skip
theorem bPM:Con.Holds Tryz.prog aHD:=aS aV (aI wI (aI aBH aQ)) bON bOT
def aHL:Con:=⟨123,aN,(.bRW aN (.bRW aH .bool)),[.val ⟨true,aN,[]⟩],[⟨true,aN,[0,0]⟩,⟨true,aH,[0,0]⟩,⟨false,.bool,[0]⟩],false,none,
 ((fun x=>bM aN x≤1000000000):(cG)→Prop),
 ((fun x=>yG x):(cG)→(cG × (cP × Bool)))⟩
def aTS:T:=.call 0 (.Z 0) <|.call 1 (.Z 0) <|
 .bRX .not (.Z 2) <|
 .ite (.Z 3) (
  .ret (bB (.bRW aN (.bRW aH .bool)) [(.Z 1),(.bRY tI aB (.ci .i64 0) (.nl 3 tI)),(.cb false)])) (
  .bRX (.bS0 110 aH) (aP aN 1 (.Z 0)) <|
  .bRX (.cmp .eql .i64) (.bRY tI tI (.Z 4) (.ci .i64 0)) <|
  .ite (.Z 5) (
   .ret (bB (.bRW aN (.bRW aH .bool)) [(.Z 1),(.bRY tI aB (.ci .i64 0) (.nl 3 tI)),(.cb false)])) (
   .bRX (.bS1 110 aH) (.bRY (.slice 110 aH) tI (aP aN 1 (.Z 0)) (.ci .i64 0)) <|
   .bRX (.bS0 110 aH) (aP aN 1 (.Z 1)) <|
   .bRX (.bS2 110 aH) (bB (.bRW (.slice 110 aH) aD) [(aP aN 1 (.Z 1)),(.ci .i64 1),(.Z 7)]) <|
   .bRX (.bS3 3 tI 8) (.bRY aB aB (.nl 3 tI) (aP aH 1 (.Z 6))) <|
   .ret (bB (.bRW aN (.bRW aH .bool)) [(.bRY tI (.slice 110 aH) (.p1 tI (.slice 110 aH) (.Z 1)) (.Z 8)),(.bRY tI aB (.p1 tI aB (.Z 6)) (.Z 9)),(.cb true)])))
theorem bPN:bI Tryz.prog [gE,gA] aHL false 3000 ⟨[],[(2987,4007,[],[6])]⟩ = .ok aTS:=by kernel_rfl
theorem bPD (x:cG) (hx:okD aN x) (hp:(fun x=>bM aN x≤1000000000) x):aTS.wp [gE,gA] [⟨aN,x⟩] [] (fun v=>v.as (.bRW aN (.bRW aH .bool))=(fun x=>yG x) x):=by
 have hB:=gZ (t:=aN) hp
 delta aTS gE gA;refine cW ?_
 refine ⟨hp,fun _=>?_⟩
 (repeat' first|intro _|(with_reducible apply And.intro))
 all_goals simp only[mG] at *
 all_goals try have hqq:=aDA (by assumption)
 all_goals try have hq8:=vL (by assumption) (by omega)
 all_goals try have hq6:=aC3 (by assumption)
 all_goals try have hq7:=(cT _).1 (by assumption)
 all_goals first|omega|(unfold maxLen;omega)|exact gH (.inl (by assumption))|exact gH (.inr (.inl (by assumption)))|exact gH (.inr (.inr (by omega)))|exact aC2 (.inl (by assumption))|exact aC2 (.inr (by omega))|exact qW (by assumption) (by assumption) (by omega)|exact vO (by assumption) (by omega)|(rw[List.take_length];exact vO (by assumption) (by omega))|exact gH (.inr (.inl (aBZ (.inl (by assumption)))))|exact gH (.inr (.inl (aBZ (.inr (by omega)))))|exact qW (by assumption) (aUT (by assumption) (by omega) (by omega)) (by omega)|skip
theorem bOL:Con.Holds Tryz.prog aHL:=aS aV (aI aBK (aI aAS aQ)) bPN bPD
end
end Go.Proofs.YtabamggdmdednaaGreat
