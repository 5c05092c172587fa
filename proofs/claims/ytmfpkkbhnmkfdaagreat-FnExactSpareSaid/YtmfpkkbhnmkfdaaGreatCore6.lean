/- Core6: lemmas. No conditions. -/
import Derived.Test.YtmfpkkbhnmkfdaaGreatSeq5
import Derived.Test.YtmfpkkbhnmkfdaaGreatPipe4
import Derived.Test.YtmfpkkbhnmkfdaaGreatCe
namespace Go.Proofs.YtmfpkkbhnmkfdaaGreat
noncomputable section
set_option maxRecDepth 100000
open Go.ChangeShapes Go.WideShapes Go.ChangeAt Go.RowKit Go.Deep
set_option linter.unusedVariables false
set_option linter.unusedSimpArgs false
theorem iD:{t:Ty}→{d:t.D}→aY t d≤1000000000→bGS t d:=by
 intro t
 induction t with
 | int k=>intros;trivial
 | bool=>intros;trivial
 | str=>intros;trivial
 | bP9 a b iha ihb =>
  intro d h
  have h':aY a d.1+aY b d.2≤1000000000:=h
  exact ⟨iha (by omega),ihb (by omega)⟩
 | slice e t ih =>
  intro l h
  exact ⟨Nat.le_trans (mM (e:=e) l) h,fun x hx=>ih (Nat.le_trans (pR (e:=e) hx) h)⟩
theorem aJM {e:TypeId} {l:cZ} (h:bGS (.slice e aG4) l):List.length l≤1000000000∧∀ y∈l,List.length y≤1000000000:=⟨h.1,fun y hy=>(h.2 y hy).1⟩
theorem aTL {g:fO} (h:bGS aW g):kE g:=aJM h.1
def bL3:cM:=aX aF
def uZ (q:cH) (x:cM):cH × Bool:=if gY q=true∧xA x=true∧(q.2.length:Int)<q.1 then ((q.1,q.2++[x]),true) else (q,false)
def xP (q:cH):cH × (cM × Bool):=if gY q=true∧0<q.2.length then ((q.1,q.2.drop 1),q.2.getD 0 bL3,true) else (q,bL3,false)
theorem gS {q:cH} {x:cM} (h:gY q=false∨xA x=false∨¬ (q.2.length:Int)<q.1):(q,false)=uZ q x:=by
 unfold uZ;rw[if_neg]
 rintro ⟨h1,h2,h3⟩
 rcases h with h|h|h
 ·rw[h] at h1;cases h1
 ·rw[h] at h2;cases h2
 ·exact h h3
theorem qU {q:cH} {x:cM} (h1:gY q=true) (h2:xA x=true) (h3:(q.2.length:Int)<q.1):((q.1,q.2++[x]),true)=uZ q x:=by unfold uZ;rw[if_pos ⟨h1,h2,h3⟩]
theorem aCH {q:cH} (h:gY q=false∨q.2.length=0):(q,(0,[]),false)=xP q:=by
 unfold xP;rw[if_neg]
 ·rfl
 rintro ⟨h1,h2⟩
 rcases h with h|h
 ·rw[h] at h1;cases h1
 ·omega
theorem vN {q:cH} (h1:gY q=true) (h2:0<q.2.length):((q.1,q.2.drop 1),q.2.getD 0 bL3,true)=xP q:=by unfold xP;rw[if_pos ⟨h1,h2⟩]
theorem aCL {x:cM} (h:iZ x.2=false∨x.1<0∨4<x.1):xA x=false:=by
 refine Bool.eq_false_iff.2 fun hh=>?_
 rw[kX] at hh
 rcases h with h|h
 ·rw[h] at hh;cases hh.1
 ·omega
theorem aQR {x:cM} (h:iZ x.2=true) (h2:0≤x.1) (h3:x.1<5):xA x=true:=(kX _).2 ⟨h,h2,h3⟩
theorem aAP {x:cM} (h:xA x=true):x.2.length≤6:=((cT _).1 ((kX _).1 h).1).2.1
theorem aDD {q:cH} (h:gY q=true):(q.2.length:Int)≤q.1∧q.2.length≤5:=by have:=(nK.1 h).1;omega
theorem uU {q:cH} (h:gY q=true) (h2:0<q.2.length):(q.2.getD 0 (aX aF)).2.length≤6:=aAP ((nK.1 h).2 0 h2)
def oC (l:List fJ) (m:Int):Nat→Int
 | 0=>-1
 | k+1=>if oC l m k = -1∧(l.getD k (aX aD)).1=m then (k:Int) else oC l m k
def eH (l:List fJ) (m:Int):Int:=oC l m l.length
theorem aCJ (l:List fJ) (m:Int):(k:Nat)→-1≤oC l m k∧oC l m k<k
 | 0=>by unfold oC;omega
 | k+1=>by
  have:=aCJ l m k
  unfold oC;split <;> omega
theorem aMM {l : List fJ} {m : Int} : {k n : Nat} → k ≤ n → oC l m k ≠ -1 → oC l m n = oC l m k
  | k, 0, h, _ => by have : k = 0 := by omega
                     subst this; rfl
  | k, n + 1, h, hk => by
    rcases Nat.lt_or_eq_of_le h with h | rfl
    · have e := aMM (Nat.le_of_lt_succ h) hk
      rw [oC, if_neg (fun hh => hk (e ▸ hh.1)), e]
    · rfl
theorem aQ0 {l:List fJ} {m:Int} {k:Nat} (hk:k<l.length) (h:oC l m k = -1) (hm:(l.getD k (aX aD)).1=m):(k:Int)=eH l m:=by
 have e:oC l m (k+1)=k:=by rw[oC,if_pos ⟨h,hm⟩]
 unfold eH
 rw[aMM (k:=k+1) hk (by omega),e]
theorem aQA {l:List fJ} {m:Int} {k:Nat} (h:oC l m k = -1) (hm:¬ (l.getD k (aX aD)).1=m):oC l m (k+1) = -1:=by rw[oC,if_neg (fun hh=>hm hh.2),h]
def iH:Con:=⟨144,aM,aM,[.val ⟨false,aM,[]⟩],[⟨false,aM,[2]⟩],false,none,
 ((fun x=>aY aM x≤1000000000):(dI)→Prop),
 ((fun x=>x):(dI)→(dI))⟩
def vV:T :=
 .bPA (.bPD 126 aI) (.Z 0) <|
 .loop (.bP9 tI aM) (.bPB tI aM (.ci .i64 0) (.nl 126 aI)) <|
  .bPA (.cmp .lss .i64) (.bPB tI tI (.p1 tI aM (.Z 2)) (.Z 1)) <|
  .ite (.Z 3) (
   .bPA (.bPE 126 aI) (.bPB aM tI (.Z 0) (.p1 tI aM (.Z 2))) <|
   .call 0 (.p1 aB aB (.Z 4)) <|
   .call 0 (aQ aI 1 (.Z 4)) <|
   .bPA (.lit 126 aI 1) (.bPB aB aB (.Z 5) (.Z 6)) <|
   .bPA (.bPG 126 aI 48) (.bPB aM aM (aQ (.bP9 tI aM) 1 (.Z 2)) (.Z 7)) <|
   .bPA (.ar .add .i64) (.bPB tI tI (.p1 tI aM (.Z 2)) (.ci .i64 1)) <|
   .bPC 0 (.bPB tI aM (.Z 9) (.Z 8))) (
   .ret (aQ (.bP9 tI aM) 1 (.Z 2)))
theorem aNX:bN Tryz.prog [bR] iH false 3000 ⟨[(2991,1002,[.dr 6,.dr 0,.tm 9 0,.on 3,.sl 1])],[(2981,3005,[19,16],[])]⟩ = .ok vV:=by kernel_rfl
theorem aOX (x:dI) (hx:okD aM x) (hp:(fun x=>aY aM x≤1000000000) x):vV.wp [bR] [⟨aM,x⟩] [] (fun v=>v.as aM=(fun x=>x) x):=by
 have hB:=iD (t:=aM) hp
 delta vV bR;refine dD ?_;try with_reducible exact True.intro
 (repeat' first|intro _|(with_reducible apply And.intro))
 all_goals first|omega|(unfold maxLen;omega)|skip
 refine cJ (fun k=>((k:Int),List.take k x)) (List.length x) rfl fun I μ k hk _ go=>?_
 dsimp only
 refine dM ?_
 by_cases hkn:k<List.length x
 ·have hm:=hB.2 _ (List.getElem_mem hkn)
  have hn:=hB.1
  rw[aZ hkn]
  (repeat' first|intro _|(refine go _ ?_ ?_ ?_)|(refine go _ ?_ ?_)|(with_reducible apply And.intro))
  all_goals first|omega|exact hm.1.1|exact hm.2.1|(simp only[List.length_take];unfold maxLen;omega)|(simp only[List.length_take];omega)|(rw[jF hkn];rfl)
 ·(repeat' first|intro _|(refine go _ ?_ ?_ ?_)|(refine go _ ?_ ?_)|(with_reducible apply And.intro))
  all_goals first|omega|(have e:k=List.length x:=(by omega);subst e;exact List.take_length)
theorem aDK:Con.Holds Tryz.prog iH:=aS aV (aH iC aT) aNX aOX
def kJ:Con:=⟨236,aE,aE,[.val ⟨false,aE,[]⟩],[⟨false,aE,[2]⟩],false,none,
 ((fun x=>aY aE x≤1000000000):(bO)→Prop),
 ((fun x=>x):(bO)→(bO))⟩
def aBF:T :=
 .bPA (.bPD 219 bD) (.Z 0) <|
 .loop (.bP9 tI aE) (.bPB tI aE (.ci .i64 0) (.nl 219 bD)) <|
  .bPA (.cmp .lss .i64) (.bPB tI tI (.p1 tI aE (.Z 2)) (.Z 1)) <|
  .ite (.Z 3) (
   .bPA (.bPE 219 bD) (.bPB aE tI (.Z 0) (.p1 tI aE (.Z 2))) <|
   .call 0 (aQ bD 3 (.Z 4)) <|
   .bPA (.lit 219 bD 1) (bG bD [(.p1 tI (.bP9 tI aF) (.Z 4)),(aK bD 1 (.Z 4)),(aK bD 2 (.Z 4)),(.Z 5)]) <|
   .bPA (.bPG 219 bD 48) (.bPB aE aE (aQ (.bP9 tI aE) 1 (.Z 2)) (.Z 6)) <|
   .bPA (.ar .add .i64) (.bPB tI tI (.p1 tI aE (.Z 2)) (.ci .i64 1)) <|
   .bPC 0 (.bPB tI aE (.Z 8) (.Z 7))) (
   .ret (aQ (.bP9 tI aE) 1 (.Z 2)))
theorem aUC:bN Tryz.prog [bR] kJ false 3000 ⟨[(2991,1002,[.dr 6,.dr 0,.tm 9 0,.on 3,.sl 1])],[(2981,3005,[22],[])]⟩ = .ok aBF:=by kernel_rfl
theorem aVR (x:bO) (hx:okD aE x) (hp:(fun x=>aY aE x≤1000000000) x):aBF.wp [bR] [⟨aE,x⟩] [] (fun v=>v.as aE=(fun x=>x) x):=by
 have hB:=iD (t:=aE) hp
 delta aBF bR;refine dD ?_;try with_reducible exact True.intro
 (repeat' first|intro _|(with_reducible apply And.intro))
 all_goals first|omega|(unfold maxLen;omega)|skip
 refine cJ (fun k=>((k:Int),List.take k x)) (List.length x) rfl fun I μ k hk _ go=>?_
 dsimp only
 refine dM ?_
 by_cases hkn:k<List.length x
 ·have hm:=hB.2 _ (List.getElem_mem hkn)
  have hn:=hB.1
  rw[aZ hkn]
  (repeat' first|intro _|(refine go _ ?_ ?_ ?_)|(refine go _ ?_ ?_)|(with_reducible apply And.intro))
  all_goals first|omega|exact hm.2.2.2.1|(simp only[List.length_take];unfold maxLen;omega)|(simp only[List.length_take];omega)|(rw[jF hkn];rfl)
 ·(repeat' first|intro _|(refine go _ ?_ ?_ ?_)|(refine go _ ?_ ?_)|(with_reducible apply And.intro))
  all_goals first|omega|(have e:k=List.length x:=(by omega);subst e;exact List.take_length)
theorem aIM:Con.Holds Tryz.prog kJ:=aS aV (aH iC aT) aUC aVR
def eK:Con:=⟨179,aO,aO,[.val ⟨true,aO,[]⟩],[⟨true,aO,[0,2]⟩],false,none,
 ((fun x=>aY aO x≤1000000000):(cH)→Prop),
 ((fun x=>x):(cH)→(cH))⟩
def wR:T :=
 .bPA (.bPD 161 aF) (aQ aO 1 (.Z 0)) <|
 .loop aO (.bPB tI (.slice 161 aF) (.ci .i64 0) (.nl 161 aF)) <|
  .bPA (.cmp .lss .i64) (.bPB tI tI (.p1 tI (.slice 161 aF) (.Z 2)) (.Z 1)) <|
  .ite (.Z 3) (
   .bPA (.bPE 161 aF) (.bPB (.slice 161 aF) tI (aQ aO 1 (.Z 0)) (.p1 tI (.slice 161 aF) (.Z 2))) <|
   .call 0 (aQ aF 1 (.Z 4)) <|
   .bPA (.lit 161 aF 1) (.bPB tI aB (.p1 tI aB (.Z 4)) (.Z 5)) <|
   .bPA (.bPG 161 aF 32) (.bPB (.slice 161 aF) (.slice 161 aF) (aQ aO 1 (.Z 2)) (.Z 6)) <|
   .bPA (.ar .add .i64) (.bPB tI tI (.p1 tI (.slice 161 aF) (.Z 2)) (.ci .i64 1)) <|
   .bPC 0 (.bPB tI (.slice 161 aF) (.Z 8) (.Z 7))) (
   .ret (.bPB tI (.slice 161 aF) (.p1 tI (.slice 161 aF) (.Z 0)) (aQ aO 1 (.Z 2))))
theorem aO4:bN Tryz.prog [bR] eK false 3000 ⟨[(2991,1002,iL 9 6++[.dr 1,.dr 0,.tm 12 0,.sl 6])],[(2981,3005,[22],[])]⟩ = .ok wR:=by kernel_rfl
theorem aOW (x:cH) (hx:okD aO x) (hp:(fun x=>aY aO x≤1000000000) x):wR.wp [bR] [⟨aO,x⟩] [] (fun v=>v.as aO=(fun x=>x) x):=by
 obtain ⟨c,l⟩:=x
 have hB:=(iD (t:=aO) hp).2
 have hn:List.length l≤1000000000:=hB.1
 delta wR bR;refine dD ?_;try with_reducible exact True.intro
 (repeat' first|intro _|(with_reducible apply And.intro))
 all_goals first|omega|(unfold maxLen;omega)|skip
 refine cJ (fun k=>((k:Int),List.take k l)) (List.length l) rfl fun I μ k hk _ go=>?_
 dsimp only
 refine dM ?_
 by_cases hkn:k<List.length l
 ·have hm:=hB.2 _ (List.getElem_mem hkn)
  have hn:=hB.1
  rw[aZ hkn]
  (repeat' first|intro _|(refine go _ ?_ ?_ ?_)|(refine go _ ?_ ?_)|(with_reducible apply And.intro))
  all_goals first|omega|exact hm.2.1|(simp only[List.length_take];unfold maxLen;omega)|(simp only[List.length_take];omega)|(rw[jF hkn];rfl)
 ·(repeat' first|intro _|(refine go _ ?_ ?_ ?_)|(refine go _ ?_ ?_)|(with_reducible apply And.intro))
  all_goals first|omega|(have e:k=List.length l:=(by omega);subst e;exact congrArg (Prod.mk c) List.take_length)
theorem wB:Con.Holds Tryz.prog eK:=aS aV (aH iC aT) aO4 aOW
def gP:Con:=⟨114,aO,aO,[.val ⟨true,aO,[]⟩],[⟨true,aO,[0,2]⟩],false,none,
 ((fun x=>aY aO x≤1000000000):(cH)→Prop),
 ((fun x=>x):(cH)→(cH))⟩
def aC9:T:=.loop aO (.bPB tI (.slice 161 aF) (.ci .i64 0) (.nl 161 aF)) <|
 .bPA (.bPD 161 aF) (aQ aO 1 (.Z 0)) <|
 .bPA (.cmp .lss .i64) (.bPB tI tI (.p1 tI (.slice 161 aF) (.Z 1)) (.Z 2)) <|
 .ite (.Z 3) (
  .bPA (.bPE 161 aF) (.bPB (.slice 161 aF) tI (aQ aO 1 (.Z 0)) (.p1 tI (.slice 161 aF) (.Z 1))) <|
  .bPA (.bPE 161 aF) (.bPB (.slice 161 aF) tI (aQ aO 1 (.Z 0)) (.p1 tI (.slice 161 aF) (.Z 1))) <|
  .bPA (.bPG 3 tI 8) (.bPB aB aB (.nl 3 tI) (aQ aF 1 (.Z 5))) <|
  .bPA (.lit 161 aF 1) (.bPB tI aB (.p1 tI aB (.Z 4)) (.Z 6)) <|
  .bPA (.bPG 161 aF 32) (.bPB (.slice 161 aF) (.slice 161 aF) (aQ aO 1 (.Z 1)) (.Z 7)) <|
  .bPA (.ar .add .i64) (.bPB tI tI (.p1 tI (.slice 161 aF) (.Z 1)) (.ci .i64 1)) <|
  .bPC 0 (.bPB tI (.slice 161 aF) (.Z 9) (.Z 8))) (
  .ret (.bPB tI (.slice 161 aF) (.p1 tI (.slice 161 aF) (.Z 0)) (aQ aO 1 (.Z 1))))
theorem aXC:bN Tryz.prog [] gP false 3000 ⟨[(2991,1001,[.dr 5,.dr 0,.tm 4 0,.on 3,.sl 4])],[(2983,3004,[27],[])]⟩ = .ok aC9:=by kernel_rfl
theorem aUG (x:cH) (hx:okD aO x) (hp:(fun x=>aY aO x≤1000000000) x):aC9.wp [] [⟨aO,x⟩] [] (fun v=>v.as aO=(fun x=>x) x):=by
 obtain ⟨c,l⟩:=x
 have hB:=(iD (t:=aO) hp).2
 have hn:List.length l≤1000000000:=hB.1
 delta aC9;refine dD ?_;try with_reducible exact True.intro
 (repeat' first|intro _|(with_reducible apply And.intro))
 all_goals first|omega|(unfold maxLen;omega)|skip
 refine cJ (fun k=>((k:Int),List.take k l)) (List.length l) rfl fun I μ k hk _ go=>?_
 dsimp only
 refine dM ?_
 by_cases hkn:k<List.length l
 ·have hm:=hB.2 _ (List.getElem_mem hkn)
  have hn:=hB.1
  have hn2:=hm.2.1
  rw[aZ hkn]
  (repeat' first|intro _|(refine go _ ?_ ?_ ?_)|(refine go _ ?_ ?_)|(with_reducible apply And.intro))
  all_goals first|omega|(unfold maxLen;omega)|(simp only[List.length_take];unfold maxLen;omega)|(simp only[List.length_take];omega)|(rw[jF hkn];rfl)
 ·(repeat' first|intro _|(refine go _ ?_ ?_ ?_)|(refine go _ ?_ ?_)|(with_reducible apply And.intro))
  all_goals first|omega|(have e:k=List.length l:=(by omega);subst e;exact congrArg (Prod.mk c) List.take_length)
theorem aBC:Con.Holds Tryz.prog gP:=aS aV aT aXC aUG
def aAY:Con:=⟨127,(.bP9 aO aF),(.bP9 aO .bool),[.val ⟨true,aO,[]⟩,.val ⟨true,aF,[]⟩],[⟨true,aO,[0,2]⟩,⟨false,.bool,[0]⟩],false,none,
 ((fun x=>aY aO x.1≤1000000000):(cH × cM)→Prop),
 ((fun x=>uZ x.1 x.2):(cH × cM)→(cH × Bool))⟩
def aN0:T:=.call 0 (.p1 aO aF (.Z 0)) <|.call 1 (.p1 aO aF (.Z 0)) <|
 .bPA .not (.Z 2) <|
 .ite (.Z 3) (
  .ret (.bPB aO .bool (.Z 1) (.cb false))) (
  .call 2 (aQ (.bP9 aO aF) 1 (.Z 0)) <|
  .bPA .not (.Z 4) <|
  .ite (.Z 5) (
   .ret (.bPB aO .bool (.Z 1) (.cb false))) (
   .bPA (.bPD 161 aF) (aQ aO 1 (.p1 aO aF (.Z 0))) <|
   .bPA (.cmp .eql .i64) (.bPB tI tI (.Z 6) (.p1 tI (.slice 161 aF) (.p1 aO aF (.Z 0)))) <|
   .ite (.Z 7) (
    .ret (.bPB aO .bool (.Z 1) (.cb false))) (
    .call 3 (aQ (.bP9 aO aF) 2 (.Z 0)) <|
    .bPA (.lit 161 aF 1) (.bPB tI aB (aK (.bP9 aO aF) 1 (.Z 0)) (.Z 8)) <|
    .bPA (.bPG 161 aF 32) (.bPB (.slice 161 aF) (.slice 161 aF) (aQ aO 1 (.Z 1)) (.Z 9)) <|
    .ret (.bPB aO .bool (.bPB tI (.slice 161 aF) (.p1 tI (.slice 161 aF) (.Z 1)) (.Z 10)) (.cb true)))))
theorem bH7:bN Tryz.prog [eK,gM,lL,bR] aAY false 3000 ⟨[],[(2989,8008,[32],[])]⟩ = .ok aN0:=by kernel_rfl
theorem bHT (x:cH × cM) (hx:okD (.bP9 aO aF) x) (hp:(fun x=>aY aO x.1≤1000000000) x):aN0.wp [eK,gM,lL,bR] [⟨(.bP9 aO aF),x⟩] [] (fun v=>v.as (.bP9 aO .bool)=(fun x=>uZ x.1 x.2) x):=by
 obtain ⟨q,y⟩:=x
 have hB:=iD (t:=aO) hp
 delta aN0 eK gM lL bR;refine dD ?_
 refine ⟨hp,fun _=>?_⟩
 (repeat' first|intro _|(with_reducible apply And.intro))
 all_goals simp only[mP] at *
 all_goals try have hqq:=aDD (by assumption)
 all_goals try have hq8:=uU (by assumption) (by omega)
 all_goals try have hq6:=aAP (by assumption)
 all_goals try have hq7:=(cT _).1 (by assumption)
 all_goals first|omega|(unfold maxLen;omega)|exact gS (.inl (by assumption))|exact gS (.inr (.inl (by assumption)))|exact gS (.inr (.inr (by omega)))|exact aCH (.inl (by assumption))|exact aCH (.inr (by omega))|exact qU (by assumption) (by assumption) (by omega)|exact vN (by assumption) (by omega)|(rw[List.take_length];exact vN (by assumption) (by omega))|exact gS (.inr (.inl (aCL (.inl (by assumption)))))|exact gS (.inr (.inl (aCL (.inr (by omega)))))|exact qU (by assumption) (aQR (by assumption) (by omega) (by omega)) (by omega)|skip
theorem bHY:Con.Holds Tryz.prog aAY:=aS aV (aH wB (aH aBW (aH aKW (aH iC aT)))) bH7 bHT
def eN:Con:=⟨208,(.bP9 (.slice 186 aD) tI),tI,[.val ⟨false,(.slice 186 aD),[]⟩,.val ⟨false,tI,[]⟩],[⟨false,tI,[0]⟩],false,none,
 ((fun _=>True):((List fJ) × Int)→Prop),
 ((fun x=>eH x.1 x.2):((List fJ) × Int)→(Int))⟩
def wF:T :=
 .bPA (.bPD 186 aD) (.p1 (.slice 186 aD) tI (.Z 0)) <|
 .loop tI (.ci .i64 0) <|
  .bPA (.cmp .lss .i64) (.bPB tI tI (.Z 2) (.Z 1)) <|
  .ite (.Z 3) (
   .bPA (.bPE 186 aD) (.bPB (.slice 186 aD) tI (.p1 (.slice 186 aD) tI (.Z 0)) (.Z 2)) <|
   .bPA (.cmp .eql .i64) (.bPB tI tI (.p1 tI aJ (.Z 4)) (aQ (.bP9 (.slice 186 aD) tI) 1 (.Z 0))) <|
   .ite (.Z 5) (
    .ret (.Z 2)) (
    .bPA (.ar .add .i64) (.bPB tI tI (.Z 2) (.ci .i64 1)) <|
    .bPC 0 (.Z 6))) (
   .ret (.ci .i64 (-1)))
theorem aNW:bN Tryz.prog [] eN false 3000 ⟨[(2993,1002,[.dr 0,.tm 9 0])],[]⟩ = .ok wF:=by kernel_rfl
theorem aOP (x:(List fJ) × Int) (hx:okD (.bP9 (.slice 186 aD) tI) x) (hp:(fun _=>True) x):wF.wp [] [⟨(.bP9 (.slice 186 aD) tI),x⟩] [] (fun v=>v.as tI=(fun x=>eH x.1 x.2) x):=by
 obtain ⟨l,m⟩:=x
 have hm:l.length≤9223372036854775807:=hx.1.1
 delta wF;refine dD ?_;try with_reducible exact True.intro
 (repeat' first|intro _|(with_reducible apply And.intro))
 all_goals first|omega|(unfold maxLen;omega)|skip
 refine rL (fun k=>(k:Int)) (fun k=>oC l m k = -1) (List.length l) rfl rfl fun I μ k hk hg _ go=>?_
 try dsimp only
 (refine dM ?_;try with_reducible exact True.intro)
 (repeat' first|intro _|(refine go _ ?_ ?_ ?_)|(refine go _ ?_ ?_)|(with_reducible apply And.intro))
 all_goals first|omega|exact aQ0 (by omega) hg (by assumption)|exact aQA hg (by assumption)|rfl|(have e:k=List.length l:=(by omega);subst e;exact hg.symm)
theorem wT:Con.Holds Tryz.prog eN:=aS aV aT aNW aOP
def eP:Con:=⟨193,(.bP9 (.slice 186 aD) tI),tI,[.val ⟨false,(.slice 186 aD),[]⟩,.val ⟨false,tI,[]⟩],[⟨false,tI,[0]⟩],false,none,
 ((fun _=>True):((List fJ) × Int)→Prop),
 ((fun x=>eH x.1 x.2):((List fJ) × Int)→(Int))⟩
def vX:T:=.loop tI (.ci .i64 0) <|
 .bPA (.bPD 186 aD) (.p1 (.slice 186 aD) tI (.Z 0)) <|
 .bPA (.cmp .lss .i64) (.bPB tI tI (.Z 1) (.Z 2)) <|
 .ite (.Z 3) (
  .bPA (.bPE 186 aD) (.bPB (.slice 186 aD) tI (.p1 (.slice 186 aD) tI (.Z 0)) (.Z 1)) <|
  .bPA (.cmp .eql .i64) (.bPB tI tI (.p1 tI aJ (.Z 4)) (aQ (.bP9 (.slice 186 aD) tI) 1 (.Z 0))) <|
  .ite (.Z 5) (
   .ret (.Z 1)) (
   .bPA (.ar .add .i64) (.bPB tI tI (.Z 1) (.ci .i64 1)) <|
   .bPC 0 (.Z 6))) (
  .ret (.ci .i64 (-1)))
theorem aOR:bN Tryz.prog [] eP false 3000 ⟨[(2993,1001,[.tm 5 0])],[]⟩ = .ok vX:=by kernel_rfl
theorem aOO (x:(List fJ) × Int) (hx:okD (.bP9 (.slice 186 aD) tI) x) (hp:(fun _=>True) x):vX.wp [] [⟨(.bP9 (.slice 186 aD) tI),x⟩] [] (fun v=>v.as tI=(fun x=>eH x.1 x.2) x):=by
 obtain ⟨l,m⟩:=x
 have hm:l.length≤9223372036854775807:=hx.1.1
 delta vX;refine dD ?_;try with_reducible exact True.intro
 (repeat' first|intro _|(with_reducible apply And.intro))
 all_goals first|omega|(unfold maxLen;omega)|skip
 refine rL (fun k=>(k:Int)) (fun k=>oC l m k = -1) (List.length l) rfl rfl fun I μ k hk hg _ go=>?_
 try dsimp only
 (refine dM ?_;try with_reducible exact True.intro)
 (repeat' first|intro _|(refine go _ ?_ ?_ ?_)|(refine go _ ?_ ?_)|(with_reducible apply And.intro))
 all_goals first|omega|exact aQ0 (by omega) hg (by assumption)|exact aQA hg (by assumption)|rfl|(have e:k=List.length l:=(by omega);subst e;exact hg.symm)
theorem wJ:Con.Holds Tryz.prog eP:=aS aV aT aOR aOO
def lI:Con:=⟨191,aE,aE,[.val ⟨false,aE,[]⟩],[⟨false,aE,[2]⟩],false,none,
 ((fun x=>aY aE x≤1000000000):(bO)→Prop),
 ((fun x=>x):(bO)→(bO))⟩
def aF0:T:=.loop (.bP9 tI aE) (.bPB tI aE (.ci .i64 0) (.nl 219 bD)) <|
 .bPA (.bPD 219 bD) (.Z 0) <|
 .bPA (.cmp .lss .i64) (.bPB tI tI (.p1 tI aE (.Z 1)) (.Z 2)) <|
 .ite (.Z 3) (
  .bPA (.bPE 219 bD) (.bPB aE tI (.Z 0) (.p1 tI aE (.Z 1))) <|
  .bPA (.bPE 219 bD) (.bPB aE tI (.Z 0) (.p1 tI aE (.Z 1))) <|
  .bPA (.bPG 3 tI 8) (.bPB aB aB (.nl 3 tI) (aQ bD 3 (.Z 5))) <|
  .bPA (.lit 219 bD 1) (bG bD [(.p1 tI (.bP9 tI aF) (.Z 4)),(aK bD 1 (.Z 4)),(aK bD 2 (.Z 4)),(.Z 6)]) <|
  .bPA (.bPG 219 bD 48) (.bPB aE aE (aQ (.bP9 tI aE) 1 (.Z 1)) (.Z 7)) <|
  .bPA (.ar .add .i64) (.bPB tI tI (.p1 tI aE (.Z 1)) (.ci .i64 1)) <|
  .bPC 0 (.bPB tI aE (.Z 9) (.Z 8))) (
  .ret (aQ (.bP9 tI aE) 1 (.Z 1)))
theorem bAU:bN Tryz.prog [] lI false 3000 ⟨[(2991,1001,[.dr 6,.tm 4 0,.on 3,.sl 1])],[(2979,3007,[],[4])]⟩ = .ok aF0:=by kernel_rfl
theorem bBQ (x:bO) (hx:okD aE x) (hp:(fun x=>aY aE x≤1000000000) x):aF0.wp [] [⟨aE,x⟩] [] (fun v=>v.as aE=(fun x=>x) x):=by
 have hB:=iD (t:=aE) hp
 delta aF0;refine dD ?_;try with_reducible exact True.intro
 (repeat' first|intro _|(with_reducible apply And.intro))
 all_goals first|omega|(unfold maxLen;omega)|skip
 refine cJ (fun k=>((k:Int),List.take k x)) (List.length x) rfl fun I μ k hk _ go=>?_
 dsimp only
 refine dM ?_
 by_cases hkn:k<List.length x
 ·have hm:=hB.2 _ (List.getElem_mem hkn)
  have hn:=hB.1
  rw[aZ hkn]
  (repeat' first|intro _|(refine go _ ?_ ?_ ?_)|(refine go _ ?_ ?_)|(with_reducible apply And.intro))
  all_goals first|omega|(have hn2:=hm.2.2.2.1;omega)|(have hn2:=hm.2.2.2.1;unfold maxLen;omega)|(simp only[List.length_take];unfold maxLen;omega)|(simp only[List.length_take];omega)|(rw[jF hkn];rfl)
 ·(repeat' first|intro _|(refine go _ ?_ ?_ ?_)|(refine go _ ?_ ?_)|(with_reducible apply And.intro))
  all_goals first|omega|(have e:k=List.length x:=(by omega);subst e;exact List.take_length)
theorem aL5:Con.Holds Tryz.prog lI:=aS aV aT bAU bBQ
def aBB:Con:=⟨119,(.bP9 aO aF),(.bP9 aO .bool),[.val ⟨true,aO,[]⟩,.val ⟨true,aF,[]⟩],[⟨true,aO,[0,2]⟩,⟨false,.bool,[0]⟩],false,none,
 ((fun x=>aY aO x.1≤1000000000):(cH × cM)→Prop),
 ((fun x=>uZ x.1 x.2):(cH × cM)→(cH × Bool))⟩
def aNE:T:=.call 0 (.p1 aO aF (.Z 0)) <|.call 1 (.p1 aO aF (.Z 0)) <|
 .bPA .not (.Z 2) <|
 .ite (.Z 3) (
  .ret (.bPB aO .bool (.Z 1) (.cb false))) (
  .bPA (.bPD 161 aF) (aQ aO 1 (.p1 aO aF (.Z 0))) <|
  .bPA (.cmp .geq .i64) (.bPB tI tI (.Z 4) (.p1 tI (.slice 161 aF) (.p1 aO aF (.Z 0)))) <|
  .ite (.Z 5) (
   .ret (.bPB aO .bool (.Z 1) (.cb false))) (
   .call 2 (aQ (.bP9 aO aF) 2 (.Z 0)) <|
   .bPA .not (.Z 6) <|
   .ite (.Z 7) (
    .ret (.bPB aO .bool (.Z 1) (.cb false))) (
    .call 3 (bG (.bP9 tI aP) [(aK (.bP9 aO aF) 1 (.Z 0)),(.ci .i64 0),(.ci .i64 4)]) <|
    .bPA .not (.Z 8) <|
    .ite (.Z 9) (
     .ret (.bPB aO .bool (.Z 1) (.cb false))) (
     .bPA (.bPG 3 tI 8) (.bPB aB aB (.nl 3 tI) (aQ (.bP9 aO aF) 2 (.Z 0))) <|
     .bPA (.lit 161 aF 1) (.bPB tI aB (aK (.bP9 aO aF) 1 (.Z 0)) (.Z 10)) <|
     .bPA (.bPG 161 aF 32) (.bPB (.slice 161 aF) (.slice 161 aF) (aQ aO 1 (.Z 1)) (.Z 11)) <|
     .ret (.bPB aO .bool (.bPB tI (.slice 161 aF) (.p1 tI (.slice 161 aF) (.Z 1)) (.Z 12)) (.cb true))))))
theorem bK5:bN Tryz.prog [gP,gQ,bL,bK] aBB false 3000 ⟨[],[(2989,16010,[40],[])]⟩ = .ok aNE:=by kernel_rfl
theorem bHL (x:cH × cM) (hx:okD (.bP9 aO aF) x) (hp:(fun x=>aY aO x.1≤1000000000) x):aNE.wp [gP,gQ,bL,bK] [⟨(.bP9 aO aF),x⟩] [] (fun v=>v.as (.bP9 aO .bool)=(fun x=>uZ x.1 x.2) x):=by
 obtain ⟨q,y⟩:=x
 have hB:=iD (t:=aO) hp
 delta aNE gP gQ bL bK;refine dD ?_
 refine ⟨hp,fun _=>?_⟩
 (repeat' first|intro _|(with_reducible apply And.intro))
 all_goals simp only[mP] at *
 all_goals try have hqq:=aDD (by assumption)
 all_goals try have hq8:=uU (by assumption) (by omega)
 all_goals try have hq6:=aAP (by assumption)
 all_goals try have hq7:=(cT _).1 (by assumption)
 all_goals first|omega|(unfold maxLen;omega)|exact gS (.inl (by assumption))|exact gS (.inr (.inl (by assumption)))|exact gS (.inr (.inr (by omega)))|exact aCH (.inl (by assumption))|exact aCH (.inr (by omega))|exact qU (by assumption) (by assumption) (by omega)|exact vN (by assumption) (by omega)|(rw[List.take_length];exact vN (by assumption) (by omega))|exact gS (.inr (.inl (aCL (.inl (by assumption)))))|exact gS (.inr (.inl (aCL (.inr (by omega)))))|exact qU (by assumption) (aQR (by assumption) (by omega) (by omega)) (by omega)|skip
theorem bGV:Con.Holds Tryz.prog aBB:=aS aV (aH aBC (aH aAM (aH fT (aH fM aT)))) bK5 bHL
def aFW:Con:=⟨125,aO,(.bP9 aO (.bP9 aF .bool)),[.val ⟨true,aO,[]⟩],[⟨true,aO,[0,0]⟩,⟨true,aF,[0,0]⟩,⟨false,.bool,[0]⟩],false,none,
 ((fun x=>aY aO x≤1000000000):(cH)→Prop),
 ((fun x=>xP x):(cH)→(cH × (cM × Bool)))⟩
def aRO:T:=.call 0 (.Z 0) <|.call 1 (.Z 0) <|
 .bPA .not (.Z 2) <|
 .ite (.Z 3) (
  .ret (bG (.bP9 aO (.bP9 aF .bool)) [(.Z 1),(.bPB tI aB (.ci .i64 0) (.nl 3 tI)),(.cb false)])) (
  .bPA (.bPD 161 aF) (aQ aO 1 (.Z 0)) <|
  .bPA (.cmp .eql .i64) (.bPB tI tI (.Z 4) (.ci .i64 0)) <|
  .ite (.Z 5) (
   .ret (bG (.bP9 aO (.bP9 aF .bool)) [(.Z 1),(.bPB tI aB (.ci .i64 0) (.nl 3 tI)),(.cb false)])) (
   .bPA (.bPE 161 aF) (.bPB (.slice 161 aF) tI (aQ aO 1 (.Z 1)) (.ci .i64 0)) <|
   .bPA (.bPE 161 aF) (.bPB (.slice 161 aF) tI (aQ aO 1 (.Z 1)) (.ci .i64 0)) <|
   .bPA (.bPD 161 aF) (aQ aO 1 (.Z 1)) <|
   .bPA (.bPF 161 aF) (bG (.bP9 (.slice 161 aF) aP) [(aQ aO 1 (.Z 1)),(.ci .i64 1),(.Z 8)]) <|
   .ret (bG (.bP9 aO (.bP9 aF .bool)) [(.bPB tI (.slice 161 aF) (.p1 tI (.slice 161 aF) (.Z 1)) (.Z 9)),(.Z 7),(.cb true)])))
theorem bMR:bN Tryz.prog [eK,gM] aFW false 3000 ⟨[],[(2987,4008,[],[6])]⟩ = .ok aRO:=by kernel_rfl
theorem bLL (x:cH) (hx:okD aO x) (hp:(fun x=>aY aO x≤1000000000) x):aRO.wp [eK,gM] [⟨aO,x⟩] [] (fun v=>v.as (.bP9 aO (.bP9 aF .bool))=(fun x=>xP x) x):=by
 have hB:=iD (t:=aO) hp
 delta aRO eK gM;refine dD ?_
 refine ⟨hp,fun _=>?_⟩
 (repeat' first|intro _|(with_reducible apply And.intro))
 all_goals simp only[mP] at *
 all_goals try have hqq:=aDD (by assumption)
 all_goals try have hq8:=uU (by assumption) (by omega)
 all_goals try have hq6:=aAP (by assumption)
 all_goals try have hq7:=(cT _).1 (by assumption)
 all_goals first|omega|(unfold maxLen;omega)|exact gS (.inl (by assumption))|exact gS (.inr (.inl (by assumption)))|exact gS (.inr (.inr (by omega)))|exact aCH (.inl (by assumption))|exact aCH (.inr (by omega))|exact qU (by assumption) (by assumption) (by omega)|exact vN (by assumption) (by omega)|(rw[List.take_length];exact vN (by assumption) (by omega))|exact gS (.inr (.inl (aCL (.inl (by assumption)))))|exact gS (.inr (.inl (aCL (.inr (by omega)))))|exact qU (by assumption) (aQR (by assumption) (by omega) (by omega)) (by omega)|skip
theorem bMT:Con.Holds Tryz.prog aFW:=aS aV (aH wB (aH aBW aT)) bMR bLL
def aH0:Con:=⟨117,aO,(.bP9 aO (.bP9 aF .bool)),[.val ⟨true,aO,[]⟩],[⟨true,aO,[0,0]⟩,⟨true,aF,[0,0]⟩,⟨false,.bool,[0]⟩],false,none,
 ((fun x=>aY aO x≤1000000000):(cH)→Prop),
 ((fun x=>xP x):(cH)→(cH × (cM × Bool)))⟩
def aT2:T:=.call 0 (.Z 0) <|.call 1 (.Z 0) <|
 .bPA .not (.Z 2) <|
 .ite (.Z 3) (
  .ret (bG (.bP9 aO (.bP9 aF .bool)) [(.Z 1),(.bPB tI aB (.ci .i64 0) (.nl 3 tI)),(.cb false)])) (
  .bPA (.bPD 161 aF) (aQ aO 1 (.Z 0)) <|
  .bPA (.cmp .eql .i64) (.bPB tI tI (.Z 4) (.ci .i64 0)) <|
  .ite (.Z 5) (
   .ret (bG (.bP9 aO (.bP9 aF .bool)) [(.Z 1),(.bPB tI aB (.ci .i64 0) (.nl 3 tI)),(.cb false)])) (
   .bPA (.bPE 161 aF) (.bPB (.slice 161 aF) tI (aQ aO 1 (.Z 0)) (.ci .i64 0)) <|
   .bPA (.bPD 161 aF) (aQ aO 1 (.Z 1)) <|
   .bPA (.bPF 161 aF) (bG (.bP9 (.slice 161 aF) aP) [(aQ aO 1 (.Z 1)),(.ci .i64 1),(.Z 7)]) <|
   .bPA (.bPG 3 tI 8) (.bPB aB aB (.nl 3 tI) (aQ aF 1 (.Z 6))) <|
   .ret (bG (.bP9 aO (.bP9 aF .bool)) [(.bPB tI (.slice 161 aF) (.p1 tI (.slice 161 aF) (.Z 1)) (.Z 8)),(.bPB tI aB (.p1 tI aB (.Z 6)) (.Z 9)),(.cb true)])))
theorem bN3:bN Tryz.prog [gP,gQ] aH0 false 3000 ⟨[],[(2987,4007,[],[6])]⟩ = .ok aT2:=by kernel_rfl
theorem bM1 (x:cH) (hx:okD aO x) (hp:(fun x=>aY aO x≤1000000000) x):aT2.wp [gP,gQ] [⟨aO,x⟩] [] (fun v=>v.as (.bP9 aO (.bP9 aF .bool))=(fun x=>xP x) x):=by
 have hB:=iD (t:=aO) hp
 delta aT2 gP gQ;refine dD ?_
 refine ⟨hp,fun _=>?_⟩
 (repeat' first|intro _|(with_reducible apply And.intro))
 all_goals simp only[mP] at *
 all_goals try have hqq:=aDD (by assumption)
 all_goals try have hq8:=uU (by assumption) (by omega)
 all_goals try have hq6:=aAP (by assumption)
 all_goals try have hq7:=(cT _).1 (by assumption)
 all_goals first|omega|(unfold maxLen;omega)|exact gS (.inl (by assumption))|exact gS (.inr (.inl (by assumption)))|exact gS (.inr (.inr (by omega)))|exact aCH (.inl (by assumption))|exact aCH (.inr (by omega))|exact qU (by assumption) (by assumption) (by omega)|exact vN (by assumption) (by omega)|(rw[List.take_length];exact vN (by assumption) (by omega))|exact gS (.inr (.inl (aCL (.inl (by assumption)))))|exact gS (.inr (.inl (aCL (.inr (by omega)))))|exact qU (by assumption) (aQR (by assumption) (by omega) (by omega)) (by omega)|skip
theorem bLW:Con.Holds Tryz.prog aH0:=aS aV (aH aBC (aH aAM aT)) bN3 bM1
end
end Go.Proofs.YtmfpkkbhnmkfdaaGreat
