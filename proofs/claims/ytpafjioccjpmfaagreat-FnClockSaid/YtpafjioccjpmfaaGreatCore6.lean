/- Core6: lemmas. No conditions. -/
import Derived.Test.YtpafjioccjpmfaaGreatSeq5
import Derived.Test.YtpafjioccjpmfaaGreatPipe4
import Derived.Test.YtpafjioccjpmfaaGreatCpy2
import Derived.Test.YtpafjioccjpmfaaGreatCe
namespace Go.Proofs.YtpafjioccjpmfaaGreat
noncomputable section
set_option maxRecDepth 100000
open Go.ChangeShapes Go.WideShapes Go.ChangeAt Go.RowKit Go.Deep
set_option linter.unusedVariables false
set_option linter.unusedSimpArgs false
theorem aJA {e:TypeId} {l:dG} (h:bE5 (.slice e aFJ) l):List.length l≤1000000000∧∀ y∈l,List.length y≤1000000000:=⟨h.1,fun y hy=>(h.2 y hy).1⟩
theorem bK4 {g:jB} (h:bE5 bJ g):oS g:=aJA h.1
def bAU:eS:=aP aI
def oN (q:cY) (x:eS):cY × Bool:=if jO q=true∧zJ x=true∧(q.2.length:Int)<q.1 then ((q.1,q.2++[x]),true) else (q,false)
def qU (q:cY):cY × (eS × Bool):=if jO q=true∧0<q.2.length then ((q.1,q.2.drop 1),q.2.getD 0 bAU,true) else (q,bAU,false)
theorem pQ {q:cY} {x:eS} (h:jO q=false∨zJ x=false∨¬ (q.2.length:Int)<q.1):(q,false)=oN q x:=by
 unfold oN;rw[if_neg]
 rintro ⟨h1,h2,h3⟩
 rcases h with h|h|h
 ·rw[h] at h1;cases h1
 ·rw[h] at h2;cases h2
 ·exact h h3
theorem aAR {q:cY} {x:eS} (h1:jO q=true) (h2:zJ x=true) (h3:(q.2.length:Int)<q.1):((q.1,q.2++[x]),true)=oN q x:=by unfold oN;rw[if_pos ⟨h1,h2,h3⟩]
theorem aSQ {q:cY} (h:jO q=false∨q.2.length=0):(q,(0,[]),false)=qU q:=by
 unfold qU;rw[if_neg]
 ·rfl
 rintro ⟨h1,h2⟩
 rcases h with h|h
 ·rw[h] at h1;cases h1
 ·omega
theorem aBY {q:cY} (h1:jO q=true) (h2:0<q.2.length):((q.1,q.2.drop 1),q.2.getD 0 bAU,true)=qU q:=by unfold qU;rw[if_pos ⟨h1,h2⟩]
theorem aQX {x:eS} (h:nE x.2=false∨x.1<0∨4<x.1):zJ x=false:=by
 refine Bool.eq_false_iff.2 fun hh=>?_
 rw[jR] at hh
 rcases h with h|h
 ·rw[h] at hh;cases hh.1
 ·omega
theorem bH7 {x:eS} (h:nE x.2=true) (h2:0≤x.1) (h3:x.1<5):zJ x=true:=(jR _).2 ⟨h,h2,h3⟩
theorem aM6 {x:eS} (h:zJ x=true):x.2.length≤6:=((dB _).1 ((jR _).1 h).1).2.1
theorem aPP {q:cY} (h:jO q=true):(q.2.length:Int)≤q.1∧q.2.length≤5:=by have:=(mJ.1 h).1;omega
theorem aI7 {q:cY} (h:jO q=true) (h2:0<q.2.length):(q.2.getD 0 (aP aI)).2.length≤6:=aM6 ((mJ.1 h).2 0 h2)
def nW (l:List gK) (m:Int):Nat→Int
 | 0=>-1
 | k+1=>if nW l m k = -1∧(l.getD k (aP aL)).1=m then (k:Int) else nW l m k
def eE (l:List gK) (m:Int):Int:=nW l m l.length
theorem aLW (l:List gK) (m:Int):(k:Nat)→-1≤nW l m k∧nW l m k<k
 | 0=>by unfold nW;omega
 | k+1=>by
  have:=aLW l m k
  unfold nW;split <;> omega
theorem aJL {l : List gK} {m : Int} : {k n : Nat} → k ≤ n → nW l m k ≠ -1 → nW l m n = nW l m k
  | k, 0, h, _ => by have : k = 0 := by omega
                     subst this; rfl
  | k, n + 1, h, hk => by
    rcases Nat.lt_or_eq_of_le h with h | rfl
    · have e := aJL (Nat.le_of_lt_succ h) hk
      rw [nW, if_neg (fun hh => hk (e ▸ hh.1)), e]
    · rfl
theorem aPK {l:List gK} {m:Int} {k:Nat} (hk:k<l.length) (h:nW l m k = -1) (hm:(l.getD k (aP aL)).1=m):(k:Int)=eE l m:=by
 have e:nW l m (k+1)=k:=by rw[nW,if_pos ⟨h,hm⟩]
 unfold eE
 rw[aJL (k:=k+1) hk (by omega),e]
theorem aPB {l:List gK} {m:Int} {k:Nat} (h:nW l m k = -1) (hm:¬ (l.getD k (aP aL)).1=m):nW l m (k+1) = -1:=by rw[nW,if_neg (fun hh=>hm hh.2),h]
def gX:Con:=⟨54,aF,aF,[.val ⟨false,aF,[]⟩],[⟨false,aF,[2]⟩],false,none,
 ((fun x=>bS aF x≤1000000000):(bL)→Prop),
 ((fun x=>x):(bL)→(bL))⟩
def vH:T :=
 .bPX (.bQ0 108 aQ) (.Z 0) <|
 .loop (.bPW tI aF) (.bPY tI aF (.ci .i64 0) (.nl 108 aQ)) <|
  .bPX (.cmp .lss .i64) (.bPY tI tI (.p1 tI aF (.Z 2)) (.Z 1)) <|
  .ite (.Z 3) (
   .bPX (.bQ1 108 aQ) (.bPY aF tI (.Z 0) (.p1 tI aF (.Z 2))) <|
   .call 0 (.p1 aB aB (.Z 4)) <|
   .call 0 (aS aQ 1 (.Z 4)) <|
   .bPX (.lit 108 aQ 1) (.bPY aB aB (.Z 5) (.Z 6)) <|
   .bPX (.bQ3 108 aQ 48) (.bPY aF aF (aS (.bPW tI aF) 1 (.Z 2)) (.Z 7)) <|
   .bPX (.ar .add .i64) (.bPY tI tI (.p1 tI aF (.Z 2)) (.ci .i64 1)) <|
   .bPZ 0 (.bPY tI aF (.Z 9) (.Z 8))) (
   .ret (aS (.bPW tI aF) 1 (.Z 2)))
theorem aO0:bW Tryz.prog [bT] gX false 3000 ⟨[(2991,1002,[.dr 6,.dr 0,.tm 9 0,.on 3,.sl 1])],[(2981,3005,[19,16],[])]⟩ = .ok vH:=by kernel_rfl
theorem aNF (x:bL) (hx:okD aF x) (hp:(fun x=>bS aF x≤1000000000) x):vH.wp [bT] [⟨aF,x⟩] [] (fun v=>v.as aF=(fun x=>x) x):=by
 have hB:=rC (t:=aF) hp
 delta vH bT;refine dY ?_;try with_reducible exact True.intro
 (repeat' first|intro _|(with_reducible apply And.intro))
 all_goals first|omega|(unfold maxLen;omega)|skip
 refine eW (fun k=>((k:Int),List.take k x)) (List.length x) rfl fun I μ k hk _ go=>?_
 dsimp only
 refine eD ?_
 by_cases hkn:k<List.length x
 ·have hm:=hB.2 _ (List.getElem_mem hkn)
  have hn:=hB.1
  rw[aW hkn]
  (repeat' first|intro _|(refine go _ ?_ ?_ ?_)|(refine go _ ?_ ?_)|(with_reducible apply And.intro))
  all_goals first|omega|exact hm.1.1|exact hm.2.1|(simp only[List.length_take];unfold maxLen;omega)|(simp only[List.length_take];omega)|(rw[mC hkn];rfl)
 ·(repeat' first|intro _|(refine go _ ?_ ?_ ?_)|(refine go _ ?_ ?_)|(with_reducible apply And.intro))
  all_goals first|omega|(have e:k=List.length x:=(by omega);subst e;exact List.take_length)
theorem aCW:Con.Holds Tryz.prog gX:=aX aZ (aG gT aT) aO0 aNF
def eJ:Con:=⟨92,aM,aM,[.val ⟨true,aM,[]⟩],[⟨true,aM,[0,2]⟩],false,none,
 ((fun x=>bS aM x≤1000000000):(cY)→Prop),
 ((fun x=>x):(cY)→(cY))⟩
def wC:T :=
 .bPX (.bQ0 115 aI) (aS aM 1 (.Z 0)) <|
 .loop aM (.bPY tI (.slice 115 aI) (.ci .i64 0) (.nl 115 aI)) <|
  .bPX (.cmp .lss .i64) (.bPY tI tI (.p1 tI (.slice 115 aI) (.Z 2)) (.Z 1)) <|
  .ite (.Z 3) (
   .bPX (.bQ1 115 aI) (.bPY (.slice 115 aI) tI (aS aM 1 (.Z 0)) (.p1 tI (.slice 115 aI) (.Z 2))) <|
   .call 0 (aS aI 1 (.Z 4)) <|
   .bPX (.lit 115 aI 1) (.bPY tI aB (.p1 tI aB (.Z 4)) (.Z 5)) <|
   .bPX (.bQ3 115 aI 32) (.bPY (.slice 115 aI) (.slice 115 aI) (aS aM 1 (.Z 2)) (.Z 6)) <|
   .bPX (.ar .add .i64) (.bPY tI tI (.p1 tI (.slice 115 aI) (.Z 2)) (.ci .i64 1)) <|
   .bPZ 0 (.bPY tI (.slice 115 aI) (.Z 8) (.Z 7))) (
   .ret (.bPY tI (.slice 115 aI) (.p1 tI (.slice 115 aI) (.Z 0)) (aS aM 1 (.Z 2))))
theorem aO6:bW Tryz.prog [bT] eJ false 3000 ⟨[(2991,1002,jV 9 6++[.dr 1,.dr 0,.tm 12 0,.sl 6])],[(2981,3005,[22],[])]⟩ = .ok wC:=by kernel_rfl
theorem aNI (x:cY) (hx:okD aM x) (hp:(fun x=>bS aM x≤1000000000) x):wC.wp [bT] [⟨aM,x⟩] [] (fun v=>v.as aM=(fun x=>x) x):=by
 obtain ⟨c,l⟩:=x
 have hB:=(rC (t:=aM) hp).2
 have hn:List.length l≤1000000000:=hB.1
 delta wC bT;refine dY ?_;try with_reducible exact True.intro
 (repeat' first|intro _|(with_reducible apply And.intro))
 all_goals first|omega|(unfold maxLen;omega)|skip
 refine eW (fun k=>((k:Int),List.take k l)) (List.length l) rfl fun I μ k hk _ go=>?_
 dsimp only
 refine eD ?_
 by_cases hkn:k<List.length l
 ·have hm:=hB.2 _ (List.getElem_mem hkn)
  have hn:=hB.1
  rw[aW hkn]
  (repeat' first|intro _|(refine go _ ?_ ?_ ?_)|(refine go _ ?_ ?_)|(with_reducible apply And.intro))
  all_goals first|omega|exact hm.2.1|(simp only[List.length_take];unfold maxLen;omega)|(simp only[List.length_take];omega)|(rw[mC hkn];rfl)
 ·(repeat' first|intro _|(refine go _ ?_ ?_ ?_)|(refine go _ ?_ ?_)|(with_reducible apply And.intro))
  all_goals first|omega|(have e:k=List.length l:=(by omega);subst e;exact congrArg (Prod.mk c) List.take_length)
theorem vZ:Con.Holds Tryz.prog eJ:=aX aZ (aG gT aT) aO6 aNI
def aAP:Con:=⟨75,(.bPW aM aI),(.bPW aM .bool),[.val ⟨true,aM,[]⟩,.val ⟨true,aI,[]⟩],[⟨true,aM,[0,2]⟩,⟨false,.bool,[0]⟩],false,none,
 ((fun x=>bS aM x.1≤1000000000):(cY × eS)→Prop),
 ((fun x=>oN x.1 x.2):(cY × eS)→(cY × Bool))⟩
def aJT:T:=.call 0 (.p1 aM aI (.Z 0)) <|.call 1 (.p1 aM aI (.Z 0)) <|
 .bPX .not (.Z 2) <|
 .ite (.Z 3) (
  .ret (.bPY aM .bool (.Z 1) (.cb false))) (
  .call 2 (aS (.bPW aM aI) 1 (.Z 0)) <|
  .bPX .not (.Z 4) <|
  .ite (.Z 5) (
   .ret (.bPY aM .bool (.Z 1) (.cb false))) (
   .bPX (.bQ0 115 aI) (aS aM 1 (.p1 aM aI (.Z 0))) <|
   .bPX (.cmp .eql .i64) (.bPY tI tI (.Z 6) (.p1 tI (.slice 115 aI) (.p1 aM aI (.Z 0)))) <|
   .ite (.Z 7) (
    .ret (.bPY aM .bool (.Z 1) (.cb false))) (
    .call 3 (aS (.bPW aM aI) 2 (.Z 0)) <|
    .bPX (.lit 115 aI 1) (.bPY tI aB (aH (.bPW aM aI) 1 (.Z 0)) (.Z 8)) <|
    .bPX (.bQ3 115 aI 32) (.bPY (.slice 115 aI) (.slice 115 aI) (aS aM 1 (.Z 1)) (.Z 9)) <|
    .ret (.bPY aM .bool (.bPY tI (.slice 115 aI) (.p1 tI (.slice 115 aI) (.Z 1)) (.Z 10)) (.cb true)))))
theorem bHE:bW Tryz.prog [eJ,gC,lL,bT] aAP false 3000 ⟨[],[(2989,8008,[32],[])]⟩ = .ok aJT:=by kernel_rfl
theorem bIW (x:cY × eS) (hx:okD (.bPW aM aI) x) (hp:(fun x=>bS aM x.1≤1000000000) x):aJT.wp [eJ,gC,lL,bT] [⟨(.bPW aM aI),x⟩] [] (fun v=>v.as (.bPW aM .bool)=(fun x=>oN x.1 x.2) x):=by
 obtain ⟨q,y⟩:=x
 have hB:=rC (t:=aM) hp
 delta aJT eJ gC lL bT;refine dY ?_
 refine ⟨hp,fun _=>?_⟩
 (repeat' first|intro _|(with_reducible apply And.intro))
 all_goals simp only[uP] at *
 all_goals try have hqq:=aPP (by assumption)
 all_goals try have hq8:=aI7 (by assumption) (by omega)
 all_goals try have hq6:=aM6 (by assumption)
 all_goals try have hq7:=(dB _).1 (by assumption)
 all_goals first|omega|(unfold maxLen;omega)|exact pQ (.inl (by assumption))|exact pQ (.inr (.inl (by assumption)))|exact pQ (.inr (.inr (by omega)))|exact aSQ (.inl (by assumption))|exact aSQ (.inr (by omega))|exact aAR (by assumption) (by assumption) (by omega)|exact aBY (by assumption) (by omega)|(rw[List.take_length];exact aBY (by assumption) (by omega))|exact pQ (.inr (.inl (aQX (.inl (by assumption)))))|exact pQ (.inr (.inl (aQX (.inr (by omega)))))|exact aAR (by assumption) (bH7 (by assumption) (by omega) (by omega)) (by omega)|skip
theorem bGJ:Con.Holds Tryz.prog aAP:=aX aZ (aG vZ (aG aB6 (aG aJW (aG gT aT)))) bHE bIW
def eL:Con:=⟨101,(.bPW (.slice 104 aL) tI),tI,[.val ⟨false,(.slice 104 aL),[]⟩,.val ⟨false,tI,[]⟩],[⟨false,tI,[0]⟩],false,none,
 ((fun _=>True):((List gK) × Int)→Prop),
 ((fun x=>eE x.1 x.2):((List gK) × Int)→(Int))⟩
def wA:T :=
 .bPX (.bQ0 104 aL) (.p1 (.slice 104 aL) tI (.Z 0)) <|
 .loop tI (.ci .i64 0) <|
  .bPX (.cmp .lss .i64) (.bPY tI tI (.Z 2) (.Z 1)) <|
  .ite (.Z 3) (
   .bPX (.bQ1 104 aL) (.bPY (.slice 104 aL) tI (.p1 (.slice 104 aL) tI (.Z 0)) (.Z 2)) <|
   .bPX (.cmp .eql .i64) (.bPY tI tI (.p1 tI aO (.Z 4)) (aS (.bPW (.slice 104 aL) tI) 1 (.Z 0))) <|
   .ite (.Z 5) (
    .ret (.Z 2)) (
    .bPX (.ar .add .i64) (.bPY tI tI (.Z 2) (.ci .i64 1)) <|
    .bPZ 0 (.Z 6))) (
   .ret (.ci .i64 (-1)))
theorem aNR:bW Tryz.prog [] eL false 3000 ⟨[(2993,1002,[.dr 0,.tm 9 0])],[]⟩ = .ok wA:=by kernel_rfl
theorem aNY (x:(List gK) × Int) (hx:okD (.bPW (.slice 104 aL) tI) x) (hp:(fun _=>True) x):wA.wp [] [⟨(.bPW (.slice 104 aL) tI),x⟩] [] (fun v=>v.as tI=(fun x=>eE x.1 x.2) x):=by
 obtain ⟨l,m⟩:=x
 have hm:l.length≤9223372036854775807:=hx.1.1
 delta wA;refine dY ?_;try with_reducible exact True.intro
 (repeat' first|intro _|(with_reducible apply And.intro))
 all_goals first|omega|(unfold maxLen;omega)|skip
 refine aAT (fun k=>(k:Int)) (fun k=>nW l m k = -1) (List.length l) rfl rfl fun I μ k hk hg _ go=>?_
 try dsimp only
 (refine eD ?_;try with_reducible exact True.intro)
 (repeat' first|intro _|(refine go _ ?_ ?_ ?_)|(refine go _ ?_ ?_)|(with_reducible apply And.intro))
 all_goals first|omega|exact aPK (by omega) hg (by assumption)|exact aPB hg (by assumption)|rfl|(have e:k=List.length l:=(by omega);subst e;exact hg.symm)
theorem vW:Con.Holds Tryz.prog eL:=aX aZ aT aNR aNY
def aFC:Con:=⟨73,aM,(.bPW aM (.bPW aI .bool)),[.val ⟨true,aM,[]⟩],[⟨true,aM,[0,0]⟩,⟨true,aI,[0,0]⟩,⟨false,.bool,[0]⟩],false,none,
 ((fun x=>bS aM x≤1000000000):(cY)→Prop),
 ((fun x=>qU x):(cY)→(cY × (eS × Bool)))⟩
def aSH:T:=.call 0 (.Z 0) <|.call 1 (.Z 0) <|
 .bPX .not (.Z 2) <|
 .ite (.Z 3) (
  .ret (bP (.bPW aM (.bPW aI .bool)) [(.Z 1),(.bPY tI aB (.ci .i64 0) (.nl 3 tI)),(.cb false)])) (
  .bPX (.bQ0 115 aI) (aS aM 1 (.Z 0)) <|
  .bPX (.cmp .eql .i64) (.bPY tI tI (.Z 4) (.ci .i64 0)) <|
  .ite (.Z 5) (
   .ret (bP (.bPW aM (.bPW aI .bool)) [(.Z 1),(.bPY tI aB (.ci .i64 0) (.nl 3 tI)),(.cb false)])) (
   .bPX (.bQ1 115 aI) (.bPY (.slice 115 aI) tI (aS aM 1 (.Z 1)) (.ci .i64 0)) <|
   .bPX (.bQ1 115 aI) (.bPY (.slice 115 aI) tI (aS aM 1 (.Z 1)) (.ci .i64 0)) <|
   .bPX (.bQ0 115 aI) (aS aM 1 (.Z 1)) <|
   .bPX (.bQ2 115 aI) (bP (.bPW (.slice 115 aI) aD) [(aS aM 1 (.Z 1)),(.ci .i64 1),(.Z 8)]) <|
   .ret (bP (.bPW aM (.bPW aI .bool)) [(.bPY tI (.slice 115 aI) (.p1 tI (.slice 115 aI) (.Z 1)) (.Z 9)),(.Z 7),(.cb true)])))
theorem bLA:bW Tryz.prog [eJ,gC] aFC false 3000 ⟨[],[(2987,4008,[],[6])]⟩ = .ok aSH:=by kernel_rfl
theorem bMB (x:cY) (hx:okD aM x) (hp:(fun x=>bS aM x≤1000000000) x):aSH.wp [eJ,gC] [⟨aM,x⟩] [] (fun v=>v.as (.bPW aM (.bPW aI .bool))=(fun x=>qU x) x):=by
 have hB:=rC (t:=aM) hp
 delta aSH eJ gC;refine dY ?_
 refine ⟨hp,fun _=>?_⟩
 (repeat' first|intro _|(with_reducible apply And.intro))
 all_goals simp only[uP] at *
 all_goals try have hqq:=aPP (by assumption)
 all_goals try have hq8:=aI7 (by assumption) (by omega)
 all_goals try have hq6:=aM6 (by assumption)
 all_goals try have hq7:=(dB _).1 (by assumption)
 all_goals first|omega|(unfold maxLen;omega)|exact pQ (.inl (by assumption))|exact pQ (.inr (.inl (by assumption)))|exact pQ (.inr (.inr (by omega)))|exact aSQ (.inl (by assumption))|exact aSQ (.inr (by omega))|exact aAR (by assumption) (by assumption) (by omega)|exact aBY (by assumption) (by omega)|(rw[List.take_length];exact aBY (by assumption) (by omega))|exact pQ (.inr (.inl (aQX (.inl (by assumption)))))|exact pQ (.inr (.inl (aQX (.inr (by omega)))))|exact aAR (by assumption) (bH7 (by assumption) (by omega) (by omega)) (by omega)|skip
theorem bLF:Con.Holds Tryz.prog aFC:=aX aZ (aG vZ (aG aB6 aT)) bLA bMB
end
end Go.Proofs.YtpafjioccjpmfaaGreat
