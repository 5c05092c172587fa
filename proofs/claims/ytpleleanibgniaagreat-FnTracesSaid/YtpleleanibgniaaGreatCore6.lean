/- Core6: lemmas. No conditions. -/
import Derived.Test.YtpleleanibgniaaGreatSeq5
import Derived.Test.YtpleleanibgniaaGreatPipe4
import Derived.Test.YtpleleanibgniaaGreatCpy2
import Derived.Test.YtpleleanibgniaaGreatCe
namespace Go.Proofs.YtpleleanibgniaaGreat
noncomputable section
set_option maxRecDepth 100000
open Go.ChangeShapes Go.WideShapes Go.ChangeAt Go.RowKit Go.Deep
set_option linter.unusedVariables false
set_option linter.unusedSimpArgs false
theorem aFU {e:TypeId} {l:dT} (h:aYU (.slice e aIH) l):List.length l≤1000000000∧∀ y∈l,List.length y≤1000000000:=⟨h.1,fun y hy=>(h.2 y hy).1⟩
theorem bB1 {g:gK} (h:aYU bF g):mD g:=aFU h.1
def bA2:dW:=aS aI
def qS (q:cS) (x:dW):cS × Bool:=if iC q=true∧vO x=true∧(q.2.length:Int)<q.1 then ((q.1,q.2++[x]),true) else (q,false)
def uG (q:cS):cS × (dW × Bool):=if iC q=true∧0<q.2.length then ((q.1,q.2.drop 1),q.2.getD 0 bA2,true) else (q,bA2,false)
theorem mU {q:cS} {x:dW} (h:iC q=false∨vO x=false∨¬ (q.2.length:Int)<q.1):(q,false)=qS q x:=by
 unfold qS;rw[if_neg]
 rintro ⟨h1,h2,h3⟩
 rcases h with h|h|h
 ·rw[h] at h1;cases h1
 ·rw[h] at h2;cases h2
 ·exact h h3
theorem aCA {q:cS} {x:dW} (h1:iC q=true) (h2:vO x=true) (h3:(q.2.length:Int)<q.1):((q.1,q.2++[x]),true)=qS q x:=by unfold qS;rw[if_pos ⟨h1,h2,h3⟩]
theorem aML {q:cS} (h:iC q=false∨q.2.length=0):(q,(0,[]),false)=uG q:=by
 unfold uG;rw[if_neg]
 ·rfl
 rintro ⟨h1,h2⟩
 rcases h with h|h
 ·rw[h] at h1;cases h1
 ·omega
theorem aBW {q:cS} (h1:iC q=true) (h2:0<q.2.length):((q.1,q.2.drop 1),q.2.getD 0 bA2,true)=uG q:=by unfold uG;rw[if_pos ⟨h1,h2⟩]
theorem aN0 {x:dW} (h:kO x.2=false∨x.1<0∨4<x.1):vO x=false:=by
 refine Bool.eq_false_iff.2 fun hh=>?_
 rw[jW] at hh
 rcases h with h|h
 ·rw[h] at hh;cases hh.1
 ·omega
theorem bCN {x:dW} (h:kO x.2=true) (h2:0≤x.1) (h3:x.1<5):vO x=true:=(jW _).2 ⟨h,h2,h3⟩
theorem aIR {x:dW} (h:vO x=true):x.2.length≤6:=((dB _).1 ((jW _).1 h).1).2.1
theorem aL0 {q:cS} (h:iC q=true):(q.2.length:Int)≤q.1∧q.2.length≤5:=by have:=(nT.1 h).1;omega
theorem aEY {q:cS} (h:iC q=true) (h2:0<q.2.length):(q.2.getD 0 (aS aI)).2.length≤6:=aIR ((nT.1 h).2 0 h2)
def lV (l:List kR) (m:Int):Nat→Int
 | 0=>-1
 | k+1=>if lV l m k = -1∧(l.getD k (aS aM)).1=m then (k:Int) else lV l m k
def eG (l:List kR) (m:Int):Int:=lV l m l.length
theorem aIN (l:List kR) (m:Int):(k:Nat)→-1≤lV l m k∧lV l m k<k
 | 0=>by unfold lV;omega
 | k+1=>by
  have:=aIN l m k
  unfold lV;split <;> omega
theorem aGS {l : List kR} {m : Int} : {k n : Nat} → k ≤ n → lV l m k ≠ -1 → lV l m n = lV l m k
  | k, 0, h, _ => by have : k = 0 := by omega
                     subst this; rfl
  | k, n + 1, h, hk => by
    rcases Nat.lt_or_eq_of_le h with h | rfl
    · have e := aGS (Nat.le_of_lt_succ h) hk
      rw [lV, if_neg (fun hh => hk (e ▸ hh.1)), e]
    · rfl
theorem aX8 {l:List kR} {m:Int} {k:Nat} (hk:k<l.length) (h:lV l m k = -1) (hm:(l.getD k (aS aM)).1=m):(k:Int)=eG l m:=by
 have e:lV l m (k+1)=k:=by rw[lV,if_pos ⟨h,hm⟩]
 unfold eG
 rw[aGS (k:=k+1) hk (by omega),e]
theorem aXP {l:List kR} {m:Int} {k:Nat} (h:lV l m k = -1) (hm:¬ (l.getD k (aS aM)).1=m):lV l m (k+1) = -1:=by rw[lV,if_neg (fun hh=>hm hh.2),h]
def kB:Con:=⟨60,aF,aF,[.val ⟨false,aF,[]⟩],[⟨false,aF,[2]⟩],false,none,
 ((fun x=>bW aF x≤1000000000):(bS)→Prop),
 ((fun x=>x):(bS)→(bS))⟩
def sB:T :=
 .bJ3 (.bJ6 67 aQ) (.Z 0) <|
 .loop (.bJ2 tI aF) (.bJ4 tI aF (.ci .i64 0) (.nl 67 aQ)) <|
  .bJ3 (.cmp .lss .i64) (.bJ4 tI tI (.p1 tI aF (.Z 2)) (.Z 1)) <|
  .ite (.Z 3) (
   .bJ3 (.bJ7 67 aQ) (.bJ4 aF tI (.Z 0) (.p1 tI aF (.Z 2))) <|
   .call 0 (.p1 aB aB (.Z 4)) <|
   .call 0 (aR aQ 1 (.Z 4)) <|
   .bJ3 (.lit 67 aQ 1) (.bJ4 aB aB (.Z 5) (.Z 6)) <|
   .bJ3 (.bJ9 67 aQ 48) (.bJ4 aF aF (aR (.bJ2 tI aF) 1 (.Z 2)) (.Z 7)) <|
   .bJ3 (.ar .add .i64) (.bJ4 tI tI (.p1 tI aF (.Z 2)) (.ci .i64 1)) <|
   .bJ5 0 (.bJ4 tI aF (.Z 9) (.Z 8))) (
   .ret (aR (.bJ2 tI aF) 1 (.Z 2)))
theorem aJR:bV Tryz.prog [bM] kB false 3000 ⟨[(2991,1002,[.dr 6,.dr 0,.tm 9 0,.on 3,.sl 1])],[(2981,3005,[19,16],[])]⟩ = .ok sB:=by kernel_rfl
theorem aJ6 (x:bS) (hx:okD aF x) (hp:(fun x=>bW aF x≤1000000000) x):sB.wp [bM] [⟨aF,x⟩] [] (fun v=>v.as aF=(fun x=>x) x):=by
 have hB:=qL (t:=aF) hp
 delta sB bM;refine eE ?_;try with_reducible exact True.intro
 (repeat' first|intro _|(with_reducible apply And.intro))
 all_goals first|omega|(unfold maxLen;omega)|skip
 refine fC (fun k=>((k:Int),List.take k x)) (List.length x) rfl fun I μ k hk _ go=>?_
 dsimp only
 refine eL ?_
 by_cases hkn:k<List.length x
 ·have hm:=hB.2 _ (List.getElem_mem hkn)
  have hn:=hB.1
  rw[bD hkn]
  (repeat' first|intro _|(refine go _ ?_ ?_ ?_)|(refine go _ ?_ ?_)|(with_reducible apply And.intro))
  all_goals first|omega|exact hm.1.1|exact hm.2.1|(simp only[List.length_take];unfold maxLen;omega)|(simp only[List.length_take];omega)|(rw[iQ hkn];rfl)
 ·(repeat' first|intro _|(refine go _ ?_ ?_ ?_)|(refine go _ ?_ ?_)|(with_reducible apply And.intro))
  all_goals first|omega|(have e:k=List.length x:=(by omega);subst e;exact List.take_length)
theorem aJA:Con.Holds Tryz.prog kB:=aV aX (aG fM aT) aJR aJ6
def dN:Con:=⟨62,aN,aN,[.val ⟨true,aN,[]⟩],[⟨true,aN,[0,2]⟩],false,none,
 ((fun x=>bW aN x≤1000000000):(cS)→Prop),
 ((fun x=>x):(cS)→(cS))⟩
def sA:T :=
 .bJ3 (.bJ6 105 aI) (aR aN 1 (.Z 0)) <|
 .loop aN (.bJ4 tI (.slice 105 aI) (.ci .i64 0) (.nl 105 aI)) <|
  .bJ3 (.cmp .lss .i64) (.bJ4 tI tI (.p1 tI (.slice 105 aI) (.Z 2)) (.Z 1)) <|
  .ite (.Z 3) (
   .bJ3 (.bJ7 105 aI) (.bJ4 (.slice 105 aI) tI (aR aN 1 (.Z 0)) (.p1 tI (.slice 105 aI) (.Z 2))) <|
   .call 0 (aR aI 1 (.Z 4)) <|
   .bJ3 (.lit 105 aI 1) (.bJ4 tI aB (.p1 tI aB (.Z 4)) (.Z 5)) <|
   .bJ3 (.bJ9 105 aI 32) (.bJ4 (.slice 105 aI) (.slice 105 aI) (aR aN 1 (.Z 2)) (.Z 6)) <|
   .bJ3 (.ar .add .i64) (.bJ4 tI tI (.p1 tI (.slice 105 aI) (.Z 2)) (.ci .i64 1)) <|
   .bJ5 0 (.bJ4 tI (.slice 105 aI) (.Z 8) (.Z 7))) (
   .ret (.bJ4 tI (.slice 105 aI) (.p1 tI (.slice 105 aI) (.Z 0)) (aR aN 1 (.Z 2))))
theorem aJQ:bV Tryz.prog [bM] dN false 3000 ⟨[(2991,1002,mW 9 6++[.dr 1,.dr 0,.tm 12 0,.sl 6])],[(2981,3005,[22],[])]⟩ = .ok sA:=by kernel_rfl
theorem aJO (x:cS) (hx:okD aN x) (hp:(fun x=>bW aN x≤1000000000) x):sA.wp [bM] [⟨aN,x⟩] [] (fun v=>v.as aN=(fun x=>x) x):=by
 obtain ⟨c,l⟩:=x
 have hB:=(qL (t:=aN) hp).2
 have hn:List.length l≤1000000000:=hB.1
 delta sA bM;refine eE ?_;try with_reducible exact True.intro
 (repeat' first|intro _|(with_reducible apply And.intro))
 all_goals first|omega|(unfold maxLen;omega)|skip
 refine fC (fun k=>((k:Int),List.take k l)) (List.length l) rfl fun I μ k hk _ go=>?_
 dsimp only
 refine eL ?_
 by_cases hkn:k<List.length l
 ·have hm:=hB.2 _ (List.getElem_mem hkn)
  have hn:=hB.1
  rw[bD hkn]
  (repeat' first|intro _|(refine go _ ?_ ?_ ?_)|(refine go _ ?_ ?_)|(with_reducible apply And.intro))
  all_goals first|omega|exact hm.2.1|(simp only[List.length_take];unfold maxLen;omega)|(simp only[List.length_take];omega)|(rw[iQ hkn];rfl)
 ·(repeat' first|intro _|(refine go _ ?_ ?_ ?_)|(refine go _ ?_ ?_)|(with_reducible apply And.intro))
  all_goals first|omega|(have e:k=List.length l:=(by omega);subst e;exact congrArg (Prod.mk c) List.take_length)
theorem sE:Con.Holds Tryz.prog dN:=aV aX (aG fM aT) aJQ aJO
def wI:Con:=⟨57,(.bJ2 aN aI),(.bJ2 aN .bool),[.val ⟨true,aN,[]⟩,.val ⟨true,aI,[]⟩],[⟨true,aN,[0,2]⟩,⟨false,.bool,[0]⟩],false,none,
 ((fun x=>bW aN x.1≤1000000000):(cS × dW)→Prop),
 ((fun x=>qS x.1 x.2):(cS × dW)→(cS × Bool))⟩
def aGH:T:=.call 0 (.p1 aN aI (.Z 0)) <|.call 1 (.p1 aN aI (.Z 0)) <|
 .bJ3 .not (.Z 2) <|
 .ite (.Z 3) (
  .ret (.bJ4 aN .bool (.Z 1) (.cb false))) (
  .call 2 (aR (.bJ2 aN aI) 1 (.Z 0)) <|
  .bJ3 .not (.Z 4) <|
  .ite (.Z 5) (
   .ret (.bJ4 aN .bool (.Z 1) (.cb false))) (
   .bJ3 (.bJ6 105 aI) (aR aN 1 (.p1 aN aI (.Z 0))) <|
   .bJ3 (.cmp .eql .i64) (.bJ4 tI tI (.Z 6) (.p1 tI (.slice 105 aI) (.p1 aN aI (.Z 0)))) <|
   .ite (.Z 7) (
    .ret (.bJ4 aN .bool (.Z 1) (.cb false))) (
    .call 3 (aR (.bJ2 aN aI) 2 (.Z 0)) <|
    .bJ3 (.lit 105 aI 1) (.bJ4 tI aB (aJ (.bJ2 aN aI) 1 (.Z 0)) (.Z 8)) <|
    .bJ3 (.bJ9 105 aI 32) (.bJ4 (.slice 105 aI) (.slice 105 aI) (aR aN 1 (.Z 1)) (.Z 9)) <|
    .ret (.bJ4 aN .bool (.bJ4 tI (.slice 105 aI) (.p1 tI (.slice 105 aI) (.Z 1)) (.Z 10)) (.cb true)))))
theorem bAG:bV Tryz.prog [dN,eY,jP,bM] wI false 3000 ⟨[],[(2989,8008,[32],[])]⟩ = .ok aGH:=by kernel_rfl
theorem bBF (x:cS × dW) (hx:okD (.bJ2 aN aI) x) (hp:(fun x=>bW aN x.1≤1000000000) x):aGH.wp [dN,eY,jP,bM] [⟨(.bJ2 aN aI),x⟩] [] (fun v=>v.as (.bJ2 aN .bool)=(fun x=>qS x.1 x.2) x):=by
 obtain ⟨q,y⟩:=x
 have hB:=qL (t:=aN) hp
 delta aGH dN eY jP bM;refine eE ?_
 refine ⟨hp,fun _=>?_⟩
 (repeat' first|intro _|(with_reducible apply And.intro))
 all_goals simp only[zO] at *
 all_goals try have hqq:=aL0 (by assumption)
 all_goals try have hq8:=aEY (by assumption) (by omega)
 all_goals try have hq6:=aIR (by assumption)
 all_goals try have hq7:=(dB _).1 (by assumption)
 all_goals first|omega|(unfold maxLen;omega)|exact mU (.inl (by assumption))|exact mU (.inr (.inl (by assumption)))|exact mU (.inr (.inr (by omega)))|exact aML (.inl (by assumption))|exact aML (.inr (by omega))|exact aCA (by assumption) (by assumption) (by omega)|exact aBW (by assumption) (by omega)|(rw[List.take_length];exact aBW (by assumption) (by omega))|exact mU (.inr (.inl (aN0 (.inl (by assumption)))))|exact mU (.inr (.inl (aN0 (.inr (by omega)))))|exact aCA (by assumption) (bCN (by assumption) (by omega) (by omega)) (by omega)|skip
theorem bAY:Con.Holds Tryz.prog wI:=aV aX (aG sE (aG xH (aG aG0 (aG fM aT)))) bAG bBF
def dQ:Con:=⟨78,(.bJ2 (.slice 133 aM) tI),tI,[.val ⟨false,(.slice 133 aM),[]⟩,.val ⟨false,tI,[]⟩],[⟨false,tI,[0]⟩],false,none,
 ((fun _=>True):((List kR) × Int)→Prop),
 ((fun x=>eG x.1 x.2):((List kR) × Int)→(Int))⟩
def rV:T :=
 .bJ3 (.bJ6 133 aM) (.p1 (.slice 133 aM) tI (.Z 0)) <|
 .loop tI (.ci .i64 0) <|
  .bJ3 (.cmp .lss .i64) (.bJ4 tI tI (.Z 2) (.Z 1)) <|
  .ite (.Z 3) (
   .bJ3 (.bJ7 133 aM) (.bJ4 (.slice 133 aM) tI (.p1 (.slice 133 aM) tI (.Z 0)) (.Z 2)) <|
   .bJ3 (.cmp .eql .i64) (.bJ4 tI tI (.p1 tI aP (.Z 4)) (aR (.bJ2 (.slice 133 aM) tI) 1 (.Z 0))) <|
   .ite (.Z 5) (
    .ret (.Z 2)) (
    .bJ3 (.ar .add .i64) (.bJ4 tI tI (.Z 2) (.ci .i64 1)) <|
    .bJ5 0 (.Z 6))) (
   .ret (.ci .i64 (-1)))
theorem aJ8:bV Tryz.prog [] dQ false 3000 ⟨[(2993,1002,[.dr 0,.tm 9 0])],[]⟩ = .ok rV:=by kernel_rfl
theorem aJG (x:(List kR) × Int) (hx:okD (.bJ2 (.slice 133 aM) tI) x) (hp:(fun _=>True) x):rV.wp [] [⟨(.bJ2 (.slice 133 aM) tI),x⟩] [] (fun v=>v.as tI=(fun x=>eG x.1 x.2) x):=by
 obtain ⟨l,m⟩:=x
 have hm:l.length≤9223372036854775807:=hx.1.1
 delta rV;refine eE ?_;try with_reducible exact True.intro
 (repeat' first|intro _|(with_reducible apply And.intro))
 all_goals first|omega|(unfold maxLen;omega)|skip
 refine aKD (fun k=>(k:Int)) (fun k=>lV l m k = -1) (List.length l) rfl rfl fun I μ k hk hg _ go=>?_
 try dsimp only
 (refine eL ?_;try with_reducible exact True.intro)
 (repeat' first|intro _|(refine go _ ?_ ?_ ?_)|(refine go _ ?_ ?_)|(with_reducible apply And.intro))
 all_goals first|omega|exact aX8 (by omega) hg (by assumption)|exact aXP hg (by assumption)|rfl|(have e:k=List.length l:=(by omega);subst e;exact hg.symm)
theorem rO:Con.Holds Tryz.prog dQ:=aV aX aT aJ8 aJG
def aCN:Con:=⟨55,aN,(.bJ2 aN (.bJ2 aI .bool)),[.val ⟨true,aN,[]⟩],[⟨true,aN,[0,0]⟩,⟨true,aI,[0,0]⟩,⟨false,.bool,[0]⟩],false,none,
 ((fun x=>bW aN x≤1000000000):(cS)→Prop),
 ((fun x=>uG x):(cS)→(cS × (dW × Bool)))⟩
def aNG:T:=.call 0 (.Z 0) <|.call 1 (.Z 0) <|
 .bJ3 .not (.Z 2) <|
 .ite (.Z 3) (
  .ret (bJ (.bJ2 aN (.bJ2 aI .bool)) [(.Z 1),(.bJ4 tI aB (.ci .i64 0) (.nl 3 tI)),(.cb false)])) (
  .bJ3 (.bJ6 105 aI) (aR aN 1 (.Z 0)) <|
  .bJ3 (.cmp .eql .i64) (.bJ4 tI tI (.Z 4) (.ci .i64 0)) <|
  .ite (.Z 5) (
   .ret (bJ (.bJ2 aN (.bJ2 aI .bool)) [(.Z 1),(.bJ4 tI aB (.ci .i64 0) (.nl 3 tI)),(.cb false)])) (
   .bJ3 (.bJ7 105 aI) (.bJ4 (.slice 105 aI) tI (aR aN 1 (.Z 1)) (.ci .i64 0)) <|
   .bJ3 (.bJ7 105 aI) (.bJ4 (.slice 105 aI) tI (aR aN 1 (.Z 1)) (.ci .i64 0)) <|
   .bJ3 (.bJ6 105 aI) (aR aN 1 (.Z 1)) <|
   .bJ3 (.bJ8 105 aI) (bJ (.bJ2 (.slice 105 aI) aC) [(aR aN 1 (.Z 1)),(.ci .i64 1),(.Z 8)]) <|
   .ret (bJ (.bJ2 aN (.bJ2 aI .bool)) [(.bJ4 tI (.slice 105 aI) (.p1 tI (.slice 105 aI) (.Z 1)) (.Z 9)),(.Z 7),(.cb true)])))
theorem bF9:bV Tryz.prog [dN,eY] aCN false 3000 ⟨[],[(2987,4008,[],[6])]⟩ = .ok aNG:=by kernel_rfl
theorem bFW (x:cS) (hx:okD aN x) (hp:(fun x=>bW aN x≤1000000000) x):aNG.wp [dN,eY] [⟨aN,x⟩] [] (fun v=>v.as (.bJ2 aN (.bJ2 aI .bool))=(fun x=>uG x) x):=by
 have hB:=qL (t:=aN) hp
 delta aNG dN eY;refine eE ?_
 refine ⟨hp,fun _=>?_⟩
 (repeat' first|intro _|(with_reducible apply And.intro))
 all_goals simp only[zO] at *
 all_goals try have hqq:=aL0 (by assumption)
 all_goals try have hq8:=aEY (by assumption) (by omega)
 all_goals try have hq6:=aIR (by assumption)
 all_goals try have hq7:=(dB _).1 (by assumption)
 all_goals first|omega|(unfold maxLen;omega)|exact mU (.inl (by assumption))|exact mU (.inr (.inl (by assumption)))|exact mU (.inr (.inr (by omega)))|exact aML (.inl (by assumption))|exact aML (.inr (by omega))|exact aCA (by assumption) (by assumption) (by omega)|exact aBW (by assumption) (by omega)|(rw[List.take_length];exact aBW (by assumption) (by omega))|exact mU (.inr (.inl (aN0 (.inl (by assumption)))))|exact mU (.inr (.inl (aN0 (.inr (by omega)))))|exact aCA (by assumption) (bCN (by assumption) (by omega) (by omega)) (by omega)|skip
theorem bEO:Con.Holds Tryz.prog aCN:=aV aX (aG sE (aG xH aT)) bF9 bFW
end
end Go.Proofs.YtpleleanibgniaaGreat
