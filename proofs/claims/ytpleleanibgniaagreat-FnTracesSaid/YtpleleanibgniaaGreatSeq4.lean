/- Seq4: lemmas. No conditions. -/
import Derived.Test.YtpleleanibgniaaGreatMat3
namespace Go.Proofs.YtpleleanibgniaaGreat
noncomputable section
set_option maxRecDepth 100000
open Go.ChangeShapes Go.WideShapes Go.ChangeAt Go.RowKit Go.Deep
set_option linter.unusedVariables false
set_option linter.unusedSimpArgs false
def xU (y t:List Int):Int × Bool:=((lK (qG kN y t).1 (qG kN y t).1).1.fdiv 2,(qG kN y t).2 || (lK (qG kN y t).1 (qG kN y t).1).2)
def jZ (m:List dE) (x:List Int):Nat→dT × Bool
 | 0=>([x],false)
 | k+1=>((jZ m x k).1++[(zW (m.getD k zOp) ((jZ m x k).1.getD k [])).1],(jZ m x k).2 || (zW (m.getD k zOp) ((jZ m x k).1.getD k [])).2)
def uI (m:List dE) (x:List Int):dT × Bool:=if bT m=true∧gC x (jG m)=true then jZ m x m.length else ([],false)
def gO (m:List dE) (r:dT) (d:List Int) (n:Nat):Nat→dT × (List Int × Bool)
 | 0=>(List.replicate n [],d,false)
 | k+1=>((gO m r d n k).1.set (n - 1 - k) (lW (m.getD (n - 1 - k) zOp) (r.getD (n - 1 - k) []) (gO m r d n k).2.1).2.1,(lW (m.getD (n - 1 - k) zOp) (r.getD (n - 1 - k) []) (gO m r d n k).2.1).1,
  (gO m r d n k).2.2 || (lW (m.getD (n - 1 - k) zOp) (r.getD (n - 1 - k) []) (gO m r d n k).2.1).2.2)
def tL (m:List dE) (r:dT) (d:List Int):dT × (List Int × Bool):=gO m r d m.length m.length
def jR (m:List dE) (p:cI):Bool:=gC p.1 (jG m)&&gC p.2 (fI m)
def dY (m:List dE) (b:List cI):Bool:=bT m&&(decide (1≤b.length∧b.length≤5)&&b.all (jR m))
theorem wC (m:List dE) (x:List Int):(k:Nat)→(jZ m x k).1.length=k+1
 | 0=>rfl
 | k+1=>by rw[jZ,List.length_append,wC m x k];rfl
theorem aE3 (m:List dE) (r:dT) (d:List Int) (n:Nat):(k:Nat)→(gO m r d n k).1.length=n
 | 0=>List.length_replicate
 | k+1=>by rw[gO,List.length_set,aE3 m r d n k]
theorem aZU {m:List dE} {b:List cI} (h:bT m=false):false=dY m b:=by unfold dY;rw[h];rfl
theorem bBX {m:List dE} {b:List cI} (h:¬ (1≤b.length∧b.length≤5)):false=dY m b:=by unfold dY;rw[decide_eq_false h,Bool.false_and,Bool.and_false]
theorem bC5 {m:List dE} {b:List cI} (h:b.all (jR m)=false):false=dY m b:=by unfold dY;rw[h,Bool.and_false,Bool.and_false]
theorem bE8 {m:List dE} {b:List cI} (h1:bT m=true) (h2:1≤b.length∧b.length≤5) (h3:b.all (jR m)=true):true=dY m b:=by unfold dY;rw[h1,h3,decide_eq_true h2];rfl
theorem aH6 (m:List dE) (b:List cI):dY m b=true↔bT m=true∧(1≤b.length∧b.length≤5)∧b.all (jR m)=true:=by unfold dY;simp only[Bool.and_eq_true,decide_eq_true_eq]
theorem aMM {m:List dE} {p:cI} (h:kO p.1=false∨kO p.2=false∨¬ (p.1.length:Int)=jG m∨¬ (p.2.length:Int)=fI m):jR m p=false:=by
 unfold jR gC
 rcases h with h|h|h|h
 ·rw[h];simp
 ·rw[h];simp
 ·rw[decide_eq_false h];simp
 ·rw[decide_eq_false h];simp
theorem bGE {m:List dE} {p:cI} (h1:kO p.1=true) (h2:kO p.2=true) (h3:(p.1.length:Int)=jG m) (h4:(p.2.length:Int)=fI m):jR m p=true:=by
 unfold jR gC;rw[h1,h2,decide_eq_true h3,decide_eq_true h4];rfl
def oR:Con:=⟨83,aQ,(.bJ2 tI .bool),[.val ⟨false,aB,[]⟩,.val ⟨false,aB,[]⟩],[⟨false,tI,[0]⟩,⟨false,.bool,[0]⟩],false,none,
 ((fun _=>True):(cI)→Prop),
 ((fun x=>xU x.1 x.2):(cI)→(Int × Bool))⟩
def aBN:T:=.call 0 (.Z 0) <|.call 1 (.bJ4 aB aB (.p1 aB .bool (.Z 1)) (.p1 aB .bool (.Z 1))) <|
 .bJ3 (.shr .i64 .u64) (.bJ4 tI (.int .u64) (.p1 tI .bool (.Z 2)) (.ci .u64 1)) <|
 .ite (aR (.bJ2 aB .bool) 1 (.Z 1)) (
  .ret (.bJ4 tI .bool (.Z 3) (.cb true))) (
  .ret (.bJ4 tI .bool (.Z 3) (aR (.bJ2 tI .bool) 1 (.Z 2))))
theorem aSN:bV Tryz.prog [jN,fU] oR false 3000 ⟨[],[]⟩ = .ok aBN:=by kernel_rfl
theorem aSS (x:cI) (hx:okD aQ x) (hp:(fun _=>True) x):aBN.wp [jN,fU] [⟨aQ,x⟩] [] (fun v=>v.as (.bJ2 tI .bool)=(fun x=>xU x.1 x.2) x):=by
 delta aBN jN fU;refine eE ?_
 exact fun _ _=>⟨by omega,fun _=>⟨fun h=>Prod.ext rfl (qU h),fun h=>Prod.ext rfl (zY h)⟩⟩
theorem aU1:Con.Holds Tryz.prog oR:=aV aX (aG aGC (aG aAJ aT)) aSN aSS
def jM:Con:=⟨80,(.bJ2 aD aB),(.bJ2 aP .bool),[.val ⟨true,aD,[]⟩,.val ⟨false,aB,[]⟩],[⟨false,aP,[2]⟩,⟨false,.bool,[0]⟩],false,none,
 ((fun _=>True):(aW × bH)→Prop),
 ((fun x=>uI x.1 x.2):(aW × bH)→(dT × Bool))⟩
def aAL:T:=.call 0 (.p1 aD aB (.Z 0)) <|
 .bJ3 .not (.Z 1) <|
 .ite (.Z 2) (
  .ret (.bJ4 aP .bool (.nl 124 aB) (.cb false))) (
  .call 1 (.p1 aD aB (.Z 0)) <|
  .call 2 (.bJ4 aB tI (aR (.bJ2 aD aB) 1 (.Z 0)) (.Z 3)) <|
  .bJ3 .not (.Z 4) <|
  .ite (.Z 5) (
   .ret (.bJ4 aP .bool (.nl 124 aB) (.cb false))) (
   .call 3 (aR (.bJ2 aD aB) 1 (.Z 0)) <|
   .bJ3 (.lit 124 aB 1) (.Z 6) <|
   .bJ3 (.bJ6 93 bN) (.p1 aD aB (.Z 0)) <|
   .loop (.bJ2 tI (.bJ2 .bool aP)) (bJ (.bJ2 tI (.bJ2 .bool aP)) [(.ci .i64 0),(.cb false),(.Z 7)]) <|
    .bJ3 (.cmp .lss .i64) (.bJ4 tI tI (.p1 tI (.bJ2 .bool aP) (.Z 9)) (.Z 8)) <|
    .ite (.Z 10) (
     .bJ3 (.bJ7 93 bN) (.bJ4 aD tI (.p1 aD aB (.Z 0)) (.p1 tI (.bJ2 .bool aP) (.Z 9))) <|
     .bJ3 (.bJ7 124 aB) (.bJ4 aP tI (aR (.bJ2 tI (.bJ2 .bool aP)) 2 (.Z 9)) (.p1 tI (.bJ2 .bool aP) (.Z 9))) <|
     .bJ3 (.bJ7 124 aB) (.bJ4 aP tI (aR (.bJ2 tI (.bJ2 .bool aP)) 2 (.Z 9)) (.p1 tI (.bJ2 .bool aP) (.Z 9))) <|
     .call 4 (.bJ4 bN aB (.Z 11) (.Z 13)) <|
     .bJ3 (.lit 124 aB 1) (.p1 aB .bool (.Z 14)) <|
     .bJ3 (.bJ9 124 aB 24) (.bJ4 aP aP (aR (.bJ2 tI (.bJ2 .bool aP)) 2 (.Z 9)) (.Z 15)) <|
     .ite (aJ (.bJ2 tI (.bJ2 .bool aP)) 1 (.Z 9)) (
      .bJ3 (.ar .add .i64) (.bJ4 tI tI (.p1 tI (.bJ2 .bool aP) (.Z 9)) (.ci .i64 1)) <|
      .bJ5 0 (bJ (.bJ2 tI (.bJ2 .bool aP)) [(.Z 17),(.cb true),(.Z 16)])) (
      .bJ3 (.ar .add .i64) (.bJ4 tI tI (.p1 tI (.bJ2 .bool aP) (.Z 9)) (.ci .i64 1)) <|
      .bJ5 0 (bJ (.bJ2 tI (.bJ2 .bool aP)) [(.Z 17),(aR (.bJ2 aB .bool) 1 (.Z 14)),(.Z 16)]))) (
     .ret (.bJ4 aP .bool (aR (.bJ2 tI (.bJ2 .bool aP)) 2 (.Z 9)) (aJ (.bJ2 tI (.bJ2 .bool aP)) 1 (.Z 9))))))
theorem aU7:bV Tryz.prog [dL,jQ,bZ,bM,kH] jM false 3000 ⟨[(2984,4009,mW 26 12++[.dr 2,.dr 0,.dr 1,.tm 29 0,.tm 7 0,.sl 3])],[(2991,4006,[23],[]),(2971,12015,[],[6])]⟩ = .ok aAL:=by kernel_rfl
theorem aSP (x:aW × bH) (hx:okD (.bJ2 aD aB) x) (hp:(fun _=>True) x):aAL.wp [dL,jQ,bZ,bM,kH] [⟨(.bJ2 aD aB),x⟩] [] (fun v=>v.as (.bJ2 aP .bool)=(fun x=>uI x.1 x.2) x):=by
 obtain ⟨m,v⟩:=x
 delta aAL dL jQ bZ bM kH;refine eE ?_
 simp only[Bool.not_eq_true',Bool.not_eq_false']
 refine ⟨fun h=>?_,fun h1 _=>⟨fun h=>?_,fun h2=>?_⟩⟩
 ·unfold uI;rw[if_neg (by rw[h];simp)]
 ·unfold uI;rw[if_neg (by rw[h];simp)]
 ·have hv:=(dB v).1 ((tO _ _).1 h2).1
  have hm:=(bR m).1 h1
  rw[show uI m v=_ from if_pos ⟨h1,h2⟩]
  refine ⟨by omega,fun _ _ _=>?_⟩
  refine fC (fun k=>((k:Int),(jZ m v k).2,(jZ m v k).1)) m.length rfl fun I μ k hk _ go=>?_
  dsimp only
  simp only[zO,wC]
  (repeat' first|intro _|(refine go _ ?_ ?_ ?_)|(refine go _ ?_ ?_)|(with_reducible apply And.intro))
  all_goals first|omega|(unfold maxLen;omega)|exact Prod.ext rfl (Prod.ext (qU (by assumption)) rfl)|exact Prod.ext rfl (Prod.ext (zY (by assumption)) rfl)|(have e:k=m.length:=(by omega);subst e;rfl)
theorem aIV:Con.Holds Tryz.prog jM:=aV aX (aG rF (aG aIX (aG iM (aG fM (aG aK0 aT))))) aU7 aSP
def pE:Con:=⟨88,(.bJ2 aD (.bJ2 aP aB)),(.bJ2 aP (.bJ2 aB .bool)),[.val ⟨false,aD,[]⟩,.val ⟨false,aP,[]⟩,.val ⟨false,aB,[1]⟩],[⟨false,aP,[1]⟩,⟨false,aB,[1]⟩,⟨false,.bool,[0]⟩],false,none,
 ((fun x=>List.length x.1≤8∧List.length x.1≤List.length x.2.1):(aW × (dT × bH))→Prop),
 ((fun x=>tL x.1 x.2.1 x.2.2):(aW × (dT × bH))→(dT × (bH × Bool)))⟩
def aA7:T :=
 .bJ3 (.bJ6 93 bN) (.p1 aD (.bJ2 aP aB) (.Z 0)) <|
 .bJ3 (.rep 124 aB 24) (.Z 1) <|
 .bJ3 (.bJ6 93 bN) (.p1 aD (.bJ2 aP aB) (.Z 0)) <|
 .bJ3 (.ar .sub .i64) (.bJ4 tI tI (.Z 3) (.ci .i64 1)) <|
 .loop (.bJ2 tI (.bJ2 .bool (.bJ2 aB (.bJ2 aP aB)))) (bJ (.bJ2 tI (.bJ2 .bool (.bJ2 aB (.bJ2 aP aB)))) [(.Z 4),(.cb false),(aR (.bJ2 aD (.bJ2 aP aB)) 2 (.Z 0)),(.Z 2),(aR (.bJ2 aD (.bJ2 aP aB)) 2 (.Z 0))]) <|
  .bJ3 (.cmp .geq .i64) (.bJ4 tI tI (.p1 tI (.bJ2 .bool (.bJ2 aB (.bJ2 aP aB))) (.Z 5)) (.ci .i64 0)) <|
  .ite (.Z 6) (
   .bJ3 (.bJ7 93 bN) (.bJ4 aD tI (.p1 aD (.bJ2 aP aB) (.Z 0)) (.p1 tI (.bJ2 .bool (.bJ2 aB (.bJ2 aP aB))) (.Z 5))) <|
   .bJ3 (.bJ7 124 aB) (.bJ4 aP tI (aJ (.bJ2 aD (.bJ2 aP aB)) 1 (.Z 0)) (.p1 tI (.bJ2 .bool (.bJ2 aB (.bJ2 aP aB))) (.Z 5))) <|
   .call 0 (bJ (.bJ2 bN aQ) [(.Z 7),(.Z 8),(aR (.bJ2 tI (.bJ2 .bool (.bJ2 aB (.bJ2 aP aB)))) 4 (.Z 5))]) <|
   .bJ3 (.bJ7 124 aB) (.bJ4 aP tI (aJ (.bJ2 tI (.bJ2 .bool (.bJ2 aB (.bJ2 aP aB)))) 3 (.Z 5)) (.p1 tI (.bJ2 .bool (.bJ2 aB (.bJ2 aP aB))) (.Z 5))) <|
   .bJ3 (.bJA 124 aB) (bJ (.bJ2 aP aI) [(aJ (.bJ2 tI (.bJ2 .bool (.bJ2 aB (.bJ2 aP aB)))) 3 (.Z 5)),(.p1 tI (.bJ2 .bool (.bJ2 aB (.bJ2 aP aB))) (.Z 5)),(aJ (.bJ2 aB (.bJ2 aB .bool)) 1 (.Z 9))]) <|
   .ite (aJ (.bJ2 tI (.bJ2 .bool (.bJ2 aB (.bJ2 aP aB)))) 1 (.Z 5)) (
    .bJ3 (.ar .sub .i64) (.bJ4 tI tI (.p1 tI (.bJ2 .bool (.bJ2 aB (.bJ2 aP aB))) (.Z 5)) (.ci .i64 1)) <|
    .bJ5 0 (bJ (.bJ2 tI (.bJ2 .bool (.bJ2 aB (.bJ2 aP aB)))) [(.Z 12),(.cb true),(.p1 aB (.bJ2 aB .bool) (.Z 9)),(.Z 11),(.p1 aB (.bJ2 aB .bool) (.Z 9))])) (
    .bJ3 (.ar .sub .i64) (.bJ4 tI tI (.p1 tI (.bJ2 .bool (.bJ2 aB (.bJ2 aP aB))) (.Z 5)) (.ci .i64 1)) <|
    .bJ5 0 (bJ (.bJ2 tI (.bJ2 .bool (.bJ2 aB (.bJ2 aP aB)))) [(.Z 12),(aR (.bJ2 aB (.bJ2 aB .bool)) 2 (.Z 9)),(.p1 aB (.bJ2 aB .bool) (.Z 9)),(.Z 11),(.p1 aB (.bJ2 aB .bool) (.Z 9))]))) (
   .ret (bJ (.bJ2 aP (.bJ2 aB .bool)) [(aJ (.bJ2 tI (.bJ2 .bool (.bJ2 aB (.bJ2 aP aB)))) 3 (.Z 5)),(aR (.bJ2 tI (.bJ2 .bool (.bJ2 aB (.bJ2 aP aB)))) 4 (.Z 5)),(aJ (.bJ2 tI (.bJ2 .bool (.bJ2 aB (.bJ2 aP aB)))) 1 (.Z 5))]))
theorem aUC:bV Tryz.prog [jI] pE false 3000 ⟨[(2989,1005,mW 20 15++[.tm 11 0,.tm 10 0,.tm 2 0,.sl 2,.sl 1])],[(2978,3010,[],[4])]⟩ = .ok aA7:=by kernel_rfl
theorem aUQ (x:aW × (dT × bH)) (hx:okD (.bJ2 aD (.bJ2 aP aB)) x) (hp:(fun x=>List.length x.1≤8∧List.length x.1≤List.length x.2.1) x):aA7.wp [jI] [⟨(.bJ2 aD (.bJ2 aP aB)),x⟩] [] (fun v=>v.as (.bJ2 aP (.bJ2 aB .bool))=(fun x=>tL x.1 x.2.1 x.2.2) x):=by
 obtain ⟨m,r,d⟩:=x
 obtain ⟨hm,hr⟩:m.length≤8∧m.length≤r.length:=hp
 delta aA7 jI;refine eE ?_
 refine eL ?_
 obtain ⟨n,hn⟩:∃ n,n=m.length:=⟨_,rfl⟩
 rw[show tL m r d=gO m r d n n by rw[hn];rfl,← hn]
 refine fun _=>⟨⟨by omega,by omega,by omega⟩,fun _ _=>⟨by omega,fun _=>?_⟩⟩
 refine fC (fun k=>((n:Int) - 1 - (k:Int),(gO m r d n k).2.2,(gO m r d n k).2.1,(gO m r d n k).1,(gO m r d n k).2.1)) n (by show (_,_)=(_,_);simp only[gO,Int.natCast_zero,Int.sub_zero];rfl) fun I μ k hk _ go=>?_
 dsimp only
 have hgl:=aE3 m r d n k
 by_cases hkn:k<n
 ·obtain ⟨j,hj⟩:∃ j,j=n - 1 - k:=⟨_,rfl⟩
  have e:(n:Int) - 1 - (k:Int)=(j:Int):=by omega
  rw[e] at go
  simp only[e,zO]
  have e2:∀ (F:Bool) (hF:F=((gO m r d n k).2.2 || (lW (m.getD j zOp) (r.getD j []) (gO m r d n k).2.1).2.2)),((j:Int) - 1,F,(lW (m.getD j zOp) (r.getD j []) (gO m r d n k).2.1).1,(gO m r d n k).1.set j (lW (m.getD j zOp) (r.getD j []) (gO m r d n k).2.1).2.1,(lW (m.getD j zOp) (r.getD j []) (gO m r d n k).2.1).1)=((n:Int) - 1 - ((k+1:Nat):Int),(gO m r d n (k+1)).2.2,(gO m r d n (k+1)).2.1,(gO m r d n (k+1)).1,(gO m r d n (k+1)).2.1):=fun F hF=>by
   rw[hF,gO,← hj]
   exact Prod.ext (by show (j:Int) - 1=(n:Int) - 1 - ((k+1:Nat):Int);omega) rfl
  (repeat' first|intro _|(refine go _ ?_ ?_ ?_)|(refine go _ ?_ ?_)|(with_reducible apply And.intro))
  all_goals first|omega|exact e2 _ (qU (by assumption))|exact e2 _ (zY (by assumption))
 ·have e:k=n:=by omega
  subst e
  simp only[show (k:Int) - 1 - (k:Int) = -1 by omega,zO]
  (repeat' first|intro _|(refine go _ ?_ ?_ ?_)|(refine go _ ?_ ?_)|(with_reducible apply And.intro))
  all_goals first|omega|trivial|rfl
theorem aTD:Con.Holds Tryz.prog pE:=aV aX (aG aJ5 aT) aUC aUQ
def nI:Con:=⟨44,aD,tI,[.val ⟨true,aD,[]⟩],[⟨false,tI,[0]⟩],false,none,
 ((fun _=>True):(aW)→Prop),
 ((fun x=>jG x):(aW)→(Int))⟩
def aG5:T:=.call 0 (.Z 0) <|
 .bJ3 .not (.Z 1) <|
 .ite (.Z 2) (
  .ret (.ci .i64 0)) (
  .bJ3 (.bJ7 93 bN) (.bJ4 aD tI (.Z 0) (.ci .i64 0)) <|
  .ret (aJ bN 1 (.Z 3)))
theorem bBG:bV Tryz.prog [cE] nI false 3000 ⟨[],[]⟩ = .ok aG5:=by kernel_rfl
theorem bCA (x:aW) (hx:okD aD x) (hp:(fun _=>True) x):aG5.wp [cE] [⟨aD,x⟩] [] (fun v=>v.as tI=(fun x=>jG x) x):=by
 delta aG5 cE;refine eE ?_
 simp only[Bool.not_eq_true',Bool.not_eq_false']
 refine ⟨fun h=>?_,fun h=>?_⟩
 ·unfold jG;rw[h];rfl
 ·have:=(bR x).1 h
  refine ⟨by omega,fun _=>?_⟩
  unfold jG;rw[if_pos h];rfl
theorem aRN:Con.Holds Tryz.prog nI:=aV aX (aG jH aT) bBG bCA
def lA:Con:=⟨45,aD,tI,[.val ⟨true,aD,[]⟩],[⟨false,tI,[0]⟩],false,none,
 ((fun _=>True):(aW)→Prop),
 ((fun x=>fI x):(aW)→(Int))⟩
def aD5:T:=.call 0 (.Z 0) <|
 .bJ3 .not (.Z 1) <|
 .ite (.Z 2) (
  .ret (.ci .i64 0)) (
  .bJ3 (.bJ6 93 bN) (.Z 0) <|
  .bJ3 (.ar .sub .i64) (.bJ4 tI tI (.Z 3) (.ci .i64 1)) <|
  .bJ3 (.bJ7 93 bN) (.bJ4 aD tI (.Z 0) (.Z 4)) <|
  .ret (aJ bN 2 (.Z 5)))
theorem aXD:bV Tryz.prog [cE] lA false 3000 ⟨[],[]⟩ = .ok aD5:=by kernel_rfl
theorem aZA (x:aW) (hx:okD aD x) (hp:(fun _=>True) x):aD5.wp [cE] [⟨aD,x⟩] [] (fun v=>v.as tI=(fun x=>fI x) x):=by
 delta aD5 cE;refine eE ?_
 simp only[Bool.not_eq_true',Bool.not_eq_false']
 refine ⟨fun h=>?_,fun h=>?_⟩
 ·unfold fI;rw[h];rfl
 ·have:=(bR x).1 h
  refine fun _=>⟨by omega,fun _=>⟨by omega,fun _=>?_⟩⟩
  unfold fI;rw[if_pos h,vE];rfl
theorem aLK:Con.Holds Tryz.prog lA:=aV aX (aG jH aT) aXD aZA
def mZ:Con:=⟨20,(.bJ2 aD aF),.bool,[.val ⟨true,aD,[]⟩,.val ⟨false,aF,[]⟩],[⟨false,.bool,[0]⟩],false,none,
 ((fun _=>True):(aW × bS)→Prop),
 ((fun x=>dY x.1 x.2):(aW × bS)→(Bool))⟩
def xF:T:=.call 0 (.p1 aD aF (.Z 0)) <|
 .bJ3 .not (.Z 1) <|
 .ite (.Z 2) (
  .ret (.cb false)) (
  .bJ3 (.bJ6 67 aQ) (aR (.bJ2 aD aF) 1 (.Z 0)) <|
  .call 1 (bJ (.bJ2 tI aC) [(.Z 3),(.ci .i64 1),(.ci .i64 5)]) <|
  .bJ3 .not (.Z 4) <|
  .ite (.Z 5) (
   .ret (.cb false)) (
   .loop tI (.ci .i64 0) <|
    .bJ3 (.bJ6 67 aQ) (aR (.bJ2 aD aF) 1 (.Z 0)) <|
    .bJ3 (.cmp .lss .i64) (.bJ4 tI tI (.Z 6) (.Z 7)) <|
    .ite (.Z 8) (
     .bJ3 (.bJ7 67 aQ) (.bJ4 aF tI (aR (.bJ2 aD aF) 1 (.Z 0)) (.Z 6)) <|
     .call 2 (.p1 aB aB (.Z 9)) <|
     .bJ3 .not (.Z 10) <|
     .ite (.Z 11) (
      .ret (.cb false)) (
      .bJ3 (.bJ7 67 aQ) (.bJ4 aF tI (aR (.bJ2 aD aF) 1 (.Z 0)) (.Z 6)) <|
      .call 2 (aR aQ 1 (.Z 12)) <|
      .bJ3 .not (.Z 13) <|
      .ite (.Z 14) (
       .ret (.cb false)) (
       .bJ3 (.bJ7 67 aQ) (.bJ4 aF tI (aR (.bJ2 aD aF) 1 (.Z 0)) (.Z 6)) <|
       .bJ3 (.bJ6 3 tI) (.p1 aB aB (.Z 15)) <|
       .call 3 (.p1 aD aF (.Z 0)) <|
       .bJ3 (.cmp .neq .i64) (.bJ4 tI tI (.Z 16) (.Z 17)) <|
       .ite (.Z 18) (
        .ret (.cb false)) (
        .bJ3 (.bJ7 67 aQ) (.bJ4 aF tI (aR (.bJ2 aD aF) 1 (.Z 0)) (.Z 6)) <|
        .bJ3 (.bJ6 3 tI) (aR aQ 1 (.Z 19)) <|
        .call 4 (.p1 aD aF (.Z 0)) <|
        .bJ3 (.cmp .neq .i64) (.bJ4 tI tI (.Z 20) (.Z 21)) <|
        .ite (.Z 22) (
         .ret (.cb false)) (
         .bJ3 (.ar .add .i64) (.bJ4 tI tI (.Z 6) (.ci .i64 1)) <|
         .bJ5 0 (.Z 23)))))) (
     .ret (.cb true))))
theorem aOM:bV Tryz.prog [cE,bY,sW,nI,lA] mZ false 3000 ⟨[(2988,4006,mW 14 6++[.dr 0,.tm 5 0])],[]⟩ = .ok xF:=by kernel_rfl
theorem aRV (x:aW × bS) (hx:okD (.bJ2 aD aF) x) (hp:(fun _=>True) x):xF.wp [cE,bY,sW,nI,lA] [⟨(.bJ2 aD aF),x⟩] [] (fun v=>v.as .bool=(fun x=>dY x.1 x.2) x):=by
 obtain ⟨m,b⟩:=x
 have hm:b.length≤9223372036854775807:=hx.2.1
 delta xF cE bY sW nI lA;refine eE ?_
 simp only[zO,bH7,bGY]
 refine ⟨fun h=>aZU h,fun h1 _=>⟨fun h=>bBX (by omega),fun h2=>?_⟩⟩
 refine aKD (fun k=>(k:Int)) (fun k=>(List.take k b).all (jR m)=true) b.length rfl rfl fun I μ k hk hG _ go=>?_
 try dsimp only
 refine eL ?_
 intro _
 constructor
 ·intro hlt
  have hk':k<b.length:=by omega
  have e:=tE (jR m) b hk'
  rw[hG,Bool.true_and] at e
  have bad:jR m b[k]=false→false=dY m b:=fun h=>bC5 (zI hk' h)
  simp only[bD hk']
  (repeat' first|intro _|(refine go _ ?_ ?_ ?_)|(refine go _ ?_ ?_)|(with_reducible apply And.intro))
  all_goals first|omega|exact bad (aMM (.inl (by assumption)))|exact bad (aMM (.inr (.inl (by assumption))))|exact bad (aMM (.inr (.inr (.inl (by assumption)))))|exact bad (aMM (.inr (.inr (.inr (by assumption)))))|exact e.trans (bGE (by assumption) (by assumption) (by assumption) (by assumption))|rfl
 ·intro hge
  rw[List.take_of_length_le (by omega)] at hG
  exact bE8 h1 ⟨by omega,by omega⟩ hG
theorem aRA:Con.Holds Tryz.prog mZ:=aV aX (aG jH (aG iJ (aG aYY (aG aRN (aG aLK aT))))) aOM aRV
end
end Go.Proofs.YtpleleanibgniaaGreat
