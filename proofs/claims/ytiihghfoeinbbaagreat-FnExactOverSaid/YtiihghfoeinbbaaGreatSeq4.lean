/- Seq4: lemmas. No conditions. -/
import Derived.Test.YtiihghfoeinbbaaGreatMat3
namespace Go.Proofs.YtiihghfoeinbbaaGreat
noncomputable section
set_option maxRecDepth 100000
open Go.ChangeShapes Go.WideShapes Go.ChangeAt Go.RowKit Go.Deep
set_option linter.unusedVariables false
set_option linter.unusedSimpArgs false
def vT (y t:List Int):Int × Bool:=((fM (kM eP y t).1 (kM eP y t).1).1.fdiv 2,(kM eP y t).2 || (fM (kM eP y t).1 (kM eP y t).1).2)
def kE (m:List eK) (x:List Int):Nat→cV × Bool
 | 0=>([x],false)
 | k+1=>((kE m x k).1++[(oV (m.getD k zOp) ((kE m x k).1.getD k [])).1],(kE m x k).2 || (oV (m.getD k zOp) ((kE m x k).1.getD k [])).2)
def yU (m:List eK) (x:List Int):cV × Bool:=if cQ m=true∧eQ x (lH m)=true then kE m x m.length else ([],false)
def eG (m:List eK) (r:cV) (d:List Int) (n:Nat):Nat→cV × (List Int × Bool)
 | 0=>(List.replicate n [],d,false)
 | k+1=>((eG m r d n k).1.set (n - 1 - k) (iN (m.getD (n - 1 - k) zOp) (r.getD (n - 1 - k) []) (eG m r d n k).2.1).2.1,(iN (m.getD (n - 1 - k) zOp) (r.getD (n - 1 - k) []) (eG m r d n k).2.1).1,
  (eG m r d n k).2.2 || (iN (m.getD (n - 1 - k) zOp) (r.getD (n - 1 - k) []) (eG m r d n k).2.1).2.2)
def qP (m:List eK) (r:cV) (d:List Int):cV × (List Int × Bool):=eG m r d m.length m.length
def jD (m:List eK) (p:bW):Bool:=eQ p.1 (lH m)&&eQ p.2 (gY m)
def iG (m:List eK) (b:List bW):Bool:=cQ m&&(decide (1≤b.length∧b.length≤5)&&b.all (jD m))
theorem aZY {x:Int} (h:0≤x):0≤(aLE x).1:=by show 0≤eI x;unfold eI;omega
theorem aO7 {x:Int} (h:0≤x):0≤eI x:=by unfold eI;omega
theorem bCW (x:Int):0≤(fA x x).1:=by
 refine aZY ?_
 rw[Int.fdiv_eq_ediv_of_nonneg _ (by decide)]
 have h:0≤eI x * eI x:=by
  rcases Int.le_total 0 (eI x) with h|h
  ·exact Int.mul_nonneg h h
  ·exact Int.mul_nonneg_of_nonpos_of_nonpos h h
 omega
theorem bB0 (a:List Int):(k:Nat)→0≤(aGZ a a k).1
 | 0=>Int.le_refl _
 | k+1=>aZY (Int.add_nonneg (aO7 (bB0 a k)) (aO7 (bCW _)))
theorem bDP (a:List Int):0≤(fM a a).1:=by
 unfold fM;split
 ·exact bB0 a _
 ·exact Int.le_refl _
theorem bIS {x:Int} (h:0≤x):x.tdiv 2=x.fdiv 2:=by rw[Int.fdiv_eq_ediv_of_nonneg _ (by decide),Int.tdiv_eq_ediv_of_nonneg h]
theorem rP (m:List eK) (x:List Int):(k:Nat)→(kE m x k).1.length=k+1
 | 0=>rfl
 | k+1=>by rw[kE,List.length_append,rP m x k];rfl
theorem aC5 (m:List eK) (r:cV) (d:List Int) (n:Nat):(k:Nat)→(eG m r d n k).1.length=n
 | 0=>List.length_replicate
 | k+1=>by rw[eG,List.length_set,aC5 m r d n k]
theorem aRQ {m:List eK} {b:List bW} (h:cQ m=false):false=iG m b:=by unfold iG;rw[h];rfl
theorem aJF {m:List eK} {b:List bW} (h:¬ (1≤b.length∧b.length≤5)):false=iG m b:=by unfold iG;rw[decide_eq_false h,Bool.false_and,Bool.and_false]
theorem aSO {m:List eK} {b:List bW} (h:b.all (jD m)=false):false=iG m b:=by unfold iG;rw[h,Bool.and_false,Bool.and_false]
theorem bAC {m:List eK} {b:List bW} (h1:cQ m=true) (h2:1≤b.length∧b.length≤5) (h3:b.all (jD m)=true):true=iG m b:=by unfold iG;rw[h1,h3,decide_eq_true h2];rfl
theorem aP2 {m:List eK} {p:bW} (h:iK p.1=false∨iK p.2=false∨¬ (p.1.length:Int)=lH m∨¬ (p.2.length:Int)=gY m):jD m p=false:=by
 unfold jD eQ
 rcases h with h|h|h|h
 ·rw[h];simp
 ·rw[h];simp
 ·rw[decide_eq_false h];simp
 ·rw[decide_eq_false h];simp
theorem bKU {m:List eK} {p:bW} (h1:iK p.1=true) (h2:iK p.2=true) (h3:(p.1.length:Int)=lH m) (h4:(p.2.length:Int)=gY m):jD m p=true:=by
 unfold jD eQ;rw[h1,h2,decide_eq_true h3,decide_eq_true h4];rfl
def tK:Con:=⟨214,aI,(.bMC tI .bool),[.val ⟨false,aB,[]⟩,.val ⟨false,aB,[]⟩],[⟨false,tI,[0]⟩,⟨false,.bool,[0]⟩],false,none,
 ((fun _=>True):(bW)→Prop),
 ((fun x=>vT x.1 x.2):(bW)→(Int × Bool))⟩
def aDP:T:=.call 0 (.Z 0) <|.call 1 (.bME aB aB (.p1 aB .bool (.Z 1)) (.p1 aB .bool (.Z 1))) <|
 .bMD (.shr .i64 .u64) (.bME tI (.int .u64) (.p1 tI .bool (.Z 2)) (.ci .u64 1)) <|
 .ite (aQ (.bMC aB .bool) 1 (.Z 1)) (
  .ret (.bME tI .bool (.Z 3) (.cb true))) (
  .ret (.bME tI .bool (.Z 3) (aQ (.bMC tI .bool) 1 (.Z 2))))
theorem aYT:bL Tryz.prog [lB,iJ] tK false 3000 ⟨[],[]⟩ = .ok aDP:=by kernel_rfl
theorem aVP (x:bW) (hx:okD aI x) (hp:(fun _=>True) x):aDP.wp [lB,iJ] [⟨aI,x⟩] [] (fun v=>v.as (.bMC tI .bool)=(fun x=>vT x.1 x.2) x):=by
 delta aDP lB iJ;refine dD ?_
 exact fun _ _=>⟨by omega,fun _=>⟨fun h=>Prod.ext rfl (iO h),fun h=>Prod.ext rfl (lT h)⟩⟩
theorem aXT:Con.Holds Tryz.prog tK:=aR aW (aG aJ8 (aG aDN aS)) aYT aVP
def tG:Con:=⟨201,aI,(.bMC tI .bool),[.val ⟨false,aB,[]⟩,.val ⟨false,aB,[]⟩],[⟨false,tI,[0]⟩,⟨false,.bool,[0]⟩],false,none,
 ((fun _=>True):(bW)→Prop),
 ((fun x=>vT x.1 x.2):(bW)→(Int × Bool))⟩
def aEE:T:=.call 0 (.Z 0) <|.call 1 (.bME aB aB (.p1 aB .bool (.Z 1)) (.p1 aB .bool (.Z 1))) <|
 .bMD (.quo .i64) (.bME tI tI (.p1 tI .bool (.Z 2)) (.ci .i64 2)) <|
 .ite (aQ (.bMC aB .bool) 1 (.Z 1)) (
  .ret (.bME tI .bool (.Z 3) (.cb true))) (
  .ret (.bME tI .bool (.Z 3) (aQ (.bMC tI .bool) 1 (.Z 2))))
theorem aYL:bL Tryz.prog [kR,eV] tG false 3000 ⟨[],[]⟩ = .ok aEE:=by kernel_rfl
theorem aW2 (x:bW) (hx:okD aI x) (hp:(fun _=>True) x):aEE.wp [kR,eV] [⟨aI,x⟩] [] (fun v=>v.as (.bMC tI .bool)=(fun x=>vT x.1 x.2) x):=by
 delta aEE kR eV;refine dD ?_
 intro _ ho
 have h0:=bDP (kM eP x.1 x.2).1
 have h1:(fM (kM eP x.1 x.2).1 (kM eP x.1 x.2).1).1≤9223372036854775807:=ho.1.2
 rw[bIS h0]
 have h2:(fM (kM eP x.1 x.2).1 (kM eP x.1 x.2).1).1.fdiv 2=(fM (kM eP x.1 x.2).1 (kM eP x.1 x.2).1).1 / 2:=Int.fdiv_eq_ediv_of_nonneg _ (by decide)
 exact ⟨⟨by omega,by omega,by omega⟩,fun _=>⟨fun h=>Prod.ext rfl (iO h),fun h=>Prod.ext rfl (lT h)⟩⟩
theorem aZK:Con.Holds Tryz.prog tG:=aR aW (aG aJK (aG xY aS)) aYL aW2
def lJ:Con:=⟨213,(.bMC aE aB),(.bMC aH .bool),[.val ⟨true,aE,[]⟩,.val ⟨false,aB,[]⟩],[⟨false,aH,[2]⟩,⟨false,.bool,[0]⟩],false,none,
 ((fun _=>True):(bM × cD)→Prop),
 ((fun x=>yU x.1 x.2):(bM × cD)→(cV × Bool))⟩
def aE3:T:=.call 0 (.p1 aE aB (.Z 0)) <|
 .bMD .not (.Z 1) <|
 .ite (.Z 2) (
  .ret (.bME aH .bool (.nl 156 aB) (.cb false))) (
  .call 1 (.p1 aE aB (.Z 0)) <|
  .call 2 (.bME aB tI (aQ (.bMC aE aB) 1 (.Z 0)) (.Z 3)) <|
  .bMD .not (.Z 4) <|
  .ite (.Z 5) (
   .ret (.bME aH .bool (.nl 156 aB) (.cb false))) (
   .call 3 (aQ (.bMC aE aB) 1 (.Z 0)) <|
   .bMD (.lit 156 aB 1) (.Z 6) <|
   .bMD (.bMG 146 bA) (.p1 aE aB (.Z 0)) <|
   .loop (.bMC tI (.bMC .bool aH)) (bE (.bMC tI (.bMC .bool aH)) [(.ci .i64 0),(.cb false),(.Z 7)]) <|
    .bMD (.cmp .lss .i64) (.bME tI tI (.p1 tI (.bMC .bool aH) (.Z 9)) (.Z 8)) <|
    .ite (.Z 10) (
     .bMD (.bMH 146 bA) (.bME aE tI (.p1 aE aB (.Z 0)) (.p1 tI (.bMC .bool aH) (.Z 9))) <|
     .bMD (.bMH 156 aB) (.bME aH tI (aQ (.bMC tI (.bMC .bool aH)) 2 (.Z 9)) (.p1 tI (.bMC .bool aH) (.Z 9))) <|
     .bMD (.bMH 156 aB) (.bME aH tI (aQ (.bMC tI (.bMC .bool aH)) 2 (.Z 9)) (.p1 tI (.bMC .bool aH) (.Z 9))) <|
     .call 4 (.bME bA aB (.Z 11) (.Z 13)) <|
     .bMD (.lit 156 aB 1) (.p1 aB .bool (.Z 14)) <|
     .bMD (.bMJ 156 aB 24) (.bME aH aH (aQ (.bMC tI (.bMC .bool aH)) 2 (.Z 9)) (.Z 15)) <|
     .ite (aJ (.bMC tI (.bMC .bool aH)) 1 (.Z 9)) (
      .bMD (.ar .add .i64) (.bME tI tI (.p1 tI (.bMC .bool aH) (.Z 9)) (.ci .i64 1)) <|
      .bMF 0 (bE (.bMC tI (.bMC .bool aH)) [(.Z 17),(.cb true),(.Z 16)])) (
      .bMD (.ar .add .i64) (.bME tI tI (.p1 tI (.bMC .bool aH) (.Z 9)) (.ci .i64 1)) <|
      .bMF 0 (bE (.bMC tI (.bMC .bool aH)) [(.Z 17),(aQ (.bMC aB .bool) 1 (.Z 14)),(.Z 16)]))) (
     .ret (.bME aH .bool (aQ (.bMC tI (.bMC .bool aH)) 2 (.Z 9)) (aJ (.bMC tI (.bMC .bool aH)) 1 (.Z 9))))))
theorem aWO:bL Tryz.prog [bQ,iY,cA,bP,mM] lJ false 3000 ⟨[(2984,4009,iQ 26 12++[.dr 2,.dr 0,.dr 1,.tm 29 0,.tm 7 0,.sl 3])],[(2991,4006,[23],[]),(2971,12015,[],[6])]⟩ = .ok aE3:=by kernel_rfl
theorem aZP (x:bM × cD) (hx:okD (.bMC aE aB) x) (hp:(fun _=>True) x):aE3.wp [bQ,iY,cA,bP,mM] [⟨(.bMC aE aB),x⟩] [] (fun v=>v.as (.bMC aH .bool)=(fun x=>yU x.1 x.2) x):=by
 obtain ⟨m,v⟩:=x
 delta aE3 bQ iY cA bP mM;refine dD ?_
 simp only[Bool.not_eq_true',Bool.not_eq_false']
 refine ⟨fun h=>?_,fun h1 _=>⟨fun h=>?_,fun h2=>?_⟩⟩
 ·unfold yU;rw[if_neg (by rw[h];simp)]
 ·unfold yU;rw[if_neg (by rw[h];simp)]
 ·have hv:=(cP v).1 ((cF _ _).1 h2).1
  have hm:=(bY m).1 h1
  rw[show yU m v=_ from if_pos ⟨h1,h2⟩]
  refine ⟨by omega,fun _ _ _=>?_⟩
  refine cS (fun k=>((k:Int),(kE m v k).2,(kE m v k).1)) m.length rfl fun I μ k hk _ go=>?_
  dsimp only
  simp only[lU,rP]
  (repeat' first|intro _|(refine go _ ?_ ?_ ?_)|(refine go _ ?_ ?_)|(with_reducible apply And.intro))
  all_goals first|omega|(unfold maxLen;omega)|exact Prod.ext rfl (Prod.ext (iO (by assumption)) rfl)|exact Prod.ext rfl (Prod.ext (lT (by assumption)) rfl)|(have e:k=m.length:=(by omega);subst e;rfl)
theorem aKY:Con.Holds Tryz.prog lJ:=aR aW (aG gW (aG aFD (aG jI (aG gP (aG aMO aS))))) aWO aZP
def iS:Con:=⟨200,(.bMC aE aB),(.bMC aH .bool),[.val ⟨false,aE,[]⟩,.val ⟨false,aB,[]⟩],[⟨false,aH,[2]⟩,⟨false,.bool,[0]⟩],false,none,
 ((fun x=>iK x.2=true∧List.length x.1≤8):(bM × cD)→Prop),
 ((fun x=>kE x.1 x.2 (x.1:List eK).length):(bM × cD)→(cV × Bool))⟩
def xU:T :=
 .bMD (.bMJ 3 tI 8) (.bME aB aB (.nl 3 tI) (aQ (.bMC aE aB) 1 (.Z 0))) <|
 .bMD (.lit 156 aB 1) (.Z 1) <|
 .loop (.bMC tI (.bMC .bool aH)) (bE (.bMC tI (.bMC .bool aH)) [(.ci .i64 0),(.cb false),(.Z 2)]) <|
  .bMD (.bMG 146 bA) (.p1 aE aB (.Z 0)) <|
  .bMD (.cmp .lss .i64) (.bME tI tI (.p1 tI (.bMC .bool aH) (.Z 3)) (.Z 4)) <|
  .ite (.Z 5) (
   .bMD (.bMH 146 bA) (.bME aE tI (.p1 aE aB (.Z 0)) (.p1 tI (.bMC .bool aH) (.Z 3))) <|
   .bMD (.bMH 156 aB) (.bME aH tI (aQ (.bMC tI (.bMC .bool aH)) 2 (.Z 3)) (.p1 tI (.bMC .bool aH) (.Z 3))) <|
   .bMD (.bMH 156 aB) (.bME aH tI (aQ (.bMC tI (.bMC .bool aH)) 2 (.Z 3)) (.p1 tI (.bMC .bool aH) (.Z 3))) <|
   .call 0 (.bME bA aB (.Z 6) (.Z 8)) <|
   .bMD (.lit 156 aB 1) (.p1 aB .bool (.Z 9)) <|
   .bMD (.bMJ 156 aB 24) (.bME aH aH (aQ (.bMC tI (.bMC .bool aH)) 2 (.Z 3)) (.Z 10)) <|
   .ite (aJ (.bMC tI (.bMC .bool aH)) 1 (.Z 3)) (
    .bMD (.ar .add .i64) (.bME tI tI (.p1 tI (.bMC .bool aH) (.Z 3)) (.ci .i64 1)) <|
    .bMF 0 (bE (.bMC tI (.bMC .bool aH)) [(.Z 12),(.cb true),(.Z 11)])) (
    .bMD (.ar .add .i64) (.bME tI tI (.p1 tI (.bMC .bool aH) (.Z 3)) (.ci .i64 1)) <|
    .bMF 0 (bE (.bMC tI (.bMC .bool aH)) [(.Z 12),(aQ (.bMC aB .bool) 1 (.Z 9)),(.Z 11)]))) (
   .ret (.bME aH .bool (aQ (.bMC tI (.bMC .bool aH)) 2 (.Z 3)) (aJ (.bMC tI (.bMC .bool aH)) 1 (.Z 3))))
theorem aPQ:bL Tryz.prog [lZ] iS false 3000 ⟨[(2989,1003,iQ 15 11++[.dr 1,.tm 8 0,.tm 7 0,.sl 2])],[(2996,1001,[13],[]),(2978,3010,[],[3])]⟩ = .ok xU:=by kernel_rfl
theorem aR2 (x:bM × cD) (hx:okD (.bMC aE aB) x) (hp:(fun x=>iK x.2=true∧List.length x.1≤8) x):xU.wp [lZ] [⟨(.bMC aE aB),x⟩] [] (fun v=>v.as (.bMC aH .bool)=(fun x=>kE x.1 x.2 (x.1:List eK).length) x):=by
 obtain ⟨m,v⟩:=x
 obtain ⟨h1,hm⟩:iK v=true∧m.length≤8:=hp
 have hv:=(cP v).1 h1
 delta xU lZ;refine dD ?_
 refine eE ?_
 refine ⟨⟨by omega,by unfold maxLen;omega⟩,fun _ _=>?_⟩
 ·skip
  refine cS (fun k=>((k:Int),(kE m v k).2,(kE m v k).1)) m.length rfl fun I μ k hk _ go=>?_
  dsimp only
  simp only[lU,rP]
  (repeat' first|intro _|(refine go _ ?_ ?_ ?_)|(refine go _ ?_ ?_)|(with_reducible apply And.intro))
  all_goals first|omega|(unfold maxLen;omega)|exact Prod.ext rfl (Prod.ext (iO (by assumption)) rfl)|exact Prod.ext rfl (Prod.ext (lT (by assumption)) rfl)|(have e:k=m.length:=(by omega);subst e;rfl)
theorem aF3:Con.Holds Tryz.prog iS:=aR aW (aG aMD aS) aPQ aR2
def rX:Con:=⟨216,(.bMC aE (.bMC aH aB)),(.bMC aH (.bMC aB .bool)),[.val ⟨false,aE,[]⟩,.val ⟨false,aH,[]⟩,.val ⟨false,aB,[1]⟩],[⟨false,aH,[0]⟩,⟨false,aB,[0]⟩,⟨false,.bool,[0]⟩],false,none,
 ((fun x=>List.length x.1≤8∧List.length x.1≤List.length x.2.1):(bM × (cV × cD))→Prop),
 ((fun x=>qP x.1 x.2.1 x.2.2):(bM × (cV × cD))→(cV × (cD × Bool)))⟩
def aD1:T :=
 .bMD (.bMG 146 bA) (.p1 aE (.bMC aH aB) (.Z 0)) <|
 .bMD (.rep 156 aB 24) (.Z 1) <|
 .bMD (.bMG 146 bA) (.p1 aE (.bMC aH aB) (.Z 0)) <|
 .bMD (.ar .sub .i64) (.bME tI tI (.Z 3) (.ci .i64 1)) <|
 .loop (.bMC tI (.bMC .bool (.bMC aB (.bMC aH aB)))) (bE (.bMC tI (.bMC .bool (.bMC aB (.bMC aH aB)))) [(.Z 4),(.cb false),(aQ (.bMC aE (.bMC aH aB)) 2 (.Z 0)),(.Z 2),(aQ (.bMC aE (.bMC aH aB)) 2 (.Z 0))]) <|
  .bMD (.cmp .geq .i64) (.bME tI tI (.p1 tI (.bMC .bool (.bMC aB (.bMC aH aB))) (.Z 5)) (.ci .i64 0)) <|
  .ite (.Z 6) (
   .bMD (.bMH 146 bA) (.bME aE tI (.p1 aE (.bMC aH aB) (.Z 0)) (.p1 tI (.bMC .bool (.bMC aB (.bMC aH aB))) (.Z 5))) <|
   .bMD (.bMH 156 aB) (.bME aH tI (aJ (.bMC aE (.bMC aH aB)) 1 (.Z 0)) (.p1 tI (.bMC .bool (.bMC aB (.bMC aH aB))) (.Z 5))) <|
   .call 0 (bE (.bMC bA aI) [(.Z 7),(.Z 8),(aJ (.bMC tI (.bMC .bool (.bMC aB (.bMC aH aB)))) 2 (.Z 5))]) <|
   .bMD (.bMH 156 aB) (.bME aH tI (aJ (.bMC tI (.bMC .bool (.bMC aB (.bMC aH aB)))) 3 (.Z 5)) (.p1 tI (.bMC .bool (.bMC aB (.bMC aH aB))) (.Z 5))) <|
   .bMD (.bMK 156 aB) (bE (.bMC aH aF) [(aJ (.bMC tI (.bMC .bool (.bMC aB (.bMC aH aB)))) 3 (.Z 5)),(.p1 tI (.bMC .bool (.bMC aB (.bMC aH aB))) (.Z 5)),(aJ (.bMC aB (.bMC aB .bool)) 1 (.Z 9))]) <|
   .ite (aJ (.bMC tI (.bMC .bool (.bMC aB (.bMC aH aB)))) 1 (.Z 5)) (
    .bMD (.ar .sub .i64) (.bME tI tI (.p1 tI (.bMC .bool (.bMC aB (.bMC aH aB))) (.Z 5)) (.ci .i64 1)) <|
    .bMF 0 (bE (.bMC tI (.bMC .bool (.bMC aB (.bMC aH aB)))) [(.Z 12),(.cb true),(.p1 aB (.bMC aB .bool) (.Z 9)),(.Z 11),(.p1 aB (.bMC aB .bool) (.Z 9))])) (
    .bMD (.ar .sub .i64) (.bME tI tI (.p1 tI (.bMC .bool (.bMC aB (.bMC aH aB))) (.Z 5)) (.ci .i64 1)) <|
    .bMF 0 (bE (.bMC tI (.bMC .bool (.bMC aB (.bMC aH aB)))) [(.Z 12),(aQ (.bMC aB (.bMC aB .bool)) 2 (.Z 9)),(.p1 aB (.bMC aB .bool) (.Z 9)),(.Z 11),(.p1 aB (.bMC aB .bool) (.Z 9))]))) (
   .ret (bE (.bMC aH (.bMC aB .bool)) [(aJ (.bMC tI (.bMC .bool (.bMC aB (.bMC aH aB)))) 3 (.Z 5)),(aJ (.bMC tI (.bMC .bool (.bMC aB (.bMC aH aB)))) 2 (.Z 5)),(aJ (.bMC tI (.bMC .bool (.bMC aB (.bMC aH aB)))) 1 (.Z 5))]))
theorem aXS:bL Tryz.prog [lA] rX false 3000 ⟨[(2989,1005,iQ 20 15++[.tm 11 0,.tm 10 0,.tm 2 0,.sl 2,.sl 1])],[(2978,3010,[],[4])]⟩ = .ok aD1:=by kernel_rfl
theorem aZV (x:bM × (cV × cD)) (hx:okD (.bMC aE (.bMC aH aB)) x) (hp:(fun x=>List.length x.1≤8∧List.length x.1≤List.length x.2.1) x):aD1.wp [lA] [⟨(.bMC aE (.bMC aH aB)),x⟩] [] (fun v=>v.as (.bMC aH (.bMC aB .bool))=(fun x=>qP x.1 x.2.1 x.2.2) x):=by
 obtain ⟨m,r,d⟩:=x
 obtain ⟨hm,hr⟩:m.length≤8∧m.length≤r.length:=hp
 delta aD1 lA;refine dD ?_
 refine eE ?_
 obtain ⟨n,hn⟩:∃ n,n=m.length:=⟨_,rfl⟩
 rw[show qP m r d=eG m r d n n by rw[hn];rfl,← hn]
 refine fun _=>⟨⟨by omega,by omega,by omega⟩,fun _ _=>⟨by omega,fun _=>?_⟩⟩
 refine cS (fun k=>((n:Int) - 1 - (k:Int),(eG m r d n k).2.2,(eG m r d n k).2.1,(eG m r d n k).1,(eG m r d n k).2.1)) n (by show (_,_)=(_,_);simp only[eG,Int.natCast_zero,Int.sub_zero];rfl) fun I μ k hk _ go=>?_
 dsimp only
 have hgl:=aC5 m r d n k
 by_cases hkn:k<n
 ·obtain ⟨j,hj⟩:∃ j,j=n - 1 - k:=⟨_,rfl⟩
  have e:(n:Int) - 1 - (k:Int)=(j:Int):=by omega
  rw[e] at go
  simp only[e,lU]
  have e2:∀ (F:Bool) (hF:F=((eG m r d n k).2.2 || (iN (m.getD j zOp) (r.getD j []) (eG m r d n k).2.1).2.2)),((j:Int) - 1,F,(iN (m.getD j zOp) (r.getD j []) (eG m r d n k).2.1).1,(eG m r d n k).1.set j (iN (m.getD j zOp) (r.getD j []) (eG m r d n k).2.1).2.1,(iN (m.getD j zOp) (r.getD j []) (eG m r d n k).2.1).1)=((n:Int) - 1 - ((k+1:Nat):Int),(eG m r d n (k+1)).2.2,(eG m r d n (k+1)).2.1,(eG m r d n (k+1)).1,(eG m r d n (k+1)).2.1):=fun F hF=>by
   rw[hF,eG,← hj]
   exact Prod.ext (by show (j:Int) - 1=(n:Int) - 1 - ((k+1:Nat):Int);omega) rfl
  (repeat' first|intro _|(refine go _ ?_ ?_ ?_)|(refine go _ ?_ ?_)|(with_reducible apply And.intro))
  all_goals first|omega|exact e2 _ (iO (by assumption))|exact e2 _ (lT (by assumption))
 ·have e:k=n:=by omega
  subst e
  simp only[show (k:Int) - 1 - (k:Int) = -1 by omega,lU]
  (repeat' first|intro _|(refine go _ ?_ ?_ ?_)|(refine go _ ?_ ?_)|(with_reducible apply And.intro))
  all_goals first|omega|trivial|rfl
theorem aVS:Con.Holds Tryz.prog rX:=aR aW (aG aIY aS) aXS aZV
def sL:Con:=⟨203,(.bMC aE (.bMC aH aB)),(.bMC aH (.bMC aB .bool)),[.val ⟨false,aE,[]⟩,.val ⟨false,aH,[]⟩,.val ⟨false,aB,[]⟩],[⟨false,aH,[0]⟩,⟨false,aB,[0]⟩,⟨false,.bool,[0]⟩],true,none,
 ((fun x=>List.length x.1≤8∧List.length x.1≤List.length x.2.1):(bM × (cV × cD))→Prop),
 ((fun x=>qP x.1 x.2.1 x.2.2):(bM × (cV × cD))→(cV × (cD × Bool)))⟩
def aE4:T :=
 .bMD (.bMG 146 bA) (.p1 aE (.bMC aH aB) (.Z 0)) <|
 .bMD (.rep 156 aB 24) (.Z 1) <|
 .bMD (.bMG 146 bA) (.p1 aE (.bMC aH aB) (.Z 0)) <|
 .bMD (.ar .sub .i64) (.bME tI tI (.Z 3) (.ci .i64 1)) <|
 .loop (.bMC tI (.bMC .bool (.bMC aB aH))) (bE (.bMC tI (.bMC .bool (.bMC aB aH))) [(.Z 4),(.cb false),(aQ (.bMC aE (.bMC aH aB)) 2 (.Z 0)),(.Z 2)]) <|
  .bMD (.cmp .geq .i64) (.bME tI tI (.p1 tI (.bMC .bool (.bMC aB aH)) (.Z 5)) (.ci .i64 0)) <|
  .ite (.Z 6) (
   .bMD (.bMH 146 bA) (.bME aE tI (.p1 aE (.bMC aH aB) (.Z 0)) (.p1 tI (.bMC .bool (.bMC aB aH)) (.Z 5))) <|
   .bMD (.bMH 156 aB) (.bME aH tI (aJ (.bMC aE (.bMC aH aB)) 1 (.Z 0)) (.p1 tI (.bMC .bool (.bMC aB aH)) (.Z 5))) <|
   .call 0 (bE (.bMC bA aI) [(.Z 7),(.Z 8),(aJ (.bMC tI (.bMC .bool (.bMC aB aH))) 2 (.Z 5))]) <|
   .bMD (.bMH 156 aB) (.bME aH tI (aQ (.bMC tI (.bMC .bool (.bMC aB aH))) 3 (.Z 5)) (.p1 tI (.bMC .bool (.bMC aB aH)) (.Z 5))) <|
   .bMD (.bMK 156 aB) (bE (.bMC aH aF) [(aQ (.bMC tI (.bMC .bool (.bMC aB aH))) 3 (.Z 5)),(.p1 tI (.bMC .bool (.bMC aB aH)) (.Z 5)),(aJ (.bMC aB (.bMC aB .bool)) 1 (.Z 9))]) <|
   .ite (aJ (.bMC tI (.bMC .bool (.bMC aB aH))) 1 (.Z 5)) (
    .bMD (.ar .sub .i64) (.bME tI tI (.p1 tI (.bMC .bool (.bMC aB aH)) (.Z 5)) (.ci .i64 1)) <|
    .bMF 0 (bE (.bMC tI (.bMC .bool (.bMC aB aH))) [(.Z 12),(.cb true),(.p1 aB (.bMC aB .bool) (.Z 9)),(.Z 11)])) (
    .bMD (.ar .sub .i64) (.bME tI tI (.p1 tI (.bMC .bool (.bMC aB aH)) (.Z 5)) (.ci .i64 1)) <|
    .bMF 0 (bE (.bMC tI (.bMC .bool (.bMC aB aH))) [(.Z 12),(aQ (.bMC aB (.bMC aB .bool)) 2 (.Z 9)),(.p1 aB (.bMC aB .bool) (.Z 9)),(.Z 11)]))) (
   .ret (bE (.bMC aH (.bMC aB .bool)) [(aQ (.bMC tI (.bMC .bool (.bMC aB aH))) 3 (.Z 5)),(aJ (.bMC tI (.bMC .bool (.bMC aB aH))) 2 (.Z 5)),(aJ (.bMC tI (.bMC .bool (.bMC aB aH))) 1 (.Z 5))]))
theorem aYR:bL Tryz.prog [kT] sL false 3000 ⟨[(2989,1005,iQ 20 15++[.tm 11 0,.tm 10 0,.tm 2 0,.sl 1])],[(2978,3010,[],[3])]⟩ = .ok aE4:=by kernel_rfl
theorem aXY (x:bM × (cV × cD)) (hx:okD (.bMC aE (.bMC aH aB)) x) (hp:(fun x=>List.length x.1≤8∧List.length x.1≤List.length x.2.1) x):aE4.wp [kT] [⟨(.bMC aE (.bMC aH aB)),x⟩] [] (fun v=>v.as (.bMC aH (.bMC aB .bool))=(fun x=>qP x.1 x.2.1 x.2.2) x):=by
 obtain ⟨m,r,d⟩:=x
 obtain ⟨hm,hr⟩:m.length≤8∧m.length≤r.length:=hp
 delta aE4 kT;refine dD ?_
 refine eE ?_
 obtain ⟨n,hn⟩:∃ n,n=m.length:=⟨_,rfl⟩
 rw[show qP m r d=eG m r d n n by rw[hn];rfl,← hn]
 refine fun _=>⟨⟨by omega,by omega,by omega⟩,fun _ _=>⟨by omega,fun _=>?_⟩⟩
 refine cS (fun k=>((n:Int) - 1 - (k:Int),(eG m r d n k).2.2,(eG m r d n k).2.1,(eG m r d n k).1)) n (by show (_,_)=(_,_);simp only[eG,Int.natCast_zero,Int.sub_zero];rfl) fun I μ k hk _ go=>?_
 dsimp only
 have hgl:=aC5 m r d n k
 by_cases hkn:k<n
 ·obtain ⟨j,hj⟩:∃ j,j=n - 1 - k:=⟨_,rfl⟩
  have e:(n:Int) - 1 - (k:Int)=(j:Int):=by omega
  rw[e] at go
  simp only[e,lU]
  have e2:∀ (F:Bool) (hF:F=((eG m r d n k).2.2 || (iN (m.getD j zOp) (r.getD j []) (eG m r d n k).2.1).2.2)),((j:Int) - 1,F,(iN (m.getD j zOp) (r.getD j []) (eG m r d n k).2.1).1,(eG m r d n k).1.set j (iN (m.getD j zOp) (r.getD j []) (eG m r d n k).2.1).2.1)=((n:Int) - 1 - ((k+1:Nat):Int),(eG m r d n (k+1)).2.2,(eG m r d n (k+1)).2.1,(eG m r d n (k+1)).1):=fun F hF=>by
   rw[hF,eG,← hj]
   exact Prod.ext (by show (j:Int) - 1=(n:Int) - 1 - ((k+1:Nat):Int);omega) rfl
  (repeat' first|intro _|(refine go _ ?_ ?_ ?_)|(refine go _ ?_ ?_)|(with_reducible apply And.intro))
  all_goals first|omega|exact e2 _ (iO (by assumption))|exact e2 _ (lT (by assumption))
 ·have e:k=n:=by omega
  subst e
  simp only[show (k:Int) - 1 - (k:Int) = -1 by omega,lU]
  (repeat' first|intro _|(refine go _ ?_ ?_ ?_)|(refine go _ ?_ ?_)|(with_reducible apply And.intro))
  all_goals first|omega|trivial|rfl
theorem aWV:Con.Holds Tryz.prog sL:=aR aW (aG aK6 aS) aYR aXY
def aAL:Con:=⟨123,(.bMC aE aI),.bool,[.val ⟨true,aE,[]⟩,.val ⟨true,aI,[]⟩],[⟨false,.bool,[0]⟩],false,none,
 ((fun _=>True):(bM × bW)→Prop),
 ((fun x=>cQ x.1&&jD x.1 x.2):(bM × bW)→(Bool))⟩
def aJX:T:=.call 0 (.p1 aE aI (.Z 0)) <|.ite (.Z 1) (.call 1 (.p1 aE aI (.Z 0)) <|.call 2 (.bME aB tI (aJ (.bMC aE aI) 1 (.Z 0)) (.Z 2)) <|.ite (.Z 3) (.call 3 (.p1 aE aI (.Z 0)) <|.call 2 (.bME aB tI (aQ (.bMC aE aI) 2 (.Z 0)) (.Z 4)) <|.ret (.Z 5)) (.ret (.cb false))) (.ret (.cb false))
theorem bFP:bL Tryz.prog [bQ,iY,cA,gF] aAL false 3000 ⟨[],[]⟩ = .ok aJX:=by kernel_rfl
theorem bF2 (x:bM × bW) (hx:okD (.bMC aE aI) x) (hp:(fun _=>True) x):aJX.wp [bQ,iY,cA,gF] [⟨(.bMC aE aI),x⟩] [] (fun v=>v.as .bool=(fun x=>cQ x.1&&jD x.1 x.2) x):=by
 delta aJX bQ iY cA gF;refine dD ?_
 refine ⟨fun h1 _=>⟨fun h2 _=>?_,fun h2=>?_⟩,fun h1=>?_⟩
 ·unfold jD;rw[h1,h2];simp
 ·unfold jD;rw[h2];simp
 ·rw[h1];rfl
theorem bI0:Con.Holds Tryz.prog aAL:=aR aW (aG gW (aG aFD (aG jI (aG aBY aS)))) bFP bF2
def pM:Con:=⟨61,(.bMC aE aN),.bool,[.val ⟨true,aE,[]⟩,.val ⟨false,aN,[]⟩],[⟨false,.bool,[0]⟩],false,none,
 ((fun _=>True):(bM × fG)→Prop),
 ((fun x=>iG x.1 x.2):(bM × fG)→(Bool))⟩
def zS:T:=.call 0 (.p1 aE aN (.Z 0)) <|
 .bMD .not (.Z 1) <|
 .ite (.Z 2) (
  .ret (.cb false)) (
  .bMD (.bMG 130 aI) (aQ (.bMC aE aN) 1 (.Z 0)) <|
  .bMD (.cmp .lss .i64) (.bME tI tI (.Z 3) (.ci .i64 1)) <|
  .ite (.Z 4) (
   .ret (.cb false)) (
   .bMD (.bMG 130 aI) (aQ (.bMC aE aN) 1 (.Z 0)) <|
   .bMD (.cmp .gtr .i64) (.bME tI tI (.Z 5) (.ci .i64 5)) <|
   .ite (.Z 6) (
    .ret (.cb false)) (
    .bMD (.bMG 130 aI) (aQ (.bMC aE aN) 1 (.Z 0)) <|
    .loop tI (.ci .i64 0) <|
     .bMD (.cmp .lss .i64) (.bME tI tI (.Z 8) (.Z 7)) <|
     .ite (.Z 9) (
      .bMD (.bMH 130 aI) (.bME aN tI (aQ (.bMC aE aN) 1 (.Z 0)) (.Z 8)) <|
      .call 1 (.bME aE aI (.p1 aE aN (.Z 0)) (.Z 10)) <|
      .bMD .not (.Z 11) <|
      .ite (.Z 12) (
       .ret (.cb false)) (
       .bMD (.ar .add .i64) (.bME tI tI (.Z 8) (.ci .i64 1)) <|
       .bMF 0 (.Z 13))) (
      .ret (.cb true)))))
theorem aSH:bL Tryz.prog [bQ,aAL] pM false 3000 ⟨[(2988,8008,iQ 19 7++[.dr 0,.dr 1,.tm 22 0])],[]⟩ = .ok zS:=by kernel_rfl
theorem aTS (x:bM × fG) (hx:okD (.bMC aE aN) x) (hp:(fun _=>True) x):zS.wp [bQ,aAL] [⟨(.bMC aE aN),x⟩] [] (fun v=>v.as .bool=(fun x=>iG x.1 x.2) x):=by
 obtain ⟨m,b⟩:=x
 have hm:b.length≤9223372036854775807:=hx.2.1
 delta zS bQ aAL;refine dD ?_
 refine eE ?_
 refine ⟨fun h=>aRQ h,fun h1 _=>⟨fun h=>aJF (by omega),fun h2 _=>⟨fun h=>aJF (by omega),fun h3 _=>?_⟩⟩⟩
 refine uK (fun k=>(k:Int)) (fun k=>(List.take k b).all (jD m)=true) b.length rfl rfl fun I μ k hk hG _ go=>?_
 try dsimp only
 rw[h1]
 simp only[Bool.true_and]
 refine eE ?_
 constructor
 ·intro hlt
  have hk':k<b.length:=by omega
  have e:=mL (jD m) b hk'
  rw[hG,Bool.true_and] at e
  simp only[aZ hk']
  (repeat' first|intro _|(refine go _ ?_ ?_ ?_)|(refine go _ ?_ ?_)|(with_reducible apply And.intro))
  all_goals first|omega|(rename_i hh;exact aSO (uP hk' (hh.resolve_left (by simp[h1]))))|(rename_i hh _;exact e.trans hh.2)|rfl
 ·intro hge
  rw[List.take_of_length_le (by omega)] at hG
  exact bAC h1 ⟨by omega,by omega⟩ hG
theorem aSB:Con.Holds Tryz.prog pM:=aR aW (aG gW (aG bI0 aS)) aSH aTS
def aAX:Con:=⟨112,aE,tI,[.val ⟨true,aE,[]⟩],[⟨false,tI,[0]⟩],false,none,
 ((fun _=>True):(bM)→Prop),
 ((fun x=>lH x):(bM)→(Int))⟩
def aIN:T:=.call 0 (.Z 0) <|
 .bMD .not (.Z 1) <|
 .ite (.Z 2) (
  .ret (.ci .i64 0)) (
  .bMD (.bMH 146 bA) (.bME aE tI (.Z 0) (.ci .i64 0)) <|
  .ret (aJ bA 1 (.Z 3)))
theorem bFC:bL Tryz.prog [cB] aAX false 3000 ⟨[],[]⟩ = .ok aIN:=by kernel_rfl
theorem bI7 (x:bM) (hx:okD aE x) (hp:(fun _=>True) x):aIN.wp [cB] [⟨aE,x⟩] [] (fun v=>v.as tI=(fun x=>lH x) x):=by
 delta aIN cB;refine dD ?_
 simp only[Bool.not_eq_true',Bool.not_eq_false']
 refine ⟨fun h=>?_,fun h=>?_⟩
 ·unfold lH;rw[h];rfl
 ·have:=(bY x).1 h
  refine ⟨by omega,fun _=>?_⟩
  unfold lH;rw[if_pos h];rfl
theorem bHJ:Con.Holds Tryz.prog aAX:=aR aW (aG jV aS) bFC bI7
def wB:Con:=⟨113,aE,tI,[.val ⟨true,aE,[]⟩],[⟨false,tI,[0]⟩],false,none,
 ((fun _=>True):(bM)→Prop),
 ((fun x=>gY x):(bM)→(Int))⟩
def aFS:T:=.call 0 (.Z 0) <|
 .bMD .not (.Z 1) <|
 .ite (.Z 2) (
  .ret (.ci .i64 0)) (
  .bMD (.bMG 146 bA) (.Z 0) <|
  .bMD (.ar .sub .i64) (.bME tI tI (.Z 3) (.ci .i64 1)) <|
  .bMD (.bMH 146 bA) (.bME aE tI (.Z 0) (.Z 4)) <|
  .ret (aJ bA 2 (.Z 5)))
theorem bEA:bL Tryz.prog [cB] wB false 3000 ⟨[],[]⟩ = .ok aFS:=by kernel_rfl
theorem bCH (x:bM) (hx:okD aE x) (hp:(fun _=>True) x):aFS.wp [cB] [⟨aE,x⟩] [] (fun v=>v.as tI=(fun x=>gY x) x):=by
 delta aFS cB;refine dD ?_
 simp only[Bool.not_eq_true',Bool.not_eq_false']
 refine ⟨fun h=>?_,fun h=>?_⟩
 ·unfold gY;rw[h];rfl
 ·have:=(bY x).1 h
  refine fun _=>⟨by omega,fun _=>⟨by omega,fun _=>?_⟩⟩
  unfold gY;rw[if_pos h,yF];rfl
theorem bCC:Con.Holds Tryz.prog wB:=aR aW (aG jV aS) bEA bCH
def oZ:Con:=⟨55,(.bMC aE aN),.bool,[.val ⟨true,aE,[]⟩,.val ⟨false,aN,[]⟩],[⟨false,.bool,[0]⟩],false,none,
 ((fun _=>True):(bM × fG)→Prop),
 ((fun x=>iG x.1 x.2):(bM × fG)→(Bool))⟩
def zU:T:=.call 0 (.p1 aE aN (.Z 0)) <|
 .bMD .not (.Z 1) <|
 .ite (.Z 2) (
  .ret (.cb false)) (
  .bMD (.bMG 130 aI) (aQ (.bMC aE aN) 1 (.Z 0)) <|
  .call 1 (bE (.bMC tI aO) [(.Z 3),(.ci .i64 1),(.ci .i64 5)]) <|
  .bMD .not (.Z 4) <|
  .ite (.Z 5) (
   .ret (.cb false)) (
   .loop tI (.ci .i64 0) <|
    .bMD (.bMG 130 aI) (aQ (.bMC aE aN) 1 (.Z 0)) <|
    .bMD (.cmp .lss .i64) (.bME tI tI (.Z 6) (.Z 7)) <|
    .ite (.Z 8) (
     .bMD (.bMH 130 aI) (.bME aN tI (aQ (.bMC aE aN) 1 (.Z 0)) (.Z 6)) <|
     .call 2 (.p1 aB aB (.Z 9)) <|
     .bMD .not (.Z 10) <|
     .ite (.Z 11) (
      .ret (.cb false)) (
      .bMD (.bMH 130 aI) (.bME aN tI (aQ (.bMC aE aN) 1 (.Z 0)) (.Z 6)) <|
      .call 2 (aQ aI 1 (.Z 12)) <|
      .bMD .not (.Z 13) <|
      .ite (.Z 14) (
       .ret (.cb false)) (
       .bMD (.bMH 130 aI) (.bME aN tI (aQ (.bMC aE aN) 1 (.Z 0)) (.Z 6)) <|
       .bMD (.bMG 3 tI) (.p1 aB aB (.Z 15)) <|
       .call 3 (.p1 aE aN (.Z 0)) <|
       .bMD (.cmp .neq .i64) (.bME tI tI (.Z 16) (.Z 17)) <|
       .ite (.Z 18) (
        .ret (.cb false)) (
        .bMD (.bMH 130 aI) (.bME aN tI (aQ (.bMC aE aN) 1 (.Z 0)) (.Z 6)) <|
        .bMD (.bMG 3 tI) (aQ aI 1 (.Z 19)) <|
        .call 4 (.p1 aE aN (.Z 0)) <|
        .bMD (.cmp .neq .i64) (.bME tI tI (.Z 20) (.Z 21)) <|
        .ite (.Z 22) (
         .ret (.cb false)) (
         .bMD (.ar .add .i64) (.bME tI tI (.Z 6) (.ci .i64 1)) <|
         .bMF 0 (.Z 23)))))) (
     .ret (.cb true))))
theorem aTF:bL Tryz.prog [cB,bH,bI,aAX,wB] oZ false 3000 ⟨[(2988,4006,iQ 14 6++[.dr 0,.tm 5 0])],[]⟩ = .ok zU:=by kernel_rfl
theorem aTL (x:bM × fG) (hx:okD (.bMC aE aN) x) (hp:(fun _=>True) x):zU.wp [cB,bH,bI,aAX,wB] [⟨(.bMC aE aN),x⟩] [] (fun v=>v.as .bool=(fun x=>iG x.1 x.2) x):=by
 obtain ⟨m,b⟩:=x
 have hm:b.length≤9223372036854775807:=hx.2.1
 delta zU cB bH bI aAX wB;refine dD ?_
 simp only[lU,aE7,aED]
 refine ⟨fun h=>aRQ h,fun h1 _=>⟨fun h=>aJF (by omega),fun h2=>?_⟩⟩
 refine uK (fun k=>(k:Int)) (fun k=>(List.take k b).all (jD m)=true) b.length rfl rfl fun I μ k hk hG _ go=>?_
 try dsimp only
 refine eE ?_
 intro _
 constructor
 ·intro hlt
  have hk':k<b.length:=by omega
  have e:=mL (jD m) b hk'
  rw[hG,Bool.true_and] at e
  have bad:jD m b[k]=false→false=iG m b:=fun h=>aSO (uP hk' h)
  simp only[aZ hk']
  (repeat' first|intro _|(refine go _ ?_ ?_ ?_)|(refine go _ ?_ ?_)|(with_reducible apply And.intro))
  all_goals first|omega|exact bad (aP2 (.inl (by assumption)))|exact bad (aP2 (.inr (.inl (by assumption))))|exact bad (aP2 (.inr (.inr (.inl (by assumption)))))|exact bad (aP2 (.inr (.inr (.inr (by assumption)))))|exact e.trans (bKU (by assumption) (by assumption) (by assumption) (by assumption))|rfl
 ·intro hge
  rw[List.take_of_length_le (by omega)] at hG
  exact bAC h1 ⟨by omega,by omega⟩ hG
theorem aT9:Con.Holds Tryz.prog oZ:=aR aW (aG jV (aG eS (aG fD (aG bHJ (aG bCC aS))))) aTF aTL
end
end Go.Proofs.YtiihghfoeinbbaaGreat
