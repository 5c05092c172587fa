/- Seq4: lemmas. No conditions. -/
import Derived.Test.YtdeobhdbmehpgaaGreatMat3
namespace Go.Proofs.YtdeobhdbmehpgaaGreat
noncomputable section
set_option maxRecDepth 100000
open Go.ChangeShapes Go.WideShapes Go.ChangeAt Go.RowKit Go.Deep
set_option linter.unusedVariables false
set_option linter.unusedSimpArgs false
def vA (y t:List Int):Int × Bool:=((fL (kD eP y t).1 (kD eP y t).1).1.fdiv 2,(kD eP y t).2 || (fL (kD eP y t).1 (kD eP y t).1).2)
def jO (m:List dJ) (x:List Int):Nat→cV × Bool
 | 0=>([x],false)
 | k+1=>((jO m x k).1++[(oT (m.getD k zOp) ((jO m x k).1.getD k [])).1],(jO m x k).2 || (oT (m.getD k zOp) ((jO m x k).1.getD k [])).2)
def xE (m:List dJ) (x:List Int):cV × Bool:=if bW m=true∧eF x (iJ m)=true then jO m x m.length else ([],false)
def eH (m:List dJ) (r:cV) (d:List Int) (n:Nat):Nat→cV × (List Int × Bool)
 | 0=>(List.replicate n [],d,false)
 | k+1=>((eH m r d n k).1.set (n - 1 - k) (iB (m.getD (n - 1 - k) zOp) (r.getD (n - 1 - k) []) (eH m r d n k).2.1).2.1,(iB (m.getD (n - 1 - k) zOp) (r.getD (n - 1 - k) []) (eH m r d n k).2.1).1,
  (eH m r d n k).2.2 || (iB (m.getD (n - 1 - k) zOp) (r.getD (n - 1 - k) []) (eH m r d n k).2.1).2.2)
def qO (m:List dJ) (r:cV) (d:List Int):cV × (List Int × Bool):=eH m r d m.length m.length
def lH (m:List dJ) (p:bP):Bool:=eF p.1 (iJ m)&&eF p.2 (eM m)
def eN (m:List dJ) (b:List bP):Bool:=bW m&&(decide (1≤b.length∧b.length≤5)&&b.all (lH m))
theorem bAZ {x:Int} (h:0≤x):0≤(aKX x).1:=by show 0≤eJ x;unfold eJ;omega
theorem aOX {x:Int} (h:0≤x):0≤eJ x:=by unfold eJ;omega
theorem bDG (x:Int):0≤(fA x x).1:=by
 refine bAZ ?_
 rw[Int.fdiv_eq_ediv_of_nonneg _ (by decide)]
 have h:0≤eJ x * eJ x:=by
  rcases Int.le_total 0 (eJ x) with h|h
  ·exact Int.mul_nonneg h h
  ·exact Int.mul_nonneg_of_nonpos_of_nonpos h h
 omega
theorem bAM (a:List Int):(k:Nat)→0≤(aGJ a a k).1
 | 0=>Int.le_refl _
 | k+1=>bAZ (Int.add_nonneg (aOX (bAM a k)) (aOX (bDG _)))
theorem bE2 (a:List Int):0≤(fL a a).1:=by
 unfold fL;split
 ·exact bAM a _
 ·exact Int.le_refl _
theorem bJF {x:Int} (h:0≤x):x.tdiv 2=x.fdiv 2:=by rw[Int.fdiv_eq_ediv_of_nonneg _ (by decide),Int.tdiv_eq_ediv_of_nonneg h]
theorem sH (m:List dJ) (x:List Int):(k:Nat)→(jO m x k).1.length=k+1
 | 0=>rfl
 | k+1=>by rw[jO,List.length_append,sH m x k];rfl
theorem aBO (m:List dJ) (r:cV) (d:List Int) (n:Nat):(k:Nat)→(eH m r d n k).1.length=n
 | 0=>List.length_replicate
 | k+1=>by rw[eH,List.length_set,aBO m r d n k]
theorem bFY {m:List dJ} {b:List bP} (h:bW m=false):false=eN m b:=by unfold eN;rw[h];rfl
theorem bF5 {m:List dJ} {b:List bP} (h:¬ (1≤b.length∧b.length≤5)):false=eN m b:=by unfold eN;rw[decide_eq_false h,Bool.false_and,Bool.and_false]
theorem bGL {m:List dJ} {b:List bP} (h:b.all (lH m)=false):false=eN m b:=by unfold eN;rw[h,Bool.and_false,Bool.and_false]
theorem bJQ {m:List dJ} {b:List bP} (h1:bW m=true) (h2:1≤b.length∧b.length≤5) (h3:b.all (lH m)=true):true=eN m b:=by unfold eN;rw[h1,h3,decide_eq_true h2];rfl
theorem aJ7 (m:List dJ) (b:List bP):eN m b=true↔bW m=true∧(1≤b.length∧b.length≤5)∧b.all (lH m)=true:=by unfold eN;simp only[Bool.and_eq_true,decide_eq_true_eq]
theorem aPR {m:List dJ} {p:bP} (h:iA p.1=false∨iA p.2=false∨¬ (p.1.length:Int)=iJ m∨¬ (p.2.length:Int)=eM m):lH m p=false:=by
 unfold lH eF
 rcases h with h|h|h|h
 ·rw[h];simp
 ·rw[h];simp
 ·rw[decide_eq_false h];simp
 ·rw[decide_eq_false h];simp
theorem bMN {m:List dJ} {p:bP} (h1:iA p.1=true) (h2:iA p.2=true) (h3:(p.1.length:Int)=iJ m) (h4:(p.2.length:Int)=eM m):lH m p=true:=by
 unfold lH eF;rw[h1,h2,decide_eq_true h3,decide_eq_true h4];rfl
def sG:Con:=⟨116,aM,(.bNT tI .bool),[.val ⟨false,aB,[]⟩,.val ⟨false,aB,[]⟩],[⟨false,tI,[0]⟩,⟨false,.bool,[0]⟩],false,none,
 ((fun _=>True):(bP)→Prop),
 ((fun x=>vA x.1 x.2):(bP)→(Int × Bool))⟩
def aD6:T:=.call 0 (.Z 0) <|.call 1 (.bNV aB aB (.p1 aB .bool (.Z 1)) (.p1 aB .bool (.Z 1))) <|
 .bNU (.shr .i64 .u64) (.bNV tI (.int .u64) (.p1 tI .bool (.Z 2)) (.ci .u64 1)) <|
 .ite (aO (.bNT aB .bool) 1 (.Z 1)) (
  .ret (.bNV tI .bool (.Z 3) (.cb true))) (
  .ret (.bNV tI .bool (.Z 3) (aO (.bNT tI .bool) 1 (.Z 2))))
theorem aYX:bM Tryz.prog [kH,gS] sG false 3000 ⟨[],[]⟩ = .ok aD6:=by kernel_rfl
theorem aYK (x:bP) (hx:okD aM x) (hp:(fun _=>True) x):aD6.wp [kH,gS] [⟨aM,x⟩] [] (fun v=>v.as (.bNT tI .bool)=(fun x=>vA x.1 x.2) x):=by
 delta aD6 kH gS;refine dB ?_
 exact fun _ _=>⟨by omega,fun _=>⟨fun h=>Prod.ext rfl (iC h),fun h=>Prod.ext rfl (lL h)⟩⟩
theorem aWH:Con.Holds Tryz.prog sG:=aS aW (aH aLR (aH aE4 aR)) aYX aYK
def rS:Con:=⟨132,aM,(.bNT tI .bool),[.val ⟨false,aB,[]⟩,.val ⟨false,aB,[]⟩],[⟨false,tI,[0]⟩,⟨false,.bool,[0]⟩],false,none,
 ((fun _=>True):(bP)→Prop),
 ((fun x=>vA x.1 x.2):(bP)→(Int × Bool))⟩
def aD4:T:=.call 0 (.Z 0) <|.call 1 (.bNV aB aB (.p1 aB .bool (.Z 1)) (.p1 aB .bool (.Z 1))) <|
 .bNU (.quo .i64) (.bNV tI tI (.p1 tI .bool (.Z 2)) (.ci .i64 2)) <|
 .ite (aO (.bNT aB .bool) 1 (.Z 1)) (
  .ret (.bNV tI .bool (.Z 3) (.cb true))) (
  .ret (.bNV tI .bool (.Z 3) (aO (.bNT tI .bool) 1 (.Z 2))))
theorem aWF:bM Tryz.prog [kL,eV] rS false 3000 ⟨[],[]⟩ = .ok aD4:=by kernel_rfl
theorem aY8 (x:bP) (hx:okD aM x) (hp:(fun _=>True) x):aD4.wp [kL,eV] [⟨aM,x⟩] [] (fun v=>v.as (.bNT tI .bool)=(fun x=>vA x.1 x.2) x):=by
 delta aD4 kL eV;refine dB ?_
 intro _ ho
 have h0:=bE2 (kD eP x.1 x.2).1
 have h1:(fL (kD eP x.1 x.2).1 (kD eP x.1 x.2).1).1≤9223372036854775807:=ho.1.2
 rw[bJF h0]
 have h2:(fL (kD eP x.1 x.2).1 (kD eP x.1 x.2).1).1.fdiv 2=(fL (kD eP x.1 x.2).1 (kD eP x.1 x.2).1).1 / 2:=Int.fdiv_eq_ediv_of_nonneg _ (by decide)
 exact ⟨⟨by omega,by omega,by omega⟩,fun _=>⟨fun h=>Prod.ext rfl (iC h),fun h=>Prod.ext rfl (lL h)⟩⟩
theorem aZU:Con.Holds Tryz.prog rS:=aS aW (aH aLN (aH xG aR)) aWF aY8
def lD:Con:=⟨115,(.bNT aK aB),(.bNT aI .bool),[.val ⟨true,aK,[]⟩,.val ⟨false,aB,[]⟩],[⟨false,aI,[2]⟩,⟨false,.bool,[0]⟩],false,none,
 ((fun _=>True):(bD × bK)→Prop),
 ((fun x=>xE x.1 x.2):(bD × bK)→(cV × Bool))⟩
def aDD:T:=.call 0 (.p1 aK aB (.Z 0)) <|
 .bNU .not (.Z 1) <|
 .ite (.Z 2) (
  .ret (.bNV aI .bool (.nl 112 aB) (.cb false))) (
  .call 1 (.p1 aK aB (.Z 0)) <|
  .call 2 (.bNV aB tI (aO (.bNT aK aB) 1 (.Z 0)) (.Z 3)) <|
  .bNU .not (.Z 4) <|
  .ite (.Z 5) (
   .ret (.bNV aI .bool (.nl 112 aB) (.cb false))) (
   .call 3 (aO (.bNT aK aB) 1 (.Z 0)) <|
   .bNU (.lit 112 aB 1) (.Z 6) <|
   .bNU (.bNX 78 bG) (.p1 aK aB (.Z 0)) <|
   .loop (.bNT tI (.bNT .bool aI)) (bB (.bNT tI (.bNT .bool aI)) [(.ci .i64 0),(.cb false),(.Z 7)]) <|
    .bNU (.cmp .lss .i64) (.bNV tI tI (.p1 tI (.bNT .bool aI) (.Z 9)) (.Z 8)) <|
    .ite (.Z 10) (
     .bNU (.bNY 78 bG) (.bNV aK tI (.p1 aK aB (.Z 0)) (.p1 tI (.bNT .bool aI) (.Z 9))) <|
     .bNU (.bNY 112 aB) (.bNV aI tI (aO (.bNT tI (.bNT .bool aI)) 2 (.Z 9)) (.p1 tI (.bNT .bool aI) (.Z 9))) <|
     .bNU (.bNY 112 aB) (.bNV aI tI (aO (.bNT tI (.bNT .bool aI)) 2 (.Z 9)) (.p1 tI (.bNT .bool aI) (.Z 9))) <|
     .call 4 (.bNV bG aB (.Z 11) (.Z 13)) <|
     .bNU (.lit 112 aB 1) (.p1 aB .bool (.Z 14)) <|
     .bNU (.bO0 112 aB 24) (.bNV aI aI (aO (.bNT tI (.bNT .bool aI)) 2 (.Z 9)) (.Z 15)) <|
     .ite (aJ (.bNT tI (.bNT .bool aI)) 1 (.Z 9)) (
      .bNU (.ar .add .i64) (.bNV tI tI (.p1 tI (.bNT .bool aI) (.Z 9)) (.ci .i64 1)) <|
      .bNW 0 (bB (.bNT tI (.bNT .bool aI)) [(.Z 17),(.cb true),(.Z 16)])) (
      .bNU (.ar .add .i64) (.bNV tI tI (.p1 tI (.bNT .bool aI) (.Z 9)) (.ci .i64 1)) <|
      .bNW 0 (bB (.bNT tI (.bNT .bool aI)) [(.Z 17),(aO (.bNT aB .bool) 1 (.Z 14)),(.Z 16)]))) (
     .ret (.bNV aI .bool (aO (.bNT tI (.bNT .bool aI)) 2 (.Z 9)) (aJ (.bNT tI (.bNT .bool aI)) 1 (.Z 9))))))
theorem aZW:bM Tryz.prog [dW,kS,cB,bN,lR] lD false 3000 ⟨[(2984,4009,iT 26 12++[.dr 2,.dr 0,.dr 1,.tm 29 0,.tm 7 0,.sl 3])],[(2991,4006,[23],[]),(2971,12015,[],[6])]⟩ = .ok aDD:=by kernel_rfl
theorem aYC (x:bD × bK) (hx:okD (.bNT aK aB) x) (hp:(fun _=>True) x):aDD.wp [dW,kS,cB,bN,lR] [⟨(.bNT aK aB),x⟩] [] (fun v=>v.as (.bNT aI .bool)=(fun x=>xE x.1 x.2) x):=by
 obtain ⟨m,v⟩:=x
 delta aDD dW kS cB bN lR;refine dB ?_
 simp only[Bool.not_eq_true',Bool.not_eq_false']
 refine ⟨fun h=>?_,fun h1 _=>⟨fun h=>?_,fun h2=>?_⟩⟩
 ·unfold xE;rw[if_neg (by rw[h];simp)]
 ·unfold xE;rw[if_neg (by rw[h];simp)]
 ·have hv:=(cL v).1 ((cE _ _).1 h2).1
  have hm:=(bR m).1 h1
  rw[show xE m v=_ from if_pos ⟨h1,h2⟩]
  refine ⟨by omega,fun _ _ _=>?_⟩
  refine cZ (fun k=>((k:Int),(jO m v k).2,(jO m v k).1)) m.length rfl fun I μ k hk _ go=>?_
  dsimp only
  simp only[nS,sH]
  (repeat' first|intro _|(refine go _ ?_ ?_ ?_)|(refine go _ ?_ ?_)|(with_reducible apply And.intro))
  all_goals first|omega|(unfold maxLen;omega)|exact Prod.ext rfl (Prod.ext (iC (by assumption)) rfl)|exact Prod.ext rfl (Prod.ext (lL (by assumption)) rfl)|(have e:k=m.length:=(by omega);subst e;rfl)
theorem aJA:Con.Holds Tryz.prog lD:=aS aW (aH tG (aH aL5 (aH jT (aH gK (aH aNE aR))))) aZW aYC
def iN:Con:=⟨131,(.bNT aK aB),(.bNT aI .bool),[.val ⟨false,aK,[]⟩,.val ⟨false,aB,[]⟩],[⟨false,aI,[2]⟩,⟨false,.bool,[0]⟩],false,none,
 ((fun x=>iA x.2=true∧List.length x.1≤8):(bD × bK)→Prop),
 ((fun x=>jO x.1 x.2 (x.1:List dJ).length):(bD × bK)→(cV × Bool))⟩
def xO:T :=
 .bNU (.bO0 3 tI 8) (.bNV aB aB (.nl 3 tI) (aO (.bNT aK aB) 1 (.Z 0))) <|
 .bNU (.lit 112 aB 1) (.Z 1) <|
 .loop (.bNT tI (.bNT .bool aI)) (bB (.bNT tI (.bNT .bool aI)) [(.ci .i64 0),(.cb false),(.Z 2)]) <|
  .bNU (.bNX 78 bG) (.p1 aK aB (.Z 0)) <|
  .bNU (.cmp .lss .i64) (.bNV tI tI (.p1 tI (.bNT .bool aI) (.Z 3)) (.Z 4)) <|
  .ite (.Z 5) (
   .bNU (.bNY 78 bG) (.bNV aK tI (.p1 aK aB (.Z 0)) (.p1 tI (.bNT .bool aI) (.Z 3))) <|
   .bNU (.bNY 112 aB) (.bNV aI tI (aO (.bNT tI (.bNT .bool aI)) 2 (.Z 3)) (.p1 tI (.bNT .bool aI) (.Z 3))) <|
   .bNU (.bNY 112 aB) (.bNV aI tI (aO (.bNT tI (.bNT .bool aI)) 2 (.Z 3)) (.p1 tI (.bNT .bool aI) (.Z 3))) <|
   .call 0 (.bNV bG aB (.Z 6) (.Z 8)) <|
   .bNU (.lit 112 aB 1) (.p1 aB .bool (.Z 9)) <|
   .bNU (.bO0 112 aB 24) (.bNV aI aI (aO (.bNT tI (.bNT .bool aI)) 2 (.Z 3)) (.Z 10)) <|
   .ite (aJ (.bNT tI (.bNT .bool aI)) 1 (.Z 3)) (
    .bNU (.ar .add .i64) (.bNV tI tI (.p1 tI (.bNT .bool aI) (.Z 3)) (.ci .i64 1)) <|
    .bNW 0 (bB (.bNT tI (.bNT .bool aI)) [(.Z 12),(.cb true),(.Z 11)])) (
    .bNU (.ar .add .i64) (.bNV tI tI (.p1 tI (.bNT .bool aI) (.Z 3)) (.ci .i64 1)) <|
    .bNW 0 (bB (.bNT tI (.bNT .bool aI)) [(.Z 12),(aO (.bNT aB .bool) 1 (.Z 9)),(.Z 11)]))) (
   .ret (.bNV aI .bool (aO (.bNT tI (.bNT .bool aI)) 2 (.Z 3)) (aJ (.bNT tI (.bNT .bool aI)) 1 (.Z 3))))
theorem aP7:bM Tryz.prog [lV] iN false 3000 ⟨[(2989,1003,iT 15 11++[.dr 1,.tm 8 0,.tm 7 0,.sl 2])],[(2996,1001,[13],[]),(2978,3010,[],[3])]⟩ = .ok xO:=by kernel_rfl
theorem aRT (x:bD × bK) (hx:okD (.bNT aK aB) x) (hp:(fun x=>iA x.2=true∧List.length x.1≤8) x):xO.wp [lV] [⟨(.bNT aK aB),x⟩] [] (fun v=>v.as (.bNT aI .bool)=(fun x=>jO x.1 x.2 (x.1:List dJ).length) x):=by
 obtain ⟨m,v⟩:=x
 obtain ⟨h1,hm⟩:iA v=true∧m.length≤8:=hp
 have hv:=(cL v).1 h1
 delta xO lV;refine dB ?_
 refine dT ?_
 refine ⟨⟨by omega,by unfold maxLen;omega⟩,fun _ _=>?_⟩
 ·skip
  refine cZ (fun k=>((k:Int),(jO m v k).2,(jO m v k).1)) m.length rfl fun I μ k hk _ go=>?_
  dsimp only
  simp only[nS,sH]
  (repeat' first|intro _|(refine go _ ?_ ?_ ?_)|(refine go _ ?_ ?_)|(with_reducible apply And.intro))
  all_goals first|omega|(unfold maxLen;omega)|exact Prod.ext rfl (Prod.ext (iC (by assumption)) rfl)|exact Prod.ext rfl (Prod.ext (lL (by assumption)) rfl)|(have e:k=m.length:=(by omega);subst e;rfl)
theorem aEK:Con.Holds Tryz.prog iN:=aS aW (aH aMJ aR) aP7 aRT
def sN:Con:=⟨120,(.bNT aK (.bNT aI aB)),(.bNT aI (.bNT aB .bool)),[.val ⟨false,aK,[]⟩,.val ⟨false,aI,[]⟩,.val ⟨false,aB,[1]⟩],[⟨false,aI,[1]⟩,⟨false,aB,[1]⟩,⟨false,.bool,[0]⟩],false,none,
 ((fun x=>List.length x.1≤8∧List.length x.1≤List.length x.2.1):(bD × (cV × bK))→Prop),
 ((fun x=>qO x.1 x.2.1 x.2.2):(bD × (cV × bK))→(cV × (bK × Bool)))⟩
def aEH:T :=
 .bNU (.bNX 78 bG) (.p1 aK (.bNT aI aB) (.Z 0)) <|
 .bNU (.rep 112 aB 24) (.Z 1) <|
 .bNU (.bNX 78 bG) (.p1 aK (.bNT aI aB) (.Z 0)) <|
 .bNU (.ar .sub .i64) (.bNV tI tI (.Z 3) (.ci .i64 1)) <|
 .loop (.bNT tI (.bNT .bool (.bNT aB (.bNT aI aB)))) (bB (.bNT tI (.bNT .bool (.bNT aB (.bNT aI aB)))) [(.Z 4),(.cb false),(aO (.bNT aK (.bNT aI aB)) 2 (.Z 0)),(.Z 2),(aO (.bNT aK (.bNT aI aB)) 2 (.Z 0))]) <|
  .bNU (.cmp .geq .i64) (.bNV tI tI (.p1 tI (.bNT .bool (.bNT aB (.bNT aI aB))) (.Z 5)) (.ci .i64 0)) <|
  .ite (.Z 6) (
   .bNU (.bNY 78 bG) (.bNV aK tI (.p1 aK (.bNT aI aB) (.Z 0)) (.p1 tI (.bNT .bool (.bNT aB (.bNT aI aB))) (.Z 5))) <|
   .bNU (.bNY 112 aB) (.bNV aI tI (aJ (.bNT aK (.bNT aI aB)) 1 (.Z 0)) (.p1 tI (.bNT .bool (.bNT aB (.bNT aI aB))) (.Z 5))) <|
   .call 0 (bB (.bNT bG aM) [(.Z 7),(.Z 8),(aO (.bNT tI (.bNT .bool (.bNT aB (.bNT aI aB)))) 4 (.Z 5))]) <|
   .bNU (.bNY 112 aB) (.bNV aI tI (aJ (.bNT tI (.bNT .bool (.bNT aB (.bNT aI aB)))) 3 (.Z 5)) (.p1 tI (.bNT .bool (.bNT aB (.bNT aI aB))) (.Z 5))) <|
   .bNU (.bO1 112 aB) (bB (.bNT aI aF) [(aJ (.bNT tI (.bNT .bool (.bNT aB (.bNT aI aB)))) 3 (.Z 5)),(.p1 tI (.bNT .bool (.bNT aB (.bNT aI aB))) (.Z 5)),(aJ (.bNT aB (.bNT aB .bool)) 1 (.Z 9))]) <|
   .ite (aJ (.bNT tI (.bNT .bool (.bNT aB (.bNT aI aB)))) 1 (.Z 5)) (
    .bNU (.ar .sub .i64) (.bNV tI tI (.p1 tI (.bNT .bool (.bNT aB (.bNT aI aB))) (.Z 5)) (.ci .i64 1)) <|
    .bNW 0 (bB (.bNT tI (.bNT .bool (.bNT aB (.bNT aI aB)))) [(.Z 12),(.cb true),(.p1 aB (.bNT aB .bool) (.Z 9)),(.Z 11),(.p1 aB (.bNT aB .bool) (.Z 9))])) (
    .bNU (.ar .sub .i64) (.bNV tI tI (.p1 tI (.bNT .bool (.bNT aB (.bNT aI aB))) (.Z 5)) (.ci .i64 1)) <|
    .bNW 0 (bB (.bNT tI (.bNT .bool (.bNT aB (.bNT aI aB)))) [(.Z 12),(aO (.bNT aB (.bNT aB .bool)) 2 (.Z 9)),(.p1 aB (.bNT aB .bool) (.Z 9)),(.Z 11),(.p1 aB (.bNT aB .bool) (.Z 9))]))) (
   .ret (bB (.bNT aI (.bNT aB .bool)) [(aJ (.bNT tI (.bNT .bool (.bNT aB (.bNT aI aB)))) 3 (.Z 5)),(aO (.bNT tI (.bNT .bool (.bNT aB (.bNT aI aB)))) 4 (.Z 5)),(aJ (.bNT tI (.bNT .bool (.bNT aB (.bNT aI aB)))) 1 (.Z 5))]))
theorem aZR:bM Tryz.prog [kG] sN false 3000 ⟨[(2989,1005,iT 20 15++[.tm 11 0,.tm 10 0,.tm 2 0,.sl 2,.sl 1])],[(2978,3010,[],[4])]⟩ = .ok aEH:=by kernel_rfl
theorem aYF (x:bD × (cV × bK)) (hx:okD (.bNT aK (.bNT aI aB)) x) (hp:(fun x=>List.length x.1≤8∧List.length x.1≤List.length x.2.1) x):aEH.wp [kG] [⟨(.bNT aK (.bNT aI aB)),x⟩] [] (fun v=>v.as (.bNT aI (.bNT aB .bool))=(fun x=>qO x.1 x.2.1 x.2.2) x):=by
 obtain ⟨m,r,d⟩:=x
 obtain ⟨hm,hr⟩:m.length≤8∧m.length≤r.length:=hp
 delta aEH kG;refine dB ?_
 refine dT ?_
 obtain ⟨n,hn⟩:∃ n,n=m.length:=⟨_,rfl⟩
 rw[show qO m r d=eH m r d n n by rw[hn];rfl,← hn]
 refine fun _=>⟨⟨by omega,by omega,by omega⟩,fun _ _=>⟨by omega,fun _=>?_⟩⟩
 refine cZ (fun k=>((n:Int) - 1 - (k:Int),(eH m r d n k).2.2,(eH m r d n k).2.1,(eH m r d n k).1,(eH m r d n k).2.1)) n (by show (_,_)=(_,_);simp only[eH,Int.natCast_zero,Int.sub_zero];rfl) fun I μ k hk _ go=>?_
 dsimp only
 have hgl:=aBO m r d n k
 by_cases hkn:k<n
 ·obtain ⟨j,hj⟩:∃ j,j=n - 1 - k:=⟨_,rfl⟩
  have e:(n:Int) - 1 - (k:Int)=(j:Int):=by omega
  rw[e] at go
  simp only[e,nS]
  have e2:∀ (F:Bool) (hF:F=((eH m r d n k).2.2 || (iB (m.getD j zOp) (r.getD j []) (eH m r d n k).2.1).2.2)),((j:Int) - 1,F,(iB (m.getD j zOp) (r.getD j []) (eH m r d n k).2.1).1,(eH m r d n k).1.set j (iB (m.getD j zOp) (r.getD j []) (eH m r d n k).2.1).2.1,(iB (m.getD j zOp) (r.getD j []) (eH m r d n k).2.1).1)=((n:Int) - 1 - ((k+1:Nat):Int),(eH m r d n (k+1)).2.2,(eH m r d n (k+1)).2.1,(eH m r d n (k+1)).1,(eH m r d n (k+1)).2.1):=fun F hF=>by
   rw[hF,eH,← hj]
   exact Prod.ext (by show (j:Int) - 1=(n:Int) - 1 - ((k+1:Nat):Int);omega) rfl
  (repeat' first|intro _|(refine go _ ?_ ?_ ?_)|(refine go _ ?_ ?_)|(with_reducible apply And.intro))
  all_goals first|omega|exact e2 _ (iC (by assumption))|exact e2 _ (lL (by assumption))
 ·have e:k=n:=by omega
  subst e
  simp only[show (k:Int) - 1 - (k:Int) = -1 by omega,nS]
  (repeat' first|intro _|(refine go _ ?_ ?_ ?_)|(refine go _ ?_ ?_)|(with_reducible apply And.intro))
  all_goals first|omega|trivial|rfl
theorem aWZ:Con.Holds Tryz.prog sN:=aS aW (aH aJP aR) aZR aYF
def rN:Con:=⟨135,(.bNT aK (.bNT aI aB)),(.bNT aI (.bNT aB .bool)),[.val ⟨false,aK,[]⟩,.val ⟨false,aI,[]⟩,.val ⟨false,aB,[]⟩],[⟨false,aI,[0]⟩,⟨false,aB,[0]⟩,⟨false,.bool,[0]⟩],true,none,
 ((fun x=>List.length x.1≤8∧List.length x.1≤List.length x.2.1):(bD × (cV × bK))→Prop),
 ((fun x=>qO x.1 x.2.1 x.2.2):(bD × (cV × bK))→(cV × (bK × Bool)))⟩
def aDO:T :=
 .bNU (.bNX 78 bG) (.p1 aK (.bNT aI aB) (.Z 0)) <|
 .bNU (.rep 112 aB 24) (.Z 1) <|
 .bNU (.bNX 78 bG) (.p1 aK (.bNT aI aB) (.Z 0)) <|
 .bNU (.ar .sub .i64) (.bNV tI tI (.Z 3) (.ci .i64 1)) <|
 .loop (.bNT tI (.bNT .bool (.bNT aB aI))) (bB (.bNT tI (.bNT .bool (.bNT aB aI))) [(.Z 4),(.cb false),(aO (.bNT aK (.bNT aI aB)) 2 (.Z 0)),(.Z 2)]) <|
  .bNU (.cmp .geq .i64) (.bNV tI tI (.p1 tI (.bNT .bool (.bNT aB aI)) (.Z 5)) (.ci .i64 0)) <|
  .ite (.Z 6) (
   .bNU (.bNY 78 bG) (.bNV aK tI (.p1 aK (.bNT aI aB) (.Z 0)) (.p1 tI (.bNT .bool (.bNT aB aI)) (.Z 5))) <|
   .bNU (.bNY 112 aB) (.bNV aI tI (aJ (.bNT aK (.bNT aI aB)) 1 (.Z 0)) (.p1 tI (.bNT .bool (.bNT aB aI)) (.Z 5))) <|
   .call 0 (bB (.bNT bG aM) [(.Z 7),(.Z 8),(aJ (.bNT tI (.bNT .bool (.bNT aB aI))) 2 (.Z 5))]) <|
   .bNU (.bNY 112 aB) (.bNV aI tI (aO (.bNT tI (.bNT .bool (.bNT aB aI))) 3 (.Z 5)) (.p1 tI (.bNT .bool (.bNT aB aI)) (.Z 5))) <|
   .bNU (.bO1 112 aB) (bB (.bNT aI aF) [(aO (.bNT tI (.bNT .bool (.bNT aB aI))) 3 (.Z 5)),(.p1 tI (.bNT .bool (.bNT aB aI)) (.Z 5)),(aJ (.bNT aB (.bNT aB .bool)) 1 (.Z 9))]) <|
   .ite (aJ (.bNT tI (.bNT .bool (.bNT aB aI))) 1 (.Z 5)) (
    .bNU (.ar .sub .i64) (.bNV tI tI (.p1 tI (.bNT .bool (.bNT aB aI)) (.Z 5)) (.ci .i64 1)) <|
    .bNW 0 (bB (.bNT tI (.bNT .bool (.bNT aB aI))) [(.Z 12),(.cb true),(.p1 aB (.bNT aB .bool) (.Z 9)),(.Z 11)])) (
    .bNU (.ar .sub .i64) (.bNV tI tI (.p1 tI (.bNT .bool (.bNT aB aI)) (.Z 5)) (.ci .i64 1)) <|
    .bNW 0 (bB (.bNT tI (.bNT .bool (.bNT aB aI))) [(.Z 12),(aO (.bNT aB (.bNT aB .bool)) 2 (.Z 9)),(.p1 aB (.bNT aB .bool) (.Z 9)),(.Z 11)]))) (
   .ret (bB (.bNT aI (.bNT aB .bool)) [(aO (.bNT tI (.bNT .bool (.bNT aB aI))) 3 (.Z 5)),(aJ (.bNT tI (.bNT .bool (.bNT aB aI))) 2 (.Z 5)),(aJ (.bNT tI (.bNT .bool (.bNT aB aI))) 1 (.Z 5))]))
theorem aYN:bM Tryz.prog [kZ] rN false 3000 ⟨[(2989,1005,iT 20 15++[.tm 11 0,.tm 10 0,.tm 2 0,.sl 1])],[(2978,3010,[],[3])]⟩ = .ok aDO:=by kernel_rfl
theorem aZT (x:bD × (cV × bK)) (hx:okD (.bNT aK (.bNT aI aB)) x) (hp:(fun x=>List.length x.1≤8∧List.length x.1≤List.length x.2.1) x):aDO.wp [kZ] [⟨(.bNT aK (.bNT aI aB)),x⟩] [] (fun v=>v.as (.bNT aI (.bNT aB .bool))=(fun x=>qO x.1 x.2.1 x.2.2) x):=by
 obtain ⟨m,r,d⟩:=x
 obtain ⟨hm,hr⟩:m.length≤8∧m.length≤r.length:=hp
 delta aDO kZ;refine dB ?_
 refine dT ?_
 obtain ⟨n,hn⟩:∃ n,n=m.length:=⟨_,rfl⟩
 rw[show qO m r d=eH m r d n n by rw[hn];rfl,← hn]
 refine fun _=>⟨⟨by omega,by omega,by omega⟩,fun _ _=>⟨by omega,fun _=>?_⟩⟩
 refine cZ (fun k=>((n:Int) - 1 - (k:Int),(eH m r d n k).2.2,(eH m r d n k).2.1,(eH m r d n k).1)) n (by show (_,_)=(_,_);simp only[eH,Int.natCast_zero,Int.sub_zero];rfl) fun I μ k hk _ go=>?_
 dsimp only
 have hgl:=aBO m r d n k
 by_cases hkn:k<n
 ·obtain ⟨j,hj⟩:∃ j,j=n - 1 - k:=⟨_,rfl⟩
  have e:(n:Int) - 1 - (k:Int)=(j:Int):=by omega
  rw[e] at go
  simp only[e,nS]
  have e2:∀ (F:Bool) (hF:F=((eH m r d n k).2.2 || (iB (m.getD j zOp) (r.getD j []) (eH m r d n k).2.1).2.2)),((j:Int) - 1,F,(iB (m.getD j zOp) (r.getD j []) (eH m r d n k).2.1).1,(eH m r d n k).1.set j (iB (m.getD j zOp) (r.getD j []) (eH m r d n k).2.1).2.1)=((n:Int) - 1 - ((k+1:Nat):Int),(eH m r d n (k+1)).2.2,(eH m r d n (k+1)).2.1,(eH m r d n (k+1)).1):=fun F hF=>by
   rw[hF,eH,← hj]
   exact Prod.ext (by show (j:Int) - 1=(n:Int) - 1 - ((k+1:Nat):Int);omega) rfl
  (repeat' first|intro _|(refine go _ ?_ ?_ ?_)|(refine go _ ?_ ?_)|(with_reducible apply And.intro))
  all_goals first|omega|exact e2 _ (iC (by assumption))|exact e2 _ (lL (by assumption))
 ·have e:k=n:=by omega
  subst e
  simp only[show (k:Int) - 1 - (k:Int) = -1 by omega,nS]
  (repeat' first|intro _|(refine go _ ?_ ?_ ?_)|(refine go _ ?_ ?_)|(with_reducible apply And.intro))
  all_goals first|omega|trivial|rfl
theorem aZF:Con.Holds Tryz.prog rN:=aS aW (aH aKJ aR) aYN aZT
def pJ:Con:=⟨97,aK,tI,[.val ⟨true,aK,[]⟩],[⟨false,tI,[0]⟩],false,none,
 ((fun _=>True):(bD)→Prop),
 ((fun x=>iJ x):(bD)→(Int))⟩
def aK6:T:=.call 0 (.Z 0) <|
 .bNU .not (.Z 1) <|
 .ite (.Z 2) (
  .ret (.ci .i64 0)) (
  .bNU (.bNY 78 bG) (.bNV aK tI (.Z 0) (.ci .i64 0)) <|
  .ret (aJ bG 1 (.Z 3)))
theorem bFH:bM Tryz.prog [bY] pJ false 3000 ⟨[],[]⟩ = .ok aK6:=by kernel_rfl
theorem bHD (x:bD) (hx:okD aK x) (hp:(fun _=>True) x):aK6.wp [bY] [⟨aK,x⟩] [] (fun v=>v.as tI=(fun x=>iJ x) x):=by
 delta aK6 bY;refine dB ?_
 simp only[Bool.not_eq_true',Bool.not_eq_false']
 refine ⟨fun h=>?_,fun h=>?_⟩
 ·unfold iJ;rw[h];rfl
 ·have:=(bR x).1 h
  refine ⟨by omega,fun _=>?_⟩
  unfold iJ;rw[if_pos h];rfl
theorem aSB:Con.Holds Tryz.prog pJ:=aS aW (aH jI aR) bFH bHD
def mP:Con:=⟨95,aK,tI,[.val ⟨true,aK,[]⟩],[⟨false,tI,[0]⟩],false,none,
 ((fun _=>True):(bD)→Prop),
 ((fun x=>eM x):(bD)→(Int))⟩
def aHA:T:=.call 0 (.Z 0) <|
 .bNU .not (.Z 1) <|
 .ite (.Z 2) (
  .ret (.ci .i64 0)) (
  .bNU (.bNX 78 bG) (.Z 0) <|
  .bNU (.ar .sub .i64) (.bNV tI tI (.Z 3) (.ci .i64 1)) <|
  .bNU (.bNY 78 bG) (.bNV aK tI (.Z 0) (.Z 4)) <|
  .ret (aJ bG 2 (.Z 5)))
theorem bDC:bM Tryz.prog [bY] mP false 3000 ⟨[],[]⟩ = .ok aHA:=by kernel_rfl
theorem bCM (x:bD) (hx:okD aK x) (hp:(fun _=>True) x):aHA.wp [bY] [⟨aK,x⟩] [] (fun v=>v.as tI=(fun x=>eM x) x):=by
 delta aHA bY;refine dB ?_
 simp only[Bool.not_eq_true',Bool.not_eq_false']
 refine ⟨fun h=>?_,fun h=>?_⟩
 ·unfold eM;rw[h];rfl
 ·have:=(bR x).1 h
  refine fun _=>⟨by omega,fun _=>⟨by omega,fun _=>?_⟩⟩
  unfold eM;rw[if_pos h,xY];rfl
theorem aOS:Con.Holds Tryz.prog mP:=aS aW (aH jI aR) bDC bCM
def pS:Con:=⟨169,(.bNT aK aN),.bool,[.val ⟨true,aK,[]⟩,.val ⟨false,aN,[]⟩],[⟨false,.bool,[0]⟩],false,none,
 ((fun _=>True):(bD × dL)→Prop),
 ((fun x=>eN x.1 x.2):(bD × dL)→(Bool))⟩
def aAV:T:=.call 0 (.p1 aK aN (.Z 0)) <|
 .bNU .not (.Z 1) <|
 .ite (.Z 2) (
  .ret (.cb false)) (
  .bNU (.bNX 94 aM) (aO (.bNT aK aN) 1 (.Z 0)) <|
  .call 1 (bB (.bNT tI aE) [(.Z 3),(.ci .i64 1),(.ci .i64 5)]) <|
  .bNU .not (.Z 4) <|
  .ite (.Z 5) (
   .ret (.cb false)) (
   .loop tI (.ci .i64 0) <|
    .bNU (.bNX 94 aM) (aO (.bNT aK aN) 1 (.Z 0)) <|
    .bNU (.cmp .lss .i64) (.bNV tI tI (.Z 6) (.Z 7)) <|
    .ite (.Z 8) (
     .bNU (.bNY 94 aM) (.bNV aN tI (aO (.bNT aK aN) 1 (.Z 0)) (.Z 6)) <|
     .call 2 (.p1 aB aB (.Z 9)) <|
     .bNU .not (.Z 10) <|
     .ite (.Z 11) (
      .ret (.cb false)) (
      .bNU (.bNY 94 aM) (.bNV aN tI (aO (.bNT aK aN) 1 (.Z 0)) (.Z 6)) <|
      .call 2 (aO aM 1 (.Z 12)) <|
      .bNU .not (.Z 13) <|
      .ite (.Z 14) (
       .ret (.cb false)) (
       .bNU (.bNY 94 aM) (.bNV aN tI (aO (.bNT aK aN) 1 (.Z 0)) (.Z 6)) <|
       .bNU (.bNX 3 tI) (.p1 aB aB (.Z 15)) <|
       .call 3 (.p1 aK aN (.Z 0)) <|
       .bNU (.cmp .neq .i64) (.bNV tI tI (.Z 16) (.Z 17)) <|
       .ite (.Z 18) (
        .ret (.cb false)) (
        .bNU (.bNY 94 aM) (.bNV aN tI (aO (.bNT aK aN) 1 (.Z 0)) (.Z 6)) <|
        .bNU (.bNX 3 tI) (aO aM 1 (.Z 19)) <|
        .call 4 (.p1 aK aN (.Z 0)) <|
        .bNU (.cmp .neq .i64) (.bNV tI tI (.Z 20) (.Z 21)) <|
        .ite (.Z 22) (
         .ret (.cb false)) (
         .bNU (.ar .add .i64) (.bNV tI tI (.Z 6) (.ci .i64 1)) <|
         .bNW 0 (.Z 23)))))) (
     .ret (.cb true))))
theorem aVW:bM Tryz.prog [bY,bI,bJ,pJ,mP] pS false 3000 ⟨[(2988,4006,iT 14 6++[.dr 0,.tm 5 0])],[]⟩ = .ok aAV:=by kernel_rfl
theorem aT4 (x:bD × dL) (hx:okD (.bNT aK aN) x) (hp:(fun _=>True) x):aAV.wp [bY,bI,bJ,pJ,mP] [⟨(.bNT aK aN),x⟩] [] (fun v=>v.as .bool=(fun x=>eN x.1 x.2) x):=by
 obtain ⟨m,b⟩:=x
 have hm:b.length≤9223372036854775807:=hx.2.1
 delta aAV bY bI bJ pJ mP;refine dB ?_
 simp only[nS,qF,qI]
 refine ⟨fun h=>bFY h,fun h1 _=>⟨fun h=>bF5 (by omega),fun h2=>?_⟩⟩
 refine yV (fun k=>(k:Int)) (fun k=>(List.take k b).all (lH m)=true) b.length rfl rfl fun I μ k hk hG _ go=>?_
 try dsimp only
 refine dT ?_
 intro _
 constructor
 ·intro hlt
  have hk':k<b.length:=by omega
  have e:=qB (lH m) b hk'
  rw[hG,Bool.true_and] at e
  have bad:lH m b[k]=false→false=eN m b:=fun h=>bGL (wT hk' h)
  simp only[aZ hk']
  (repeat' first|intro _|(refine go _ ?_ ?_ ?_)|(refine go _ ?_ ?_)|(with_reducible apply And.intro))
  all_goals first|omega|exact bad (aPR (.inl (by assumption)))|exact bad (aPR (.inr (.inl (by assumption))))|exact bad (aPR (.inr (.inr (.inl (by assumption)))))|exact bad (aPR (.inr (.inr (.inr (by assumption)))))|exact e.trans (bMN (by assumption) (by assumption) (by assumption) (by assumption))|rfl
 ·intro hge
  rw[List.take_of_length_le (by omega)] at hG
  exact bJQ h1 ⟨by omega,by omega⟩ hG
theorem aSG:Con.Holds Tryz.prog pS:=aS aW (aH jI (aH eY (aH fD (aH aSB (aH aOS aR))))) aVW aT4
end
end Go.Proofs.YtdeobhdbmehpgaaGreat
