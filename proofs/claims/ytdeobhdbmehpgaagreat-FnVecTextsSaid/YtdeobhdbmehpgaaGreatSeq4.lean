/- Seq4: lemmas. No conditions. -/
import Derived.Test.YtdeobhdbmehpgaaGreatMat3
namespace Go.Proofs.YtdeobhdbmehpgaaGreat
noncomputable section
set_option maxRecDepth 100000
open Go.ChangeShapes Go.WideShapes Go.ChangeAt Go.RowKit Go.Deep
set_option linter.unusedVariables false
set_option linter.unusedSimpArgs false
def uM (y t:List Int):Int × Bool:=((fX (kI fK y t).1 (kI fK y t).1).1.fdiv 2,(kI fK y t).2 || (fX (kI fK y t).1 (kI fK y t).1).2)
def jG (m:List dR) (x:List Int):Nat→bX × Bool
 | 0=>([x],false)
 | k+1=>((jG m x k).1++[(vM (m.getD k zOp) ((jG m x k).1.getD k [])).1],(jG m x k).2 || (vM (m.getD k zOp) ((jG m x k).1.getD k [])).2)
def gO (m:List dR) (r:bX) (d:List Int) (n:Nat):Nat→bX × (List Int × Bool)
 | 0=>(List.replicate n [],d,false)
 | k+1=>((gO m r d n k).1.set (n - 1 - k) (kO (m.getD (n - 1 - k) zOp) (r.getD (n - 1 - k) []) (gO m r d n k).2.1).2.1,(kO (m.getD (n - 1 - k) zOp) (r.getD (n - 1 - k) []) (gO m r d n k).2.1).1,
  (gO m r d n k).2.2 || (kO (m.getD (n - 1 - k) zOp) (r.getD (n - 1 - k) []) (gO m r d n k).2.1).2.2)
def rT (m:List dR) (r:bX) (d:List Int):bX × (List Int × Bool):=gO m r d m.length m.length
theorem aUD {x:Int} (h:0≤x):0≤(aRF x).1:=by show 0≤dX x;unfold dX;omega
theorem aK2 {x:Int} (h:0≤x):0≤dX x:=by unfold dX;omega
theorem aVV (x:Int):0≤(gH x x).1:=by
 refine aUD ?_
 rw[Int.fdiv_eq_ediv_of_nonneg _ (by decide)]
 have h:0≤dX x * dX x:=by
  rcases Int.le_total 0 (dX x) with h|h
  ·exact Int.mul_nonneg h h
  ·exact Int.mul_nonneg_of_nonpos_of_nonpos h h
 omega
theorem aTZ (a:List Int):(k:Nat)→0≤(aGS a a k).1
 | 0=>Int.le_refl _
 | k+1=>aUD (Int.add_nonneg (aK2 (aTZ a k)) (aK2 (aVV _)))
theorem aVS (a:List Int):0≤(fX a a).1:=by
 unfold fX;split
 ·exact aTZ a _
 ·exact Int.le_refl _
theorem bCG {x:Int} (h:0≤x):x.tdiv 2=x.fdiv 2:=by rw[Int.fdiv_eq_ediv_of_nonneg _ (by decide),Int.tdiv_eq_ediv_of_nonneg h]
theorem vR (m:List dR) (x:List Int):(k:Nat)→(jG m x k).1.length=k+1
 | 0=>rfl
 | k+1=>by rw[jG,List.length_append,vR m x k];rfl
theorem xW (m:List dR) (r:bX) (d:List Int) (n:Nat):(k:Nat)→(gO m r d n k).1.length=n
 | 0=>List.length_replicate
 | k+1=>by rw[gO,List.length_set,xW m r d n k]
def pL:Con:=⟨132,aU,(.bEL tI .bool),[.val ⟨false,aA,[]⟩,.val ⟨false,aA,[]⟩],[⟨false,tI,[0]⟩,⟨false,.bool,[0]⟩],false,none,
 ((fun _=>True):(eZ)→Prop),
 ((fun x=>uM x.1 x.2):(eZ)→(Int × Bool))⟩
def aAA:T:=.call 0 (.Z 0) <|.call 1 (.bEN aA aA (.p1 aA .bool (.Z 1)) (.p1 aA .bool (.Z 1))) <|
 .bEM (.quo .i64) (.bEN tI tI (.p1 tI .bool (.Z 2)) (.ci .i64 2)) <|
 .ite (aN (.bEL aA .bool) 1 (.Z 1)) (
  .ret (.bEN tI .bool (.Z 3) (.cb true))) (
  .ret (.bEN tI .bool (.Z 3) (aN (.bEL tI .bool) 1 (.Z 2))))
theorem aS2:bJ Tryz.prog [iY,dH] pL false 3000 ⟨[],[]⟩ = .ok aAA:=by kernel_rfl
theorem aRY (x:eZ) (hx:okD aU x) (hp:(fun _=>True) x):aAA.wp [iY,dH] [⟨aU,x⟩] [] (fun v=>v.as (.bEL tI .bool)=(fun x=>uM x.1 x.2) x):=by
 delta aAA iY dH;refine eE ?_
 intro _ ho
 have h0:=aVS (kI fK x.1 x.2).1
 have h1:(fX (kI fK x.1 x.2).1 (kI fK x.1 x.2).1).1≤9223372036854775807:=ho.1.2
 rw[bCG h0]
 have h2:(fX (kI fK x.1 x.2).1 (kI fK x.1 x.2).1).1.fdiv 2=(fX (kI fK x.1 x.2).1 (kI fK x.1 x.2).1).1 / 2:=Int.fdiv_eq_ediv_of_nonneg _ (by decide)
 exact ⟨⟨by omega,by omega,by omega⟩,fun _=>⟨fun h=>Prod.ext rfl (nS h),fun h=>Prod.ext rfl (uH h)⟩⟩
theorem aSJ:Con.Holds Tryz.prog pL:=aQ aR (aG aGK (aG tA aO)) aS2 aRY
def fP:Con:=⟨131,(.bEL aF aA),(.bEL aE .bool),[.val ⟨false,aF,[]⟩,.val ⟨false,aA,[]⟩],[⟨false,aE,[2]⟩,⟨false,.bool,[0]⟩],false,none,
 ((fun x=>kH x.2=true∧List.length x.1≤8):(bL × aW)→Prop),
 ((fun x=>jG x.1 x.2 (x.1:List dR).length):(bL × aW)→(bX × Bool))⟩
def tX:T :=
 .bEM (.bES 3 tI 8) (.bEN aA aA (.nl 3 tI) (aN (.bEL aF aA) 1 (.Z 0))) <|
 .bEM (.lit 112 aA 1) (.Z 1) <|
 .loop (.bEL tI (.bEL .bool aE)) (aY (.bEL tI (.bEL .bool aE)) [(.ci .i64 0),(.cb false),(.Z 2)]) <|
  .bEM (.bEP 78 bC) (.p1 aF aA (.Z 0)) <|
  .bEM (.cmp .lss .i64) (.bEN tI tI (.p1 tI (.bEL .bool aE) (.Z 3)) (.Z 4)) <|
  .ite (.Z 5) (
   .bEM (.bEQ 78 bC) (.bEN aF tI (.p1 aF aA (.Z 0)) (.p1 tI (.bEL .bool aE) (.Z 3))) <|
   .bEM (.bEQ 112 aA) (.bEN aE tI (aN (.bEL tI (.bEL .bool aE)) 2 (.Z 3)) (.p1 tI (.bEL .bool aE) (.Z 3))) <|
   .bEM (.bEQ 112 aA) (.bEN aE tI (aN (.bEL tI (.bEL .bool aE)) 2 (.Z 3)) (.p1 tI (.bEL .bool aE) (.Z 3))) <|
   .call 0 (.bEN bC aA (.Z 6) (.Z 8)) <|
   .bEM (.lit 112 aA 1) (.p1 aA .bool (.Z 9)) <|
   .bEM (.bES 112 aA 24) (.bEN aE aE (aN (.bEL tI (.bEL .bool aE)) 2 (.Z 3)) (.Z 10)) <|
   .ite (aI (.bEL tI (.bEL .bool aE)) 1 (.Z 3)) (
    .bEM (.ar .add .i64) (.bEN tI tI (.p1 tI (.bEL .bool aE) (.Z 3)) (.ci .i64 1)) <|
    .bEO 0 (aY (.bEL tI (.bEL .bool aE)) [(.Z 12),(.cb true),(.Z 11)])) (
    .bEM (.ar .add .i64) (.bEN tI tI (.p1 tI (.bEL .bool aE) (.Z 3)) (.ci .i64 1)) <|
    .bEO 0 (aY (.bEL tI (.bEL .bool aE)) [(.Z 12),(aN (.bEL aA .bool) 1 (.Z 9)),(.Z 11)]))) (
   .ret (.bEN aE .bool (aN (.bEL tI (.bEL .bool aE)) 2 (.Z 3)) (aI (.bEL tI (.bEL .bool aE)) 1 (.Z 3))))
theorem aKY:bJ Tryz.prog [jL] fP false 3000 ⟨[(2989,1003,jT 15 11++[.dr 1,.tm 8 0,.tm 7 0,.sl 2])],[(2996,1001,[13],[]),(2978,3010,[],[3])]⟩ = .ok tX:=by kernel_rfl
theorem aKG (x:bL × aW) (hx:okD (.bEL aF aA) x) (hp:(fun x=>kH x.2=true∧List.length x.1≤8) x):tX.wp [jL] [⟨(.bEL aF aA),x⟩] [] (fun v=>v.as (.bEL aE .bool)=(fun x=>jG x.1 x.2 (x.1:List dR).length) x):=by
 obtain ⟨m,v⟩:=x
 obtain ⟨h1,hm⟩:kH v=true∧m.length≤8:=hp
 have hv:=(dU v).1 h1
 delta tX jL;refine eE ?_
 refine fJ ?_
 refine ⟨⟨by omega,by unfold maxLen;omega⟩,fun _ _=>?_⟩
 ·skip
  refine jC (fun k=>((k:Int),(jG m v k).2,(jG m v k).1)) m.length rfl fun I μ k hk _ go=>?_
  dsimp only
  simp only[sS,vR]
  (repeat' first|intro _|(refine go _ ?_ ?_ ?_)|(refine go _ ?_ ?_)|(with_reducible apply And.intro))
  all_goals first|omega|(unfold maxLen;omega)|exact Prod.ext rfl (Prod.ext (nS (by assumption)) rfl)|exact Prod.ext rfl (Prod.ext (uH (by assumption)) rfl)|(have e:k=m.length:=(by omega);subst e;rfl)
theorem aBD:Con.Holds Tryz.prog fP:=aQ aR (aG aIA aO) aKY aKG
def pP:Con:=⟨135,(.bEL aF (.bEL aE aA)),(.bEL aE (.bEL aA .bool)),[.val ⟨false,aF,[]⟩,.val ⟨false,aE,[]⟩,.val ⟨false,aA,[]⟩],[⟨false,aE,[0]⟩,⟨false,aA,[0]⟩,⟨false,.bool,[0]⟩],true,none,
 ((fun x=>List.length x.1≤8∧List.length x.1≤List.length x.2.1):(bL × (bX × aW))→Prop),
 ((fun x=>rT x.1 x.2.1 x.2.2):(bL × (bX × aW))→(bX × (aW × Bool)))⟩
def zI:T :=
 .bEM (.bEP 78 bC) (.p1 aF (.bEL aE aA) (.Z 0)) <|
 .bEM (.rep 112 aA 24) (.Z 1) <|
 .bEM (.bEP 78 bC) (.p1 aF (.bEL aE aA) (.Z 0)) <|
 .bEM (.ar .sub .i64) (.bEN tI tI (.Z 3) (.ci .i64 1)) <|
 .loop (.bEL tI (.bEL .bool (.bEL aA aE))) (aY (.bEL tI (.bEL .bool (.bEL aA aE))) [(.Z 4),(.cb false),(aN (.bEL aF (.bEL aE aA)) 2 (.Z 0)),(.Z 2)]) <|
  .bEM (.cmp .geq .i64) (.bEN tI tI (.p1 tI (.bEL .bool (.bEL aA aE)) (.Z 5)) (.ci .i64 0)) <|
  .ite (.Z 6) (
   .bEM (.bEQ 78 bC) (.bEN aF tI (.p1 aF (.bEL aE aA) (.Z 0)) (.p1 tI (.bEL .bool (.bEL aA aE)) (.Z 5))) <|
   .bEM (.bEQ 112 aA) (.bEN aE tI (aI (.bEL aF (.bEL aE aA)) 1 (.Z 0)) (.p1 tI (.bEL .bool (.bEL aA aE)) (.Z 5))) <|
   .call 0 (aY (.bEL bC aU) [(.Z 7),(.Z 8),(aI (.bEL tI (.bEL .bool (.bEL aA aE))) 2 (.Z 5))]) <|
   .bEM (.bEQ 112 aA) (.bEN aE tI (aN (.bEL tI (.bEL .bool (.bEL aA aE))) 3 (.Z 5)) (.p1 tI (.bEL .bool (.bEL aA aE)) (.Z 5))) <|
   .bEM (.bET 112 aA) (aY (.bEL aE aK) [(aN (.bEL tI (.bEL .bool (.bEL aA aE))) 3 (.Z 5)),(.p1 tI (.bEL .bool (.bEL aA aE)) (.Z 5)),(aI (.bEL aA (.bEL aA .bool)) 1 (.Z 9))]) <|
   .ite (aI (.bEL tI (.bEL .bool (.bEL aA aE))) 1 (.Z 5)) (
    .bEM (.ar .sub .i64) (.bEN tI tI (.p1 tI (.bEL .bool (.bEL aA aE)) (.Z 5)) (.ci .i64 1)) <|
    .bEO 0 (aY (.bEL tI (.bEL .bool (.bEL aA aE))) [(.Z 12),(.cb true),(.p1 aA (.bEL aA .bool) (.Z 9)),(.Z 11)])) (
    .bEM (.ar .sub .i64) (.bEN tI tI (.p1 tI (.bEL .bool (.bEL aA aE)) (.Z 5)) (.ci .i64 1)) <|
    .bEO 0 (aY (.bEL tI (.bEL .bool (.bEL aA aE))) [(.Z 12),(aN (.bEL aA (.bEL aA .bool)) 2 (.Z 9)),(.p1 aA (.bEL aA .bool) (.Z 9)),(.Z 11)]))) (
   .ret (aY (.bEL aE (.bEL aA .bool)) [(aN (.bEL tI (.bEL .bool (.bEL aA aE))) 3 (.Z 5)),(aI (.bEL tI (.bEL .bool (.bEL aA aE))) 2 (.Z 5)),(aI (.bEL tI (.bEL .bool (.bEL aA aE))) 1 (.Z 5))]))
theorem aQS:bJ Tryz.prog [iL] pP false 3000 ⟨[(2989,1005,jT 20 15++[.tm 11 0,.tm 10 0,.tm 2 0,.sl 1])],[(2978,3010,[],[3])]⟩ = .ok zI:=by kernel_rfl
theorem aS1 (x:bL × (bX × aW)) (hx:okD (.bEL aF (.bEL aE aA)) x) (hp:(fun x=>List.length x.1≤8∧List.length x.1≤List.length x.2.1) x):zI.wp [iL] [⟨(.bEL aF (.bEL aE aA)),x⟩] [] (fun v=>v.as (.bEL aE (.bEL aA .bool))=(fun x=>rT x.1 x.2.1 x.2.2) x):=by
 obtain ⟨m,r,d⟩:=x
 obtain ⟨hm,hr⟩:m.length≤8∧m.length≤r.length:=hp
 delta zI iL;refine eE ?_
 refine fJ ?_
 obtain ⟨n,hn⟩:∃ n,n=m.length:=⟨_,rfl⟩
 rw[show rT m r d=gO m r d n n by rw[hn];rfl,← hn]
 refine fun _=>⟨⟨by omega,by omega,by omega⟩,fun _ _=>⟨by omega,fun _=>?_⟩⟩
 refine jC (fun k=>((n:Int) - 1 - (k:Int),(gO m r d n k).2.2,(gO m r d n k).2.1,(gO m r d n k).1)) n (by show (_,_)=(_,_);simp only[gO,Int.natCast_zero,Int.sub_zero];rfl) fun I μ k hk _ go=>?_
 dsimp only
 have hgl:=xW m r d n k
 by_cases hkn:k<n
 ·obtain ⟨j,hj⟩:∃ j,j=n - 1 - k:=⟨_,rfl⟩
  have e:(n:Int) - 1 - (k:Int)=(j:Int):=by omega
  rw[e] at go
  simp only[e,sS]
  have e2:∀ (F:Bool) (hF:F=((gO m r d n k).2.2 || (kO (m.getD j zOp) (r.getD j []) (gO m r d n k).2.1).2.2)),((j:Int) - 1,F,(kO (m.getD j zOp) (r.getD j []) (gO m r d n k).2.1).1,(gO m r d n k).1.set j (kO (m.getD j zOp) (r.getD j []) (gO m r d n k).2.1).2.1)=((n:Int) - 1 - ((k+1:Nat):Int),(gO m r d n (k+1)).2.2,(gO m r d n (k+1)).2.1,(gO m r d n (k+1)).1):=fun F hF=>by
   rw[hF,gO,← hj]
   exact Prod.ext (by show (j:Int) - 1=(n:Int) - 1 - ((k+1:Nat):Int);omega) rfl
  (repeat' first|intro _|(refine go _ ?_ ?_ ?_)|(refine go _ ?_ ?_)|(with_reducible apply And.intro))
  all_goals first|omega|exact e2 _ (nS (by assumption))|exact e2 _ (uH (by assumption))
 ·have e:k=n:=by omega
  subst e
  simp only[show (k:Int) - 1 - (k:Int) = -1 by omega,sS]
  (repeat' first|intro _|(refine go _ ?_ ?_ ?_)|(refine go _ ?_ ?_)|(with_reducible apply And.intro))
  all_goals first|omega|trivial|rfl
theorem aQP:Con.Holds Tryz.prog pP:=aQ aR (aG aGR aO) aQS aS1
def vJ:Con:=⟨97,aF,tI,[.val ⟨true,aF,[]⟩],[⟨false,tI,[0]⟩],false,none,
 ((fun _=>True):(bL)→Prop),
 ((fun x=>iA x):(bL)→(Int))⟩
def aFO:T:=.call 0 (.Z 0) <|
 .bEM .not (.Z 1) <|
 .ite (.Z 2) (
  .ret (.ci .i64 0)) (
  .bEM (.bEQ 78 bC) (.bEN aF tI (.Z 0) (.ci .i64 0)) <|
  .ret (aI bC 1 (.Z 3)))
theorem bAO:bJ Tryz.prog [cH] vJ false 3000 ⟨[],[]⟩ = .ok aFO:=by kernel_rfl
theorem aYE (x:bL) (hx:okD aF x) (hp:(fun _=>True) x):aFO.wp [cH] [⟨aF,x⟩] [] (fun v=>v.as tI=(fun x=>iA x) x):=by
 delta aFO cH;refine eE ?_
 simp only[Bool.not_eq_true',Bool.not_eq_false']
 refine ⟨fun h=>?_,fun h=>?_⟩
 ·unfold iA;rw[h];rfl
 ·have:=(bA x).1 h
  refine ⟨by omega,fun _=>?_⟩
  unfold iA;rw[if_pos h];rfl
theorem aYW:Con.Holds Tryz.prog vJ:=aQ aR (aG nD aO) bAO aYE
def sA:Con:=⟨95,aF,tI,[.val ⟨true,aF,[]⟩],[⟨false,tI,[0]⟩],false,none,
 ((fun _=>True):(bL)→Prop),
 ((fun x=>dJ x):(bL)→(Int))⟩
def aCC:T:=.call 0 (.Z 0) <|
 .bEM .not (.Z 1) <|
 .ite (.Z 2) (
  .ret (.ci .i64 0)) (
  .bEM (.bEP 78 bC) (.Z 0) <|
  .bEM (.ar .sub .i64) (.bEN tI tI (.Z 3) (.ci .i64 1)) <|
  .bEM (.bEQ 78 bC) (.bEN aF tI (.Z 0) (.Z 4)) <|
  .ret (aI bC 2 (.Z 5)))
theorem aWU:bJ Tryz.prog [cH] sA false 3000 ⟨[],[]⟩ = .ok aCC:=by kernel_rfl
theorem aXB (x:bL) (hx:okD aF x) (hp:(fun _=>True) x):aCC.wp [cH] [⟨aF,x⟩] [] (fun v=>v.as tI=(fun x=>dJ x) x):=by
 delta aCC cH;refine eE ?_
 simp only[Bool.not_eq_true',Bool.not_eq_false']
 refine ⟨fun h=>?_,fun h=>?_⟩
 ·unfold dJ;rw[h];rfl
 ·have:=(bA x).1 h
  refine fun _=>⟨by omega,fun _=>⟨by omega,fun _=>?_⟩⟩
  unfold dJ;rw[if_pos h,sV];rfl
theorem aVF:Con.Holds Tryz.prog sA:=aQ aR (aG nD aO) aWU aXB
end
end Go.Proofs.YtdeobhdbmehpgaaGreat
