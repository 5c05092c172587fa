/- Seq4: trees, and what they say. -/
import Derived.Test.YtmfpkkbhnmkfdaaGreatMat3
namespace Go.Proofs.YtmfpkkbhnmkfdaaGreat
open Go.ChangeShapes Go.WideShapes Go.ChangeAt Go.RowKit Go.Deep
set_option linter.unusedVariables false
set_option linter.unusedSimpArgs false
def rW (y t:List Int):Int × Bool:=((fD (jO eI y t).1 (jO eI y t).1).1.fdiv 2,(jO eI y t).2 || (fD (jO eI y t).1 (jO eI y t).1).2)
def jC (m:List iC) (x:List Int):Nat→dD × Bool
 | 0=>([x],false)
 | k + 1=>((jC m x k).1 ++ [(nE (m.getD k zOp) ((jC m x k).1.getD k [])).1],(jC m x k).2 || (nE (m.getD k zOp) ((jC m x k).1.getD k [])).2)
def tP (m:List iC) (x:List Int):dD × Bool:=if jK m = true∧eX x (mK m) = true then jC m x m.length else ([],false)
def eC (m:List iC) (r:dD) (d:List Int) (n:Nat):Nat→dD × (List Int × Bool)
 | 0=>(List.replicate n [],d,false)
 | k + 1=>((eC m r d n k).1.set (n - 1 - k) (gO (m.getD (n - 1 - k) zOp) (r.getD (n - 1 - k) []) (eC m r d n k).2.1).2.1,(gO (m.getD (n - 1 - k) zOp) (r.getD (n - 1 - k) []) (eC m r d n k).2.1).1,
  (eC m r d n k).2.2 || (gO (m.getD (n - 1 - k) zOp) (r.getD (n - 1 - k) []) (eC m r d n k).2.1).2.2)
def oG (m:List iC) (r:dD) (d:List Int):dD × (List Int × Bool):=eC m r d m.length m.length
theorem aUJ {x:Int} (h:0≤x):0≤(aF2 x).1:=by show 0≤eD x;unfold eD;omega
theorem aJA {x:Int} (h:0≤x):0≤eD x:=by unfold eD;omega
theorem aWH (x:Int):0≤(eL x x).1:=by
 refine aUJ ?_
 rw [Int.fdiv_eq_ediv_of_nonneg _ (by decide)]
 have h:0≤eD x * eD x:=by
  rcases Int.le_total 0 (eD x) with h | h
  ·exact Int.mul_nonneg h h
  ·exact Int.mul_nonneg_of_nonpos_of_nonpos h h
 omega
theorem aU0 (a:List Int):(k:Nat)→0≤(aCY a a k).1
 | 0=>Int.le_refl _
 | k + 1=>aUJ (Int.add_nonneg (aJA (aU0 a k)) (aJA (aWH _)))
theorem aX4 (a:List Int):0≤(fD a a).1:=by
 unfold fD;split
 ·exact aU0 a _
 ·exact Int.le_refl _
theorem bBP {x:Int} (h:0≤x):x.tdiv 2 = x.fdiv 2:=by rw [Int.fdiv_eq_ediv_of_nonneg _ (by decide),Int.tdiv_eq_ediv_of_nonneg h]
theorem oY (m:List iC) (x:List Int):(k:Nat)→(jC m x k).1.length = k + 1
 | 0=>rfl
 | k + 1=>by rw [jC,List.length_append,oY m x k];rfl
theorem yF (m:List iC) (r:dD) (d:List Int) (n:Nat):(k:Nat)→(eC m r d n k).1.length = n
 | 0=>List.length_replicate
 | k + 1=>by rw [eC,List.length_set,yF m r d n k]
noncomputable def pV:Con:=⟨213,aI,(.pair tI .bool),[.val ⟨false,aB,[]⟩,.val ⟨false,aB,[]⟩],[⟨false,tI,[0]⟩,⟨false,.bool,[0]⟩],false,none,
 ((fun _=>True):(cN)→Prop),
 ((fun x=>rW x.1 x.2):(cN)→(Int × Bool))⟩
def aAY:T :=
 .call 0 (.vr 0) <|
 .call 1 (.mk2 aB aB (.p1 aB .bool (.vr 1)) (.p1 aB .bool (.vr 1))) <|
 .prim (.shr .i64 .u64) (.mk2 tI (.int .u64) (.p1 tI .bool (.vr 2)) (.ci .u64 1)) <|
 .ite (aQ (.pair aB .bool) 1 (.vr 1)) (
  .ret (.mk2 tI .bool (.vr 3) (.cb true))) (
  .ret (.mk2 tI .bool (.vr 3) (aQ (.pair tI .bool) 1 (.vr 2))))
set_option maxRecDepth 100000 in
theorem aQ4:bS Tryz.prog [kG,gL] pV false 3000 ⟨[],[]⟩ = .ok aAY:=by kernel_rfl
theorem aR5 (x:cN) (hx:okD aI x) (hp:(fun _=>True) x):aAY.wp [kG,gL] [⟨aI,x⟩] [] (fun v=>v.as (.pair tI .bool) = (fun x=>rW x.1 x.2) x):=by
 delta aAY kG gL;refine eS ?_;try with_reducible exact True.intro
 exact fun _ _=>⟨by omega,fun _=>⟨fun h=>Prod.ext rfl (gP h),fun h=>Prod.ext rfl (kN h)⟩⟩
theorem aRK:Con.Holds Tryz.prog pV:=aT aY (aK aGK (aK aAO aU)) aQ4 fun x hx hp=>aR5 x hx hp
noncomputable def qM:Con:=⟨195,aI,(.pair tI .bool),[.val ⟨false,aB,[]⟩,.val ⟨false,aB,[]⟩],[⟨false,tI,[0]⟩,⟨false,.bool,[0]⟩],false,none,
 ((fun _=>True):(cN)→Prop),
 ((fun x=>rW x.1 x.2):(cN)→(Int × Bool))⟩
def aAV:T :=
 .call 0 (.vr 0) <|
 .call 1 (.mk2 aB aB (.p1 aB .bool (.vr 1)) (.p1 aB .bool (.vr 1))) <|
 .prim (.quo .i64) (.mk2 tI tI (.p1 tI .bool (.vr 2)) (.ci .i64 2)) <|
 .ite (aQ (.pair aB .bool) 1 (.vr 1)) (
  .ret (.mk2 tI .bool (.vr 3) (.cb true))) (
  .ret (.mk2 tI .bool (.vr 3) (aQ (.pair tI .bool) 1 (.vr 2))))
set_option maxRecDepth 100000 in
theorem aRY:bS Tryz.prog [kH,eK] qM false 3000 ⟨[],[]⟩ = .ok aAV:=by kernel_rfl
theorem aTM (x:cN) (hx:okD aI x) (hp:(fun _=>True) x):aAV.wp [kH,eK] [⟨aI,x⟩] [] (fun v=>v.as (.pair tI .bool) = (fun x=>rW x.1 x.2) x):=by
 delta aAV kH eK;refine eS ?_;try with_reducible exact True.intro
 intro _ ho
 have h0:=aX4 (jO eI x.1 x.2).1
 have h1:(fD (jO eI x.1 x.2).1 (jO eI x.1 x.2).1).1≤9223372036854775807:=ho.1.2
 rw [bBP h0]
 have h2:(fD (jO eI x.1 x.2).1 (jO eI x.1 x.2).1).1.fdiv 2 = (fD (jO eI x.1 x.2).1 (jO eI x.1 x.2).1).1 / 2:=Int.fdiv_eq_ediv_of_nonneg _ (by decide)
 exact ⟨⟨by omega,by omega,by omega⟩,fun _=>⟨fun h=>Prod.ext rfl (gP h),fun h=>Prod.ext rfl (kN h)⟩⟩
theorem aR8:Con.Holds Tryz.prog qM:=aT aY (aK aEM (aK uS aU)) aRY fun x hx hp=>aTM x hx hp
noncomputable def jR:Con:=⟨210,(.pair aN aB),(.pair aG .bool),[.val ⟨true,aN,[]⟩,.val ⟨false,aB,[]⟩],[⟨false,aG,[2]⟩,⟨false,.bool,[0]⟩],false,none,
 ((fun _=>True):(dA × cG)→Prop),
 ((fun x=>tP x.1 x.2):(dA × cG)→(dD × Bool))⟩
def aA3:T :=
 .call 0 (.p1 aN aB (.vr 0)) <|
 .prim .not (.vr 1) <|
 .ite (.vr 2) (
  .ret (.mk2 aG .bool (.nl 188 aB) (.cb false))) (
  .call 1 (.p1 aN aB (.vr 0)) <|
  .call 2 (.mk2 aB tI (aQ (.pair aN aB) 1 (.vr 0)) (.vr 3)) <|
  .prim .not (.vr 4) <|
  .ite (.vr 5) (
   .ret (.mk2 aG .bool (.nl 188 aB) (.cb false))) (
   .call 3 (aQ (.pair aN aB) 1 (.vr 0)) <|
   .prim (.lit 188 aB 1) (.vr 6) <|
   .prim (.llen 219 aZ) (.p1 aN aB (.vr 0)) <|
   .loop (.pair tI (.pair .bool aG)) (bF (.pair tI (.pair .bool aG)) [(.ci .i64 0),(.cb false),(.vr 7)]) <|
    .prim (.cmp .lss .i64) (.mk2 tI tI (.p1 tI (.pair .bool aG) (.vr 9)) (.vr 8)) <|
    .ite (.vr 10) (
     .prim (.lidx 219 aZ) (.mk2 aN tI (.p1 aN aB (.vr 0)) (.p1 tI (.pair .bool aG) (.vr 9))) <|
     .prim (.lidx 188 aB) (.mk2 aG tI (aQ (.pair tI (.pair .bool aG)) 2 (.vr 9)) (.p1 tI (.pair .bool aG) (.vr 9))) <|
     .prim (.lidx 188 aB) (.mk2 aG tI (aQ (.pair tI (.pair .bool aG)) 2 (.vr 9)) (.p1 tI (.pair .bool aG) (.vr 9))) <|
     .call 4 (.mk2 aZ aB (.vr 11) (.vr 13)) <|
     .prim (.lit 188 aB 1) (.p1 aB .bool (.vr 14)) <|
     .prim (.lapp 188 aB 24) (.mk2 aG aG (aQ (.pair tI (.pair .bool aG)) 2 (.vr 9)) (.vr 15)) <|
     .ite (aJ (.pair tI (.pair .bool aG)) 1 (.vr 9)) (
      .prim (.ar .add .i64) (.mk2 tI tI (.p1 tI (.pair .bool aG) (.vr 9)) (.ci .i64 1)) <|
      .again 0 (bF (.pair tI (.pair .bool aG)) [(.vr 17),(.cb true),(.vr 16)])) (
      .prim (.ar .add .i64) (.mk2 tI tI (.p1 tI (.pair .bool aG) (.vr 9)) (.ci .i64 1)) <|
      .again 0 (bF (.pair tI (.pair .bool aG)) [(.vr 17),(aQ (.pair aB .bool) 1 (.vr 14)),(.vr 16)]))) (
     .ret (.mk2 aG .bool (aQ (.pair tI (.pair .bool aG)) 2 (.vr 9)) (aJ (.pair tI (.pair .bool aG)) 1 (.vr 9))))))
set_option maxRecDepth 100000 in
theorem aSP:bS Tryz.prog [dW,kD,bV,bN,lA] jR false 3000 ⟨[(2984,4009,mL 26 12 ++ [.dr 2,.dr 0,.dr 1,.tm 29 0,.tm 7 0,.sl 3])],[(2991,4006,[23],[]),(2971,12015,[],[6])]⟩ = .ok aA3:=by kernel_rfl
theorem aRZ (x:dA × cG) (hx:okD (.pair aN aB) x) (hp:(fun _=>True) x):aA3.wp [dW,kD,bV,bN,lA] [⟨(.pair aN aB),x⟩] [] (fun v=>v.as (.pair aG .bool) = (fun x=>tP x.1 x.2) x):=by
 obtain ⟨m,v⟩:=x
 delta aA3 dW kD bV bN lA;refine eS ?_;try with_reducible exact True.intro
 simp only [Bool.not_eq_true',Bool.not_eq_false']
 refine ⟨fun h=>?_,fun h1 _=>⟨fun h=>?_,fun h2=>?_⟩⟩
 ·unfold tP;rw [if_neg (by rw [h];simp)]
 ·unfold tP;rw [if_neg (by rw [h];simp)]
 ·have hv:=(cJ v).1 ((bY _ _).1 h2).1
  have hm:=(cK m).1 h1
  rw [show tP m v = _ from if_pos ⟨h1,h2⟩]
  refine ⟨by omega,fun _ _ _=>?_⟩
  refine dG (fun k=>((k:Int),(jC m v k).2,(jC m v k).1)) m.length rfl fun I μ k hk _ go=>?_
  dsimp only
  simp only [oL,oY]
  (repeat' first | intro _ | (refine go _ ?_ ?_ ?_) | (refine go _ ?_ ?_) | (with_reducible apply And.intro))
  all_goals first | omega | (unfold maxLen;omega) | exact Prod.ext rfl (Prod.ext (gP (by assumption)) rfl) | exact Prod.ext rfl (Prod.ext (kN (by assumption)) rfl) | (have e:k = m.length:=(by omega);subst e;rfl)
theorem aGZ:Con.Holds Tryz.prog jR:=aT aY (aK qW (aK aH1 (aK jG (aK fW (aK aHU aU))))) aSP fun x hx hp=>aRZ x hx hp
noncomputable def gV:Con:=⟨194,(.pair aN aB),(.pair aG .bool),[.val ⟨false,aN,[]⟩,.val ⟨false,aB,[]⟩],[⟨false,aG,[2]⟩,⟨false,.bool,[0]⟩],false,none,
 ((fun x=>iA x.2 = true∧List.length x.1≤8):(dA × cG)→Prop),
 ((fun x=>jC x.1 x.2 (x.1:List iC).length):(dA × cG)→(dD × Bool))⟩
def uM:T :=
 .prim (.lapp 3 tI 8) (.mk2 aB aB (.nl 3 tI) (aQ (.pair aN aB) 1 (.vr 0))) <|
 .prim (.lit 188 aB 1) (.vr 1) <|
 .loop (.pair tI (.pair .bool aG)) (bF (.pair tI (.pair .bool aG)) [(.ci .i64 0),(.cb false),(.vr 2)]) <|
  .prim (.llen 219 aZ) (.p1 aN aB (.vr 0)) <|
  .prim (.cmp .lss .i64) (.mk2 tI tI (.p1 tI (.pair .bool aG) (.vr 3)) (.vr 4)) <|
  .ite (.vr 5) (
   .prim (.lidx 219 aZ) (.mk2 aN tI (.p1 aN aB (.vr 0)) (.p1 tI (.pair .bool aG) (.vr 3))) <|
   .prim (.lidx 188 aB) (.mk2 aG tI (aQ (.pair tI (.pair .bool aG)) 2 (.vr 3)) (.p1 tI (.pair .bool aG) (.vr 3))) <|
   .prim (.lidx 188 aB) (.mk2 aG tI (aQ (.pair tI (.pair .bool aG)) 2 (.vr 3)) (.p1 tI (.pair .bool aG) (.vr 3))) <|
   .call 0 (.mk2 aZ aB (.vr 6) (.vr 8)) <|
   .prim (.lit 188 aB 1) (.p1 aB .bool (.vr 9)) <|
   .prim (.lapp 188 aB 24) (.mk2 aG aG (aQ (.pair tI (.pair .bool aG)) 2 (.vr 3)) (.vr 10)) <|
   .ite (aJ (.pair tI (.pair .bool aG)) 1 (.vr 3)) (
    .prim (.ar .add .i64) (.mk2 tI tI (.p1 tI (.pair .bool aG) (.vr 3)) (.ci .i64 1)) <|
    .again 0 (bF (.pair tI (.pair .bool aG)) [(.vr 12),(.cb true),(.vr 11)])) (
    .prim (.ar .add .i64) (.mk2 tI tI (.p1 tI (.pair .bool aG) (.vr 3)) (.ci .i64 1)) <|
    .again 0 (bF (.pair tI (.pair .bool aG)) [(.vr 12),(aQ (.pair aB .bool) 1 (.vr 9)),(.vr 11)]))) (
   .ret (.mk2 aG .bool (aQ (.pair tI (.pair .bool aG)) 2 (.vr 3)) (aJ (.pair tI (.pair .bool aG)) 1 (.vr 3))))
set_option maxRecDepth 100000 in
theorem aM0:bS Tryz.prog [kX] gV false 3000 ⟨[(2989,1003,mL 15 11 ++ [.dr 1,.tm 8 0,.tm 7 0,.sl 2])],[(2996,1001,[13],[]),(2978,3010,[],[3])]⟩ = .ok uM:=by kernel_rfl
theorem aL0 (x:dA × cG) (hx:okD (.pair aN aB) x) (hp:(fun x=>iA x.2 = true∧List.length x.1≤8) x):uM.wp [kX] [⟨(.pair aN aB),x⟩] [] (fun v=>v.as (.pair aG .bool) = (fun x=>jC x.1 x.2 (x.1:List iC).length) x):=by
 obtain ⟨m,v⟩:=x
 obtain ⟨h1,hm⟩:iA v = true∧m.length≤8:=hp
 have hv:=(cJ v).1 h1
 delta uM kX;refine eS ?_;try with_reducible exact True.intro
 (refine gR ?_;try with_reducible exact True.intro)
 refine ⟨⟨by omega,by unfold maxLen;omega⟩,fun _ _=>?_⟩
 ·skip
  refine dG (fun k=>((k:Int),(jC m v k).2,(jC m v k).1)) m.length rfl fun I μ k hk _ go=>?_
  dsimp only
  simp only [oL,oY]
  (repeat' first | intro _ | (refine go _ ?_ ?_ ?_) | (refine go _ ?_ ?_) | (with_reducible apply And.intro))
  all_goals first | omega | (unfold maxLen;omega) | exact Prod.ext rfl (Prod.ext (gP (by assumption)) rfl) | exact Prod.ext rfl (Prod.ext (kN (by assumption)) rfl) | (have e:k = m.length:=(by omega);subst e;rfl)
theorem aBI:Con.Holds Tryz.prog gV:=aT aY (aK aHP aU) aM0 fun x hx hp=>aL0 x hx hp
noncomputable def qE:Con:=⟨218,(.pair aN (.pair aG aB)),(.pair aG (.pair aB .bool)),[.val ⟨false,aN,[]⟩,.val ⟨false,aG,[]⟩,.val ⟨false,aB,[1]⟩],[⟨false,aG,[0]⟩,⟨false,aB,[0]⟩,⟨false,.bool,[0]⟩],false,none,
 ((fun x=>List.length x.1≤8∧List.length x.1≤List.length x.2.1):(dA × (dD × cG))→Prop),
 ((fun x=>oG x.1 x.2.1 x.2.2):(dA × (dD × cG))→(dD × (cG × Bool)))⟩
def aA1:T :=
 .prim (.llen 219 aZ) (.p1 aN (.pair aG aB) (.vr 0)) <|
 .prim (.rep 188 aB 24) (.vr 1) <|
 .prim (.llen 219 aZ) (.p1 aN (.pair aG aB) (.vr 0)) <|
 .prim (.ar .sub .i64) (.mk2 tI tI (.vr 3) (.ci .i64 1)) <|
 .loop (.pair tI (.pair .bool (.pair aB (.pair aG aB)))) (bF (.pair tI (.pair .bool (.pair aB (.pair aG aB)))) [(.vr 4),(.cb false),(aQ (.pair aN (.pair aG aB)) 2 (.vr 0)),(.vr 2),(aQ (.pair aN (.pair aG aB)) 2 (.vr 0))]) <|
  .prim (.cmp .geq .i64) (.mk2 tI tI (.p1 tI (.pair .bool (.pair aB (.pair aG aB))) (.vr 5)) (.ci .i64 0)) <|
  .ite (.vr 6) (
   .prim (.lidx 219 aZ) (.mk2 aN tI (.p1 aN (.pair aG aB) (.vr 0)) (.p1 tI (.pair .bool (.pair aB (.pair aG aB))) (.vr 5))) <|
   .prim (.lidx 188 aB) (.mk2 aG tI (aJ (.pair aN (.pair aG aB)) 1 (.vr 0)) (.p1 tI (.pair .bool (.pair aB (.pair aG aB))) (.vr 5))) <|
   .call 0 (bF (.pair aZ aI) [(.vr 7),(.vr 8),(aJ (.pair tI (.pair .bool (.pair aB (.pair aG aB)))) 2 (.vr 5))]) <|
   .prim (.lidx 188 aB) (.mk2 aG tI (aJ (.pair tI (.pair .bool (.pair aB (.pair aG aB)))) 3 (.vr 5)) (.p1 tI (.pair .bool (.pair aB (.pair aG aB))) (.vr 5))) <|
   .prim (.lset 188 aB) (bF (.pair aG aD) [(aJ (.pair tI (.pair .bool (.pair aB (.pair aG aB)))) 3 (.vr 5)),(.p1 tI (.pair .bool (.pair aB (.pair aG aB))) (.vr 5)),(aJ (.pair aB (.pair aB .bool)) 1 (.vr 9))]) <|
   .ite (aJ (.pair tI (.pair .bool (.pair aB (.pair aG aB)))) 1 (.vr 5)) (
    .prim (.ar .sub .i64) (.mk2 tI tI (.p1 tI (.pair .bool (.pair aB (.pair aG aB))) (.vr 5)) (.ci .i64 1)) <|
    .again 0 (bF (.pair tI (.pair .bool (.pair aB (.pair aG aB)))) [(.vr 12),(.cb true),(.p1 aB (.pair aB .bool) (.vr 9)),(.vr 11),(.p1 aB (.pair aB .bool) (.vr 9))])) (
    .prim (.ar .sub .i64) (.mk2 tI tI (.p1 tI (.pair .bool (.pair aB (.pair aG aB))) (.vr 5)) (.ci .i64 1)) <|
    .again 0 (bF (.pair tI (.pair .bool (.pair aB (.pair aG aB)))) [(.vr 12),(aQ (.pair aB (.pair aB .bool)) 2 (.vr 9)),(.p1 aB (.pair aB .bool) (.vr 9)),(.vr 11),(.p1 aB (.pair aB .bool) (.vr 9))]))) (
   .ret (bF (.pair aG (.pair aB .bool)) [(aJ (.pair tI (.pair .bool (.pair aB (.pair aG aB)))) 3 (.vr 5)),(aJ (.pair tI (.pair .bool (.pair aB (.pair aG aB)))) 2 (.vr 5)),(aJ (.pair tI (.pair .bool (.pair aB (.pair aG aB)))) 1 (.vr 5))]))
set_option maxRecDepth 100000 in
theorem aSK:bS Tryz.prog [jS] qE false 3000 ⟨[(2989,1005,mL 20 15 ++ [.tm 11 0,.tm 10 0,.tm 2 0,.sl 2,.sl 1])],[(2978,3010,[],[4])]⟩ = .ok aA1:=by kernel_rfl
theorem aQX (x:dA × (dD × cG)) (hx:okD (.pair aN (.pair aG aB)) x) (hp:(fun x=>List.length x.1≤8∧List.length x.1≤List.length x.2.1) x):aA1.wp [jS] [⟨(.pair aN (.pair aG aB)),x⟩] [] (fun v=>v.as (.pair aG (.pair aB .bool)) = (fun x=>oG x.1 x.2.1 x.2.2) x):=by
 obtain ⟨m,r,d⟩:=x
 obtain ⟨hm,hr⟩:m.length≤8∧m.length≤r.length:=hp
 delta aA1 jS;refine eS ?_;try with_reducible exact True.intro
 (refine gR ?_;try with_reducible exact True.intro)
 obtain ⟨n,hn⟩:∃ n,n = m.length:=⟨_,rfl⟩
 rw [show oG m r d = eC m r d n n by rw [hn];rfl,← hn]
 refine fun _=>⟨⟨by omega,by omega,by omega⟩,fun _ _=>⟨by omega,fun _=>?_⟩⟩
 refine dG (fun k=>((n:Int) - 1 - (k:Int),(eC m r d n k).2.2,(eC m r d n k).2.1,(eC m r d n k).1,(eC m r d n k).2.1)) n (by show (_,_) = (_,_);simp only [eC,Int.natCast_zero,Int.sub_zero];rfl) fun I μ k hk _ go=>?_
 dsimp only
 have hgl:=yF m r d n k
 by_cases hkn:k < n
 ·obtain ⟨j,hj⟩:∃ j,j = n - 1 - k:=⟨_,rfl⟩
  have e:(n:Int) - 1 - (k:Int) = (j:Int):=by omega
  rw [e] at go
  simp only [e,oL]
  have e2:∀ (F:Bool) (hF:F = ((eC m r d n k).2.2 || (gO (m.getD j zOp) (r.getD j []) (eC m r d n k).2.1).2.2)),((j:Int) - 1,F,(gO (m.getD j zOp) (r.getD j []) (eC m r d n k).2.1).1,(eC m r d n k).1.set j (gO (m.getD j zOp) (r.getD j []) (eC m r d n k).2.1).2.1,(gO (m.getD j zOp) (r.getD j []) (eC m r d n k).2.1).1) = ((n:Int) - 1 - ((k + 1:Nat):Int),(eC m r d n (k + 1)).2.2,(eC m r d n (k + 1)).2.1,(eC m r d n (k + 1)).1,(eC m r d n (k + 1)).2.1):=fun F hF=>by
   rw [hF,eC,← hj]
   exact Prod.ext (by show (j:Int) - 1 = (n:Int) - 1 - ((k + 1:Nat):Int);omega) rfl
  (repeat' first | intro _ | (refine go _ ?_ ?_ ?_) | (refine go _ ?_ ?_) | (with_reducible apply And.intro))
  all_goals first | omega | exact e2 _ (gP (by assumption)) | exact e2 _ (kN (by assumption))
 ·have e:k = n:=by omega
  subst e
  simp only [show (k:Int) - 1 - (k:Int) = -1 by omega,oL]
  (repeat' first | intro _ | (refine go _ ?_ ?_ ?_) | (refine go _ ?_ ?_) | (with_reducible apply And.intro))
  all_goals first | omega | trivial | rfl
theorem aQS:Con.Holds Tryz.prog qE:=aT aY (aK aET aU) aSK fun x hx hp=>aQX x hx hp
noncomputable def pP:Con:=⟨198,(.pair aN (.pair aG aB)),(.pair aG (.pair aB .bool)),[.val ⟨false,aN,[]⟩,.val ⟨false,aG,[]⟩,.val ⟨false,aB,[]⟩],[⟨false,aG,[0]⟩,⟨false,aB,[0]⟩,⟨false,.bool,[0]⟩],true,none,
 ((fun x=>List.length x.1≤8∧List.length x.1≤List.length x.2.1):(dA × (dD × cG))→Prop),
 ((fun x=>oG x.1 x.2.1 x.2.2):(dA × (dD × cG))→(dD × (cG × Bool)))⟩
def aAS:T :=
 .prim (.llen 219 aZ) (.p1 aN (.pair aG aB) (.vr 0)) <|
 .prim (.rep 188 aB 24) (.vr 1) <|
 .prim (.llen 219 aZ) (.p1 aN (.pair aG aB) (.vr 0)) <|
 .prim (.ar .sub .i64) (.mk2 tI tI (.vr 3) (.ci .i64 1)) <|
 .loop (.pair tI (.pair .bool (.pair aB aG))) (bF (.pair tI (.pair .bool (.pair aB aG))) [(.vr 4),(.cb false),(aQ (.pair aN (.pair aG aB)) 2 (.vr 0)),(.vr 2)]) <|
  .prim (.cmp .geq .i64) (.mk2 tI tI (.p1 tI (.pair .bool (.pair aB aG)) (.vr 5)) (.ci .i64 0)) <|
  .ite (.vr 6) (
   .prim (.lidx 219 aZ) (.mk2 aN tI (.p1 aN (.pair aG aB) (.vr 0)) (.p1 tI (.pair .bool (.pair aB aG)) (.vr 5))) <|
   .prim (.lidx 188 aB) (.mk2 aG tI (aJ (.pair aN (.pair aG aB)) 1 (.vr 0)) (.p1 tI (.pair .bool (.pair aB aG)) (.vr 5))) <|
   .call 0 (bF (.pair aZ aI) [(.vr 7),(.vr 8),(aJ (.pair tI (.pair .bool (.pair aB aG))) 2 (.vr 5))]) <|
   .prim (.lidx 188 aB) (.mk2 aG tI (aQ (.pair tI (.pair .bool (.pair aB aG))) 3 (.vr 5)) (.p1 tI (.pair .bool (.pair aB aG)) (.vr 5))) <|
   .prim (.lset 188 aB) (bF (.pair aG aD) [(aQ (.pair tI (.pair .bool (.pair aB aG))) 3 (.vr 5)),(.p1 tI (.pair .bool (.pair aB aG)) (.vr 5)),(aJ (.pair aB (.pair aB .bool)) 1 (.vr 9))]) <|
   .ite (aJ (.pair tI (.pair .bool (.pair aB aG))) 1 (.vr 5)) (
    .prim (.ar .sub .i64) (.mk2 tI tI (.p1 tI (.pair .bool (.pair aB aG)) (.vr 5)) (.ci .i64 1)) <|
    .again 0 (bF (.pair tI (.pair .bool (.pair aB aG))) [(.vr 12),(.cb true),(.p1 aB (.pair aB .bool) (.vr 9)),(.vr 11)])) (
    .prim (.ar .sub .i64) (.mk2 tI tI (.p1 tI (.pair .bool (.pair aB aG)) (.vr 5)) (.ci .i64 1)) <|
    .again 0 (bF (.pair tI (.pair .bool (.pair aB aG))) [(.vr 12),(aQ (.pair aB (.pair aB .bool)) 2 (.vr 9)),(.p1 aB (.pair aB .bool) (.vr 9)),(.vr 11)]))) (
   .ret (bF (.pair aG (.pair aB .bool)) [(aQ (.pair tI (.pair .bool (.pair aB aG))) 3 (.vr 5)),(aJ (.pair tI (.pair .bool (.pair aB aG))) 2 (.vr 5)),(aJ (.pair tI (.pair .bool (.pair aB aG))) 1 (.vr 5))]))
set_option maxRecDepth 100000 in
theorem aSZ:bS Tryz.prog [jQ] pP false 3000 ⟨[(2989,1005,mL 20 15 ++ [.tm 11 0,.tm 10 0,.tm 2 0,.sl 1])],[(2978,3010,[],[3])]⟩ = .ok aAS:=by kernel_rfl
theorem aQ9 (x:dA × (dD × cG)) (hx:okD (.pair aN (.pair aG aB)) x) (hp:(fun x=>List.length x.1≤8∧List.length x.1≤List.length x.2.1) x):aAS.wp [jQ] [⟨(.pair aN (.pair aG aB)),x⟩] [] (fun v=>v.as (.pair aG (.pair aB .bool)) = (fun x=>oG x.1 x.2.1 x.2.2) x):=by
 obtain ⟨m,r,d⟩:=x
 obtain ⟨hm,hr⟩:m.length≤8∧m.length≤r.length:=hp
 delta aAS jQ;refine eS ?_;try with_reducible exact True.intro
 (refine gR ?_;try with_reducible exact True.intro)
 obtain ⟨n,hn⟩:∃ n,n = m.length:=⟨_,rfl⟩
 rw [show oG m r d = eC m r d n n by rw [hn];rfl,← hn]
 refine fun _=>⟨⟨by omega,by omega,by omega⟩,fun _ _=>⟨by omega,fun _=>?_⟩⟩
 refine dG (fun k=>((n:Int) - 1 - (k:Int),(eC m r d n k).2.2,(eC m r d n k).2.1,(eC m r d n k).1)) n (by show (_,_) = (_,_);simp only [eC,Int.natCast_zero,Int.sub_zero];rfl) fun I μ k hk _ go=>?_
 dsimp only
 have hgl:=yF m r d n k
 by_cases hkn:k < n
 ·obtain ⟨j,hj⟩:∃ j,j = n - 1 - k:=⟨_,rfl⟩
  have e:(n:Int) - 1 - (k:Int) = (j:Int):=by omega
  rw [e] at go
  simp only [e,oL]
  have e2:∀ (F:Bool) (hF:F = ((eC m r d n k).2.2 || (gO (m.getD j zOp) (r.getD j []) (eC m r d n k).2.1).2.2)),((j:Int) - 1,F,(gO (m.getD j zOp) (r.getD j []) (eC m r d n k).2.1).1,(eC m r d n k).1.set j (gO (m.getD j zOp) (r.getD j []) (eC m r d n k).2.1).2.1) = ((n:Int) - 1 - ((k + 1:Nat):Int),(eC m r d n (k + 1)).2.2,(eC m r d n (k + 1)).2.1,(eC m r d n (k + 1)).1):=fun F hF=>by
   rw [hF,eC,← hj]
   exact Prod.ext (by show (j:Int) - 1 = (n:Int) - 1 - ((k + 1:Nat):Int);omega) rfl
  (repeat' first | intro _ | (refine go _ ?_ ?_ ?_) | (refine go _ ?_ ?_) | (with_reducible apply And.intro))
  all_goals first | omega | exact e2 _ (gP (by assumption)) | exact e2 _ (kN (by assumption))
 ·have e:k = n:=by omega
  subst e
  simp only [show (k:Int) - 1 - (k:Int) = -1 by omega,oL]
  (repeat' first | intro _ | (refine go _ ?_ ?_ ?_) | (refine go _ ?_ ?_) | (with_reducible apply And.intro))
  all_goals first | omega | trivial | rfl
theorem aSV:Con.Holds Tryz.prog pP:=aT aY (aK aHD aU) aSZ fun x hx hp=>aQ9 x hx hp
end Go.Proofs.YtmfpkkbhnmkfdaaGreat
