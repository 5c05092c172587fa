/- CoreR: trees, and what they say. -/
import Derived.Test.YtmfpkkbhnmkfdaaGreatCore7
namespace Go.Proofs.YtmfpkkbhnmkfdaaGreat
open Go.ChangeShapes Go.WideShapes Go.ChangeAt Go.RowKit Go.Deep
set_option linter.unusedVariables false
set_option linter.unusedSimpArgs false
theorem aEH {s:bA} {m:Int} (h:fV s = false∨dR s.2.2.2.2.2.1 m < 0):s = qL s m:=by
 unfold qL;rw [if_neg]
 rintro ⟨h1,h2⟩
 rcases h with h | h
 ·rw [h] at h1;cases h1
 ·omega
theorem aMW {s:bA} {m:Int} (h:fV s = true) (h2:0≤dR s.2.2.2.2.2.1 m):(s.1,s.2.1,s.2.2.1,s.2.2.2.1,s.2.2.2.2.1,s.2.2.2.2.2.1,(jC s.2.2.1 ((s.2.2.2.2.2.1.getD (dR s.2.2.2.2.2.1 m).toNat (aS aC)).2.getD 0 []) s.2.2.1.length).1,s.2.2.2.2.2.2.2) = qL s m:=by
 unfold qL;rw [if_pos ⟨h,h2⟩]
theorem wF {s:bA} (h:fV s = true) {k:Nat} (hk:k < s.2.2.2.2.2.1.length):0 < (s.2.2.2.2.2.1.getD k (aS aC)).2.length∧eX ((s.2.2.2.2.2.1.getD k (aS aC)).2.getD 0 []) (mK s.2.2.1) = true:=by
 have hm:=(eF s).1 h
 have h4:=hm.2.2.2.1
 rw [List.all_eq_true] at h4
 have h5:=(aGJ _ _ _).1 (h4 _ (List.getElem_mem hk))
 have h8:=(cK _).1 hm.1
 have h6:=h5.2 0 (by unfold vX;split <;> omega)
 rw [bD hk]
 refine ⟨by have h7:=h5.1;unfold vX at h7;split at h7 <;> omega,?_⟩
 have e:fI s.2.2.1 0 = mK s.2.2.1:=by unfold fI mK;rw [if_pos hm.1,if_pos (by omega)]
 rw [← e];exact h6
noncomputable def kY:Con:=⟨128,(.pair aA tI),aA,[.val ⟨true,aA,[]⟩,.val ⟨false,tI,[]⟩],[⟨true,aA,[0,2,2,0,0,2,2,2,2,2,2,2,0,0]⟩],false,none,
 ((fun x=>aW aA x.1≤1000000000):(bA × Int)→Prop),
 ((fun x=>qL x.1 x.2):(bA × Int)→(bA))⟩
def rM:T :=
 .call 0 (.p1 aA tI (.vr 0)) <|
 .call 1 (.mk2 (.slice 186 aC) tI (aJ aA 5 (.p1 aA tI (.vr 0))) (aQ (.pair aA tI) 1 (.vr 0))) <|
 .call 2 (.p1 aA tI (.vr 0)) <|
 .prim .not (.vr 3) <|
 .ite (.vr 4) (
  .ret (.vr 1)) (
  .prim (.cmp .lss .i64) (.mk2 tI tI (.vr 2) (.ci .i64 0)) <|
  .ite (.vr 5) (
   .ret (.vr 1)) (
   .prim (.lidx 186 aC) (.mk2 (.slice 186 aC) tI (aJ aA 5 (.p1 aA tI (.vr 0))) (.vr 2)) <|
   .prim (.lidx 188 aB) (.mk2 aG tI (aQ aC 1 (.vr 6)) (.ci .i64 0)) <|
   .call 3 (.p1 aA tI (.vr 0)) <|
   .call 4 (.mk2 aN aB (.vr 8) (.vr 7)) <|
   .ret (bF aA [(.p1 tI cT (.vr 1)),(aJ aA 1 (.vr 1)),(aJ aA 2 (.vr 1)),(aJ aA 3 (.vr 1)),(aJ aA 4 (.vr 1)),(aJ aA 5 (.vr 1)),(.p1 aG .bool (.vr 9)),(aQ aA 7 (.vr 1))])))
set_option maxRecDepth 100000 in
theorem aHL:bS Tryz.prog [cW,dZ,dX,dU,jR] kY false 3000 ⟨[],[]⟩ = .ok rM:=by kernel_rfl
theorem aI4 (x:bA × Int) (hx:okD (.pair aA tI) x) (hp:(fun x=>aW aA x.1≤1000000000) x):rM.wp [cW,dZ,dX,dU,jR] [⟨(.pair aA tI),x⟩] [] (fun v=>v.as aA = (fun x=>qL x.1 x.2) x):=by
 obtain ⟨s,m⟩:=x
 delta rM cW dZ dX dU jR;refine eS ?_;try with_reducible exact True.intro
 (refine gR ?_;try with_reducible exact True.intro)
 refine ⟨hp,fun _ _=>⟨fun h=>aEH (.inl h),fun h1=>⟨fun h=>aEH (.inr h),fun h2=>?_⟩⟩⟩
 have hf:=vU s.2.2.2.2.2.1 m s.2.2.2.2.2.1.length
 have hf2:dR s.2.2.2.2.2.1 m < (s.2.2.2.2.2.1.length:Int):=hf.2
 have hs:=wF h1 (k:=(dR s.2.2.2.2.2.1 m).toNat) (by omega)
 have hin:tP s.2.2.1 ((s.2.2.2.2.2.1.getD (dR s.2.2.2.2.2.1 m).toNat (aS aC)).2.getD 0 []) = _:=if_pos ⟨((eF s).1 h1).1,hs.2⟩
 have hy:=aMW h1 h2
 rw [← hin] at hy
 (repeat' first | intro _ | (with_reducible apply And.intro))
 all_goals first | omega | exact hy | skip
theorem aHY:Con.Holds Tryz.prog kY:=aT aY (aK nB (aK sE (aK rI (aK qT (aK aGZ aU))))) aHL fun x hx hp=>aI4 x hx hp
noncomputable def kW:Con:=⟨120,(.pair aA tI),aA,[.val ⟨true,aA,[]⟩,.val ⟨false,tI,[]⟩],[⟨true,aA,[0,2,2,0,0,2,2,2,2,2,2,2,0,0]⟩],false,none,
 ((fun x=>aW aA x.1≤1000000000):(bA × Int)→Prop),
 ((fun x=>qL x.1 x.2):(bA × Int)→(bA))⟩
def rR:T :=
 .call 0 (.p1 aA tI (.vr 0)) <|
 .call 1 (.mk2 (.slice 186 aC) tI (aJ aA 5 (.p1 aA tI (.vr 0))) (aQ (.pair aA tI) 1 (.vr 0))) <|
 .call 2 (.p1 aA tI (.vr 0)) <|
 .prim .not (.vr 3) <|
 .ite (.vr 4) (
  .ret (.vr 1)) (
  .prim (.cmp .lss .i64) (.mk2 tI tI (.vr 2) (.ci .i64 0)) <|
  .ite (.vr 5) (
   .ret (.vr 1)) (
   .prim (.lidx 186 aC) (.mk2 (.slice 186 aC) tI (aJ aA 5 (.p1 aA tI (.vr 0))) (.vr 2)) <|
   .prim (.lidx 188 aB) (.mk2 aG tI (aQ aC 1 (.vr 6)) (.ci .i64 0)) <|
   .call 3 (.mk2 aN aB (aJ aA 2 (.p1 aA tI (.vr 0))) (.vr 7)) <|
   .ret (bF aA [(.p1 tI cT (.vr 1)),(aJ aA 1 (.vr 1)),(aJ aA 2 (.vr 1)),(aJ aA 3 (.vr 1)),(aJ aA 4 (.vr 1)),(aJ aA 5 (.vr 1)),(.p1 aG .bool (.vr 8)),(aQ aA 7 (.vr 1))])))
set_option maxRecDepth 100000 in
theorem aI2:bS Tryz.prog [dV,dY,dT,gV] kW false 3000 ⟨[],[]⟩ = .ok rR:=by kernel_rfl
theorem aHK (x:bA × Int) (hx:okD (.pair aA tI) x) (hp:(fun x=>aW aA x.1≤1000000000) x):rR.wp [dV,dY,dT,gV] [⟨(.pair aA tI),x⟩] [] (fun v=>v.as aA = (fun x=>qL x.1 x.2) x):=by
 obtain ⟨s,m⟩:=x
 delta rR dV dY dT gV;refine eS ?_;try with_reducible exact True.intro
 (refine gR ?_;try with_reducible exact True.intro)
 refine ⟨hp,fun _ _=>⟨fun h=>aEH (.inl h),fun h1=>⟨fun h=>aEH (.inr h),fun h2=>?_⟩⟩⟩
 have hf:=vU s.2.2.2.2.2.1 m s.2.2.2.2.2.1.length
 have hf2:dR s.2.2.2.2.2.1 m < (s.2.2.2.2.2.1.length:Int):=hf.2
 have hs:=wF h1 (k:=(dR s.2.2.2.2.2.1 m).toNat) (by omega)
 have hv:=((bY _ _).1 hs.2).1
 have hn8:=(cK _).1 ((eF s).1 h1).1
 have hy:=aMW h1 h2
 (repeat' first | intro _ | (with_reducible apply And.intro))
 all_goals first | omega | exact hy | exact ⟨hv,hn8.2.1⟩ | exact hv | exact hn8.2.1 | skip
theorem aID:Con.Holds Tryz.prog kW:=aT aY (aK rC (aK rS (aK qZ (aK aBI aU)))) aI2 fun x hx hp=>aHK x hx hp
end Go.Proofs.YtmfpkkbhnmkfdaaGreat
