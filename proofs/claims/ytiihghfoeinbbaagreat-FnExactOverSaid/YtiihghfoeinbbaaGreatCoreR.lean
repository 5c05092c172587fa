/- CoreR: lemmas. No conditions. -/
import Derived.Test.YtiihghfoeinbbaaGreatCore7
namespace Go.Proofs.YtiihghfoeinbbaaGreat
set_option maxRecDepth 100000
open Go.ChangeShapes Go.WideShapes Go.ChangeAt Go.RowKit Go.Deep
set_option linter.unusedVariables false
set_option linter.unusedSimpArgs false
theorem aHZ {s:bC} {m:Int} (h:gS s=false∨dU s.2.2.2.2.2.1 m<0):s=sH s m:=by
 unfold sH;rw[if_neg]
 rintro ⟨h1,h2⟩
 rcases h with h|h
 ·rw[h] at h1;cases h1
 ·omega
theorem aS8 {s:bC} {m:Int} (h:gS s=true) (h2:0≤dU s.2.2.2.2.2.1 m):(s.1,s.2.1,s.2.2.1,s.2.2.2.1,s.2.2.2.2.1,s.2.2.2.2.2.1,(kE s.2.2.1 ((s.2.2.2.2.2.1.getD (dU s.2.2.2.2.2.1 m).toNat (aX aD)).2.getD 0 []) s.2.2.1.length).1,s.2.2.2.2.2.2.2)=sH s m:=by
 unfold sH;rw[if_pos ⟨h,h2⟩]
theorem aA1 {s:bC} (h:gS s=true) {k:Nat} (hk:k<s.2.2.2.2.2.1.length):0<(s.2.2.2.2.2.1.getD k (aX aD)).2.length∧eQ ((s.2.2.2.2.2.1.getD k (aX aD)).2.getD 0 []) (lH s.2.2.1)=true:=by
 have hm:=(eJ s).1 h
 have h4:=hm.2.2.2.1
 rw[List.all_eq_true] at h4
 have h5:=(aIO _ _ _).1 (h4 _ (List.getElem_mem hk))
 have h8:=(bY _).1 hm.1
 have h6:=h5.2 0 (by unfold aAR;split <;> omega)
 rw[aZ hk]
 refine ⟨by have h7:=h5.1;unfold aAR at h7;split at h7 <;> omega,?_⟩
 have e:fW s.2.2.1 0=lH s.2.2.1:=by unfold fW lH;rw[if_pos hm.1,if_pos (by omega)]
 rw[← e];exact h6
noncomputable def mK:Con:=⟨173,(.bMC aA tI),aA,[.val ⟨true,aA,[]⟩,.val ⟨false,tI,[]⟩],[⟨true,aA,[0,2,2,0,0,2,2,2,2,2,2,2,0,0]⟩],false,none,
 ((fun x=>bD aA x.1≤1000000000):(bC × Int)→Prop),
 ((fun x=>sH x.1 x.2):(bC × Int)→(bC))⟩
def uZ:T:=.call 0 (.p1 aA tI (.Z 0)) <|.call 1 (.bME (.slice 206 aD) tI (aJ aA 5 (.p1 aA tI (.Z 0))) (aQ (.bMC aA tI) 1 (.Z 0))) <|.call 2 (.p1 aA tI (.Z 0)) <|
 .bMD .not (.Z 3) <|
 .ite (.Z 4) (
  .ret (.Z 1)) (
  .bMD (.cmp .lss .i64) (.bME tI tI (.Z 2) (.ci .i64 0)) <|
  .ite (.Z 5) (
   .ret (.Z 1)) (
   .bMD (.bMH 206 aD) (.bME (.slice 206 aD) tI (aJ aA 5 (.p1 aA tI (.Z 0))) (.Z 2)) <|
   .bMD (.bMH 156 aB) (.bME aH tI (aQ aD 1 (.Z 6)) (.ci .i64 0)) <|
   .call 3 (.p1 aA tI (.Z 0)) <|
   .call 4 (.bME aE aB (.Z 8) (.Z 7)) <|
   .ret (bE aA [(.p1 tI cY (.Z 1)),(aJ aA 1 (.Z 1)),(aJ aA 2 (.Z 1)),(aJ aA 3 (.Z 1)),(aJ aA 4 (.Z 1)),(aJ aA 5 (.Z 1)),(.p1 aH .bool (.Z 9)),(aQ aA 7 (.Z 1))])))
theorem aML:bL Tryz.prog [dA,eB,dW,dV,lJ] mK false 3000 ⟨[],[]⟩ = .ok uZ:=by kernel_rfl
theorem aLX (x:bC × Int) (hx:okD (.bMC aA tI) x) (hp:(fun x=>bD aA x.1≤1000000000) x):uZ.wp [dA,eB,dW,dV,lJ] [⟨(.bMC aA tI),x⟩] [] (fun v=>v.as aA=(fun x=>sH x.1 x.2) x):=by
 obtain ⟨s,m⟩:=x
 delta uZ dA eB dW dV lJ;refine dD ?_
 refine eE ?_
 refine ⟨hp,fun _ _=>⟨fun h=>aHZ (.inl h),fun h1=>⟨fun h=>aHZ (.inr h),fun h2=>?_⟩⟩⟩
 have hf:=aAY s.2.2.2.2.2.1 m s.2.2.2.2.2.1.length
 have hf2:dU s.2.2.2.2.2.1 m<(s.2.2.2.2.2.1.length:Int):=hf.2
 have hs:=aA1 h1 (k:=(dU s.2.2.2.2.2.1 m).toNat) (by omega)
 have hin:yU s.2.2.1 ((s.2.2.2.2.2.1.getD (dU s.2.2.2.2.2.1 m).toNat (aX aD)).2.getD 0 [])=_:=if_pos ⟨((eJ s).1 h1).1,hs.2⟩
 have hy:=aS8 h1 h2
 rw[← hin] at hy
 (repeat' first|intro _|(with_reducible apply And.intro))
 all_goals first|omega|exact hy|skip
theorem aM5:Con.Holds Tryz.prog mK:=aR aW (aG oP (aG vU (aG uF (aG uE (aG aKY aS))))) aML aLX
noncomputable def mI:Con:=⟨160,(.bMC aA tI),aA,[.val ⟨true,aA,[]⟩,.val ⟨false,tI,[]⟩],[⟨true,aA,[0,2,2,0,0,2,2,2,2,2,2,2,0,0]⟩],false,none,
 ((fun x=>bD aA x.1≤1000000000):(bC × Int)→Prop),
 ((fun x=>sH x.1 x.2):(bC × Int)→(bC))⟩
def vP:T:=.call 0 (.p1 aA tI (.Z 0)) <|.call 1 (.bME (.slice 206 aD) tI (aJ aA 5 (.p1 aA tI (.Z 0))) (aQ (.bMC aA tI) 1 (.Z 0))) <|.call 2 (.p1 aA tI (.Z 0)) <|
 .bMD .not (.Z 3) <|
 .ite (.Z 4) (
  .ret (.Z 1)) (
  .bMD (.cmp .lss .i64) (.bME tI tI (.Z 2) (.ci .i64 0)) <|
  .ite (.Z 5) (
   .ret (.Z 1)) (
   .bMD (.bMH 206 aD) (.bME (.slice 206 aD) tI (aJ aA 5 (.p1 aA tI (.Z 0))) (.Z 2)) <|
   .bMD (.bMH 156 aB) (.bME aH tI (aQ aD 1 (.Z 6)) (.ci .i64 0)) <|
   .call 3 (.bME aE aB (aJ aA 2 (.p1 aA tI (.Z 0))) (.Z 7)) <|
   .ret (bE aA [(.p1 tI cY (.Z 1)),(aJ aA 1 (.Z 1)),(aJ aA 2 (.Z 1)),(aJ aA 3 (.Z 1)),(aJ aA 4 (.Z 1)),(aJ aA 5 (.Z 1)),(.p1 aH .bool (.Z 8)),(aQ aA 7 (.Z 1))])))
theorem aME:bL Tryz.prog [dY,eD,dX,iS] mI false 3000 ⟨[],[]⟩ = .ok vP:=by kernel_rfl
theorem aLY (x:bC × Int) (hx:okD (.bMC aA tI) x) (hp:(fun x=>bD aA x.1≤1000000000) x):vP.wp [dY,eD,dX,iS] [⟨(.bMC aA tI),x⟩] [] (fun v=>v.as aA=(fun x=>sH x.1 x.2) x):=by
 obtain ⟨s,m⟩:=x
 delta vP dY eD dX iS;refine dD ?_
 refine eE ?_
 refine ⟨hp,fun _ _=>⟨fun h=>aHZ (.inl h),fun h1=>⟨fun h=>aHZ (.inr h),fun h2=>?_⟩⟩⟩
 have hf:=aAY s.2.2.2.2.2.1 m s.2.2.2.2.2.1.length
 have hf2:dU s.2.2.2.2.2.1 m<(s.2.2.2.2.2.1.length:Int):=hf.2
 have hs:=aA1 h1 (k:=(dU s.2.2.2.2.2.1 m).toNat) (by omega)
 have hv:=((cF _ _).1 hs.2).1
 have hn8:=(bY _).1 ((eJ s).1 h1).1
 have hy:=aS8 h1 h2
 (repeat' first|intro _|(with_reducible apply And.intro))
 all_goals first|omega|exact hy|exact ⟨hv,hn8.2.1⟩|exact hv|exact hn8.2.1|skip
theorem aMJ:Con.Holds Tryz.prog mI:=aR aW (aG uM (aG uW (aG uD (aG aF3 aS)))) aME aLY
end Go.Proofs.YtiihghfoeinbbaaGreat
