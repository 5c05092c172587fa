/- CoreR: lemmas. No conditions. -/
import Derived.Test.YtdeobhdbmehpgaaGreatCore7
namespace Go.Proofs.YtdeobhdbmehpgaaGreat
set_option maxRecDepth 100000
open Go.ChangeShapes Go.WideShapes Go.ChangeAt Go.RowKit Go.Deep
set_option linter.unusedVariables false
set_option linter.unusedSimpArgs false
theorem aIT {s:bA} {m:Int} (h:gG s=false∨dU s.2.2.2.2.2.1 m<0):s=rH s m:=by
 unfold rH;rw[if_neg]
 rintro ⟨h1,h2⟩
 rcases h with h|h
 ·rw[h] at h1;cases h1
 ·omega
theorem aUJ {s:bA} {m:Int} (h:gG s=true) (h2:0≤dU s.2.2.2.2.2.1 m):(s.1,s.2.1,s.2.2.1,s.2.2.2.1,s.2.2.2.2.1,s.2.2.2.2.2.1,(jO s.2.2.1 ((s.2.2.2.2.2.1.getD (dU s.2.2.2.2.2.1 m).toNat (aV aD)).2.getD 0 []) s.2.2.1.length).1,s.2.2.2.2.2.2.2)=rH s m:=by
 unfold rH;rw[if_pos ⟨h,h2⟩]
theorem zL {s:bA} (h:gG s=true) {k:Nat} (hk:k<s.2.2.2.2.2.1.length):0<(s.2.2.2.2.2.1.getD k (aV aD)).2.length∧eF ((s.2.2.2.2.2.1.getD k (aV aD)).2.getD 0 []) (iJ s.2.2.1)=true:=by
 have hm:=(eI s).1 h
 have h4:=hm.2.2.2.1
 rw[List.all_eq_true] at h4
 have h5:=(aLQ _ _ _).1 (h4 _ (List.getElem_mem hk))
 have h8:=(bR _).1 hm.1
 have h6:=h5.2 0 (by unfold zV;split <;> omega)
 rw[aZ hk]
 refine ⟨by have h7:=h5.1;unfold zV at h7;split at h7 <;> omega,?_⟩
 have e:fX s.2.2.1 0=iJ s.2.2.1:=by unfold fX iJ;rw[if_pos hm.1,if_pos (by omega)]
 rw[← e];exact h6
noncomputable def mC:Con:=⟨82,(.bNT aA tI),aA,[.val ⟨true,aA,[]⟩,.val ⟨false,tI,[]⟩],[⟨true,aA,[0,2,2,0,0,2,2,2,2,2,2,2,0,0]⟩],false,none,
 ((fun x=>bQ aA x.1≤1000000000):(bA × Int)→Prop),
 ((fun x=>rH x.1 x.2):(bA × Int)→(bA))⟩
def uV:T:=.call 0 (.p1 aA tI (.Z 0)) <|.call 1 (.bNV (.slice 80 aD) tI (aJ aA 5 (.p1 aA tI (.Z 0))) (aO (.bNT aA tI) 1 (.Z 0))) <|.call 2 (.p1 aA tI (.Z 0)) <|
 .bNU .not (.Z 3) <|
 .ite (.Z 4) (
  .ret (.Z 1)) (
  .bNU (.cmp .lss .i64) (.bNV tI tI (.Z 2) (.ci .i64 0)) <|
  .ite (.Z 5) (
   .ret (.Z 1)) (
   .bNU (.bNY 80 aD) (.bNV (.slice 80 aD) tI (aJ aA 5 (.p1 aA tI (.Z 0))) (.Z 2)) <|
   .bNU (.bNY 112 aB) (.bNV aI tI (aO aD 1 (.Z 6)) (.ci .i64 0)) <|
   .call 3 (.p1 aA tI (.Z 0)) <|
   .call 4 (.bNV aK aB (.Z 8) (.Z 7)) <|
   .ret (bB aA [(.p1 tI cU (.Z 1)),(aJ aA 1 (.Z 1)),(aJ aA 2 (.Z 1)),(aJ aA 3 (.Z 1)),(aJ aA 4 (.Z 1)),(aJ aA 5 (.Z 1)),(.p1 aI .bool (.Z 9)),(aO aA 7 (.Z 1))])))
theorem aMA:bM Tryz.prog [dA,eD,dY,dV,lD] mC false 3000 ⟨[],[]⟩ = .ok uV:=by kernel_rfl
theorem aMU (x:bA × Int) (hx:okD (.bNT aA tI) x) (hp:(fun x=>bQ aA x.1≤1000000000) x):uV.wp [dA,eD,dY,dV,lD] [⟨(.bNT aA tI),x⟩] [] (fun v=>v.as aA=(fun x=>rH x.1 x.2) x):=by
 obtain ⟨s,m⟩:=x
 delta uV dA eD dY dV lD;refine dB ?_
 refine dT ?_
 refine ⟨hp,fun _ _=>⟨fun h=>aIT (.inl h),fun h1=>⟨fun h=>aIT (.inr h),fun h2=>?_⟩⟩⟩
 have hf:=zO s.2.2.2.2.2.1 m s.2.2.2.2.2.1.length
 have hf2:dU s.2.2.2.2.2.1 m<(s.2.2.2.2.2.1.length:Int):=hf.2
 have hs:=zL h1 (k:=(dU s.2.2.2.2.2.1 m).toNat) (by omega)
 have hin:xE s.2.2.1 ((s.2.2.2.2.2.1.getD (dU s.2.2.2.2.2.1 m).toNat (aV aD)).2.getD 0 [])=_:=if_pos ⟨((eI s).1 h1).1,hs.2⟩
 have hy:=aUJ h1 h2
 rw[← hin] at hy
 (repeat' first|intro _|(with_reducible apply And.intro))
 all_goals first|omega|exact hy|skip
theorem aNC:Con.Holds Tryz.prog mC:=aS aW (aH oK (aH uD (aH tK (aH tP (aH aJA aR))))) aMA aMU
noncomputable def lS:Con:=⟨99,(.bNT aA tI),aA,[.val ⟨true,aA,[]⟩,.val ⟨false,tI,[]⟩],[⟨true,aA,[0,2,2,0,0,2,2,2,2,2,2,2,0,0]⟩],false,none,
 ((fun x=>bQ aA x.1≤1000000000):(bA × Int)→Prop),
 ((fun x=>rH x.1 x.2):(bA × Int)→(bA))⟩
def uT:T:=.call 0 (.p1 aA tI (.Z 0)) <|.call 1 (.bNV (.slice 80 aD) tI (aJ aA 5 (.p1 aA tI (.Z 0))) (aO (.bNT aA tI) 1 (.Z 0))) <|.call 2 (.p1 aA tI (.Z 0)) <|
 .bNU .not (.Z 3) <|
 .ite (.Z 4) (
  .ret (.Z 1)) (
  .bNU (.cmp .lss .i64) (.bNV tI tI (.Z 2) (.ci .i64 0)) <|
  .ite (.Z 5) (
   .ret (.Z 1)) (
   .bNU (.bNY 80 aD) (.bNV (.slice 80 aD) tI (aJ aA 5 (.p1 aA tI (.Z 0))) (.Z 2)) <|
   .bNU (.bNY 112 aB) (.bNV aI tI (aO aD 1 (.Z 6)) (.ci .i64 0)) <|
   .call 3 (.bNV aK aB (aJ aA 2 (.p1 aA tI (.Z 0))) (.Z 7)) <|
   .ret (bB aA [(.p1 tI cU (.Z 1)),(aJ aA 1 (.Z 1)),(aJ aA 2 (.Z 1)),(aJ aA 3 (.Z 1)),(aJ aA 4 (.Z 1)),(aJ aA 5 (.Z 1)),(.p1 aI .bool (.Z 8)),(aO aA 7 (.Z 1))])))
theorem aM4:bM Tryz.prog [dZ,eB,dX,iN] lS false 3000 ⟨[],[]⟩ = .ok uT:=by kernel_rfl
theorem aNG (x:bA × Int) (hx:okD (.bNT aA tI) x) (hp:(fun x=>bQ aA x.1≤1000000000) x):uT.wp [dZ,eB,dX,iN] [⟨(.bNT aA tI),x⟩] [] (fun v=>v.as aA=(fun x=>rH x.1 x.2) x):=by
 obtain ⟨s,m⟩:=x
 delta uT dZ eB dX iN;refine dB ?_
 refine dT ?_
 refine ⟨hp,fun _ _=>⟨fun h=>aIT (.inl h),fun h1=>⟨fun h=>aIT (.inr h),fun h2=>?_⟩⟩⟩
 have hf:=zO s.2.2.2.2.2.1 m s.2.2.2.2.2.1.length
 have hf2:dU s.2.2.2.2.2.1 m<(s.2.2.2.2.2.1.length:Int):=hf.2
 have hs:=zL h1 (k:=(dU s.2.2.2.2.2.1 m).toNat) (by omega)
 have hv:=((cE _ _).1 hs.2).1
 have hn8:=(bR _).1 ((eI s).1 h1).1
 have hy:=aUJ h1 h2
 (repeat' first|intro _|(with_reducible apply And.intro))
 all_goals first|omega|exact hy|exact ⟨hv,hn8.2.1⟩|exact hv|exact hn8.2.1|skip
theorem aM5:Con.Holds Tryz.prog lS:=aS aW (aH tE (aH uE (aH tS (aH aEK aR)))) aM4 aNG
end Go.Proofs.YtdeobhdbmehpgaaGreat
