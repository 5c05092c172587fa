/- CoreR: lemmas. No conditions. -/
import Derived.Test.YtabamggdmdednaaGreatCore7
namespace Go.Proofs.YtabamggdmdednaaGreat
set_option maxRecDepth 100000
open Go.ChangeShapes Go.WideShapes Go.ChangeAt Go.RowKit Go.Deep
set_option linter.unusedVariables false
set_option linter.unusedSimpArgs false
theorem aL6 {s:bC} {m:Int} (h:gR s=false∨dX s.2.2.2.2.2.1 m<0):s=uQ s m:=by
 unfold uQ;rw[if_neg]
 rintro ⟨h1,h2⟩
 rcases h with h|h
 ·rw[h] at h1;cases h1
 ·omega
theorem aXS {s:bC} {m:Int} (h:gR s=true) (h2:0≤dX s.2.2.2.2.2.1 m):(s.1,s.2.1,s.2.2.1,s.2.2.2.1,s.2.2.2.2.1,s.2.2.2.2.2.1,(kN s.2.2.1 ((s.2.2.2.2.2.1.getD (dX s.2.2.2.2.2.1 m).toNat (aW aF)).2.getD 0 []) s.2.2.1.length).1,s.2.2.2.2.2.2.2)=uQ s m:=by
 unfold uQ;rw[if_pos ⟨h,h2⟩]
theorem aBL {s:bC} (h:gR s=true) {k:Nat} (hk:k<s.2.2.2.2.2.1.length):0<(s.2.2.2.2.2.1.getD k (aW aF)).2.length∧eQ ((s.2.2.2.2.2.1.getD k (aW aF)).2.getD 0 []) (jT s.2.2.1)=true:=by
 have hm:=(eJ s).1 h
 have h4:=hm.2.2.2.1
 rw[List.all_eq_true] at h4
 have h5:=(aLS _ _ _).1 (h4 _ (List.getElem_mem hk))
 have h8:=(bY _).1 hm.1
 have h6:=h5.2 0 (by unfold aAK;split <;> omega)
 rw[aZ hk]
 refine ⟨by have h7:=h5.1;unfold aAK at h7;split at h7 <;> omega,?_⟩
 have e:gB s.2.2.1 0=jT s.2.2.1:=by unfold gB jT;rw[if_pos hm.1,if_pos (by omega)]
 rw[← e];exact h6
noncomputable def mW:Con:=⟨67,(.bRW aA tI),aA,[.val ⟨true,aA,[]⟩,.val ⟨false,tI,[]⟩],[⟨true,aA,[0,2,2,0,0,2,2,2,2,2,2,2,0,0]⟩],false,none,
 ((fun x=>bM aA x.1≤1000000000):(bC × Int)→Prop),
 ((fun x=>uQ x.1 x.2):(bC × Int)→(bC))⟩
def wE:T:=.call 0 (.p1 aA tI (.Z 0)) <|.call 1 (.bRY (.slice 82 aF) tI (aK aA 5 (.p1 aA tI (.Z 0))) (aP (.bRW aA tI) 1 (.Z 0))) <|.call 2 (.p1 aA tI (.Z 0)) <|
 .bRX .not (.Z 3) <|
 .ite (.Z 4) (
  .ret (.Z 1)) (
  .bRX (.cmp .lss .i64) (.bRY tI tI (.Z 2) (.ci .i64 0)) <|
  .ite (.Z 5) (
   .ret (.Z 1)) (
   .bRX (.bS1 82 aF) (.bRY (.slice 82 aF) tI (aK aA 5 (.p1 aA tI (.Z 0))) (.Z 2)) <|
   .bRX (.bS1 119 aB) (.bRY aL tI (aP aF 1 (.Z 6)) (.ci .i64 0)) <|
   .call 3 (.p1 aA tI (.Z 0)) <|
   .call 4 (.bRY aE aB (.Z 8) (.Z 7)) <|
   .ret (bB aA [(.p1 tI dA (.Z 1)),(aK aA 1 (.Z 1)),(aK aA 2 (.Z 1)),(aK aA 3 (.Z 1)),(aK aA 4 (.Z 1)),(aK aA 5 (.Z 1)),(.p1 aL .bool (.Z 9)),(aP aA 7 (.Z 1))])))
theorem aQ0:bI Tryz.prog [dF,eF,dZ,dY,lH] mW false 3000 ⟨[],[]⟩ = .ok wE:=by kernel_rfl
theorem aPA (x:bC × Int) (hx:okD (.bRW aA tI) x) (hp:(fun x=>bM aA x.1≤1000000000) x):wE.wp [dF,eF,dZ,dY,lH] [⟨(.bRW aA tI),x⟩] [] (fun v=>v.as aA=(fun x=>uQ x.1 x.2) x):=by
 obtain ⟨s,m⟩:=x
 delta wE dF eF dZ dY lH;refine cW ?_
 refine dB ?_
 refine ⟨hp,fun _ _=>⟨fun h=>aL6 (.inl h),fun h1=>⟨fun h=>aL6 (.inr h),fun h2=>?_⟩⟩⟩
 have hf:=aD8 s.2.2.2.2.2.1 m s.2.2.2.2.2.1.length
 have hf2:dX s.2.2.2.2.2.1 m<(s.2.2.2.2.2.1.length:Int):=hf.2
 have hs:=aBL h1 (k:=(dX s.2.2.2.2.2.1 m).toNat) (by omega)
 have hin:zF s.2.2.1 ((s.2.2.2.2.2.1.getD (dX s.2.2.2.2.2.1 m).toNat (aW aF)).2.getD 0 [])=_:=if_pos ⟨((eJ s).1 h1).1,hs.2⟩
 have hy:=aXS h1 h2
 rw[← hin] at hy
 (repeat' first|intro _|(with_reducible apply And.intro))
 all_goals first|omega|exact hy|skip
theorem aPJ:Con.Holds Tryz.prog mW:=aS aV (aI qC (aI wK (aI vA (aI vV (aI aLR aQ))))) aQ0 aPA
noncomputable def mR:Con:=⟨126,(.bRW aA tI),aA,[.val ⟨true,aA,[]⟩,.val ⟨false,tI,[]⟩],[⟨true,aA,[0,2,2,0,0,2,2,2,2,2,2,2,0,0]⟩],false,none,
 ((fun x=>bM aA x.1≤1000000000):(bC × Int)→Prop),
 ((fun x=>uQ x.1 x.2):(bC × Int)→(bC))⟩
def wT:T:=.call 0 (.p1 aA tI (.Z 0)) <|.call 1 (.bRY (.slice 82 aF) tI (aK aA 5 (.p1 aA tI (.Z 0))) (aP (.bRW aA tI) 1 (.Z 0))) <|.call 2 (.p1 aA tI (.Z 0)) <|
 .bRX .not (.Z 3) <|
 .ite (.Z 4) (
  .ret (.Z 1)) (
  .bRX (.cmp .lss .i64) (.bRY tI tI (.Z 2) (.ci .i64 0)) <|
  .ite (.Z 5) (
   .ret (.Z 1)) (
   .bRX (.bS1 82 aF) (.bRY (.slice 82 aF) tI (aK aA 5 (.p1 aA tI (.Z 0))) (.Z 2)) <|
   .bRX (.bS1 119 aB) (.bRY aL tI (aP aF 1 (.Z 6)) (.ci .i64 0)) <|
   .call 3 (.bRY aE aB (aK aA 2 (.p1 aA tI (.Z 0))) (.Z 7)) <|
   .ret (bB aA [(.p1 tI dA (.Z 1)),(aK aA 1 (.Z 1)),(aK aA 2 (.Z 1)),(aK aA 3 (.Z 1)),(aK aA 4 (.Z 1)),(aK aA 5 (.Z 1)),(.p1 aL .bool (.Z 8)),(aP aA 7 (.Z 1))])))
theorem aPS:bI Tryz.prog [eA,eE,eB,jD] mR false 3000 ⟨[],[]⟩ = .ok wT:=by kernel_rfl
theorem aQI (x:bC × Int) (hx:okD (.bRW aA tI) x) (hp:(fun x=>bM aA x.1≤1000000000) x):wT.wp [eA,eE,eB,jD] [⟨(.bRW aA tI),x⟩] [] (fun v=>v.as aA=(fun x=>uQ x.1 x.2) x):=by
 obtain ⟨s,m⟩:=x
 delta wT eA eE eB jD;refine cW ?_
 refine dB ?_
 refine ⟨hp,fun _ _=>⟨fun h=>aL6 (.inl h),fun h1=>⟨fun h=>aL6 (.inr h),fun h2=>?_⟩⟩⟩
 have hf:=aD8 s.2.2.2.2.2.1 m s.2.2.2.2.2.1.length
 have hf2:dX s.2.2.2.2.2.1 m<(s.2.2.2.2.2.1.length:Int):=hf.2
 have hs:=aBL h1 (k:=(dX s.2.2.2.2.2.1 m).toNat) (by omega)
 have hv:=((cI _ _).1 hs.2).1
 have hn8:=(bY _).1 ((eJ s).1 h1).1
 have hy:=aXS h1 h2
 (repeat' first|intro _|(with_reducible apply And.intro))
 all_goals first|omega|exact hy|exact ⟨hv,hn8.2.1⟩|exact hv|exact hn8.2.1|skip
theorem aQ6:Con.Holds Tryz.prog mR:=aS aV (aI vT (aI wO (aI vC (aI aHA aQ)))) aPS aQI
end Go.Proofs.YtabamggdmdednaaGreat
