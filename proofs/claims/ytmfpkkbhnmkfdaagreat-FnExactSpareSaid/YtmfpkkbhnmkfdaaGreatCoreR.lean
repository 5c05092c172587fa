/- CoreR: lemmas. No conditions. -/
import Derived.Test.YtmfpkkbhnmkfdaaGreatCore7
namespace Go.Proofs.YtmfpkkbhnmkfdaaGreat
set_option maxRecDepth 100000
open Go.ChangeShapes Go.WideShapes Go.ChangeAt Go.RowKit Go.Deep
set_option linter.unusedVariables false
set_option linter.unusedSimpArgs false
theorem aJL {s:bC} {m:Int} (h:hN s=false∨eH s.2.2.2.2.2.1 m<0):s=sE s m:=by
 unfold sE;rw[if_neg]
 rintro ⟨h1,h2⟩
 rcases h with h|h
 ·rw[h] at h1;cases h1
 ·omega
theorem aWI {s:bC} {m:Int} (h:hN s=true) (h2:0≤eH s.2.2.2.2.2.1 m):(s.1,s.2.1,s.2.2.1,s.2.2.2.1,s.2.2.2.2.1,s.2.2.2.2.2.1,(kW s.2.2.1 ((s.2.2.2.2.2.1.getD (eH s.2.2.2.2.2.1 m).toNat (aX aD)).2.getD 0 []) s.2.2.1.length).1,s.2.2.2.2.2.2.2)=sE s m:=by
 unfold sE;rw[if_pos ⟨h,h2⟩]
theorem aAW {s:bC} (h:hN s=true) {k:Nat} (hk:k<s.2.2.2.2.2.1.length):0<(s.2.2.2.2.2.1.getD k (aX aD)).2.length∧fB ((s.2.2.2.2.2.1.getD k (aX aD)).2.getD 0 []) (lW s.2.2.1)=true:=by
 have hm:=(eW s).1 h
 have h4:=hm.2.2.2.1
 rw[List.all_eq_true] at h4
 have h5:=(aKB _ _ _).1 (h4 _ (List.getElem_mem hk))
 have h8:=(bY _).1 hm.1
 have h6:=h5.2 0 (by unfold aBH;split <;> omega)
 rw[aZ hk]
 refine ⟨by have h7:=h5.1;unfold aBH at h7;split at h7 <;> omega,?_⟩
 have e:gR s.2.2.1 0=lW s.2.2.1:=by unfold gR lW;rw[if_pos hm.1,if_pos (by omega)]
 rw[← e];exact h6
noncomputable def nB:Con:=⟨128,(.bP9 aA tI),aA,[.val ⟨true,aA,[]⟩,.val ⟨false,tI,[]⟩],[⟨true,aA,[0,2,2,0,0,2,2,2,2,2,2,2,0,0]⟩],false,none,
 ((fun x=>aY aA x.1≤1000000000):(bC × Int)→Prop),
 ((fun x=>sE x.1 x.2):(bC × Int)→(bC))⟩
def wE:T:=.call 0 (.p1 aA tI (.Z 0)) <|.call 1 (.bPB (.slice 186 aD) tI (aK aA 5 (.p1 aA tI (.Z 0))) (aQ (.bP9 aA tI) 1 (.Z 0))) <|.call 2 (.p1 aA tI (.Z 0)) <|
 .bPA .not (.Z 3) <|
 .ite (.Z 4) (
  .ret (.Z 1)) (
  .bPA (.cmp .lss .i64) (.bPB tI tI (.Z 2) (.ci .i64 0)) <|
  .ite (.Z 5) (
   .ret (.Z 1)) (
   .bPA (.bPE 186 aD) (.bPB (.slice 186 aD) tI (aK aA 5 (.p1 aA tI (.Z 0))) (.Z 2)) <|
   .bPA (.bPE 188 aB) (.bPB aJ tI (aQ aD 1 (.Z 6)) (.ci .i64 0)) <|
   .call 3 (.p1 aA tI (.Z 0)) <|
   .call 4 (.bPB aE aB (.Z 8) (.Z 7)) <|
   .ret (bG aA [(.p1 tI dA (.Z 1)),(aK aA 1 (.Z 1)),(aK aA 2 (.Z 1)),(aK aA 3 (.Z 1)),(aK aA 4 (.Z 1)),(aK aA 5 (.Z 1)),(.p1 aJ .bool (.Z 9)),(aQ aA 7 (.Z 1))])))
theorem aOS:bN Tryz.prog [dG,eN,eE,eI,lT] nB false 3000 ⟨[],[]⟩ = .ok wE:=by kernel_rfl
theorem aOM (x:bC × Int) (hx:okD (.bP9 aA tI) x) (hp:(fun x=>aY aA x.1≤1000000000) x):wE.wp [dG,eN,eE,eI,lT] [⟨(.bP9 aA tI),x⟩] [] (fun v=>v.as aA=(fun x=>sE x.1 x.2) x):=by
 obtain ⟨s,m⟩:=x
 delta wE dG eN eE eI lT;refine dD ?_
 refine dM ?_
 refine ⟨hp,fun _ _=>⟨fun h=>aJL (.inl h),fun h1=>⟨fun h=>aJL (.inr h),fun h2=>?_⟩⟩⟩
 have hf:=aCJ s.2.2.2.2.2.1 m s.2.2.2.2.2.1.length
 have hf2:eH s.2.2.2.2.2.1 m<(s.2.2.2.2.2.1.length:Int):=hf.2
 have hs:=aAW h1 (k:=(eH s.2.2.2.2.2.1 m).toNat) (by omega)
 have hin:zP s.2.2.1 ((s.2.2.2.2.2.1.getD (eH s.2.2.2.2.2.1 m).toNat (aX aD)).2.getD 0 [])=_:=if_pos ⟨((eW s).1 h1).1,hs.2⟩
 have hy:=aWI h1 h2
 rw[← hin] at hy
 (repeat' first|intro _|(with_reducible apply And.intro))
 all_goals first|omega|exact hy|skip
theorem aOK:Con.Holds Tryz.prog nB:=aS aV (aH pV (aH wT (aH vB (aH vM (aH aMW aT))))) aOS aOM
noncomputable def mZ:Con:=⟨120,(.bP9 aA tI),aA,[.val ⟨true,aA,[]⟩,.val ⟨false,tI,[]⟩],[⟨true,aA,[0,2,2,0,0,2,2,2,2,2,2,2,0,0]⟩],false,none,
 ((fun x=>aY aA x.1≤1000000000):(bC × Int)→Prop),
 ((fun x=>sE x.1 x.2):(bC × Int)→(bC))⟩
def wM:T:=.call 0 (.p1 aA tI (.Z 0)) <|.call 1 (.bPB (.slice 186 aD) tI (aK aA 5 (.p1 aA tI (.Z 0))) (aQ (.bP9 aA tI) 1 (.Z 0))) <|.call 2 (.p1 aA tI (.Z 0)) <|
 .bPA .not (.Z 3) <|
 .ite (.Z 4) (
  .ret (.Z 1)) (
  .bPA (.cmp .lss .i64) (.bPB tI tI (.Z 2) (.ci .i64 0)) <|
  .ite (.Z 5) (
   .ret (.Z 1)) (
   .bPA (.bPE 186 aD) (.bPB (.slice 186 aD) tI (aK aA 5 (.p1 aA tI (.Z 0))) (.Z 2)) <|
   .bPA (.bPE 188 aB) (.bPB aJ tI (aQ aD 1 (.Z 6)) (.ci .i64 0)) <|
   .call 3 (.bPB aE aB (aK aA 2 (.p1 aA tI (.Z 0))) (.Z 7)) <|
   .ret (bG aA [(.p1 tI dA (.Z 1)),(aK aA 1 (.Z 1)),(aK aA 2 (.Z 1)),(aK aA 3 (.Z 1)),(aK aA 4 (.Z 1)),(aK aA 5 (.Z 1)),(.p1 aJ .bool (.Z 8)),(aQ aA 7 (.Z 1))])))
theorem aO6:bN Tryz.prog [eD,eP,eF,jG] mZ false 3000 ⟨[],[]⟩ = .ok wM:=by kernel_rfl
theorem aOY (x:bC × Int) (hx:okD (.bP9 aA tI) x) (hp:(fun x=>aY aA x.1≤1000000000) x):wM.wp [eD,eP,eF,jG] [⟨(.bP9 aA tI),x⟩] [] (fun v=>v.as aA=(fun x=>sE x.1 x.2) x):=by
 obtain ⟨s,m⟩:=x
 delta wM eD eP eF jG;refine dD ?_
 refine dM ?_
 refine ⟨hp,fun _ _=>⟨fun h=>aJL (.inl h),fun h1=>⟨fun h=>aJL (.inr h),fun h2=>?_⟩⟩⟩
 have hf:=aCJ s.2.2.2.2.2.1 m s.2.2.2.2.2.1.length
 have hf2:eH s.2.2.2.2.2.1 m<(s.2.2.2.2.2.1.length:Int):=hf.2
 have hs:=aAW h1 (k:=(eH s.2.2.2.2.2.1 m).toNat) (by omega)
 have hv:=((cI _ _).1 hs.2).1
 have hn8:=(bY _).1 ((eW s).1 h1).1
 have hy:=aWI h1 h2
 (repeat' first|intro _|(with_reducible apply And.intro))
 all_goals first|omega|exact hy|exact ⟨hv,hn8.2.1⟩|exact hv|exact hn8.2.1|skip
theorem aON:Con.Holds Tryz.prog mZ:=aS aV (aH vJ (aH wJ (aH vL (aH aG5 aT)))) aO6 aOY
end Go.Proofs.YtmfpkkbhnmkfdaaGreat
