/- CoreR: lemmas. No conditions. -/
import Derived.Test.YtpafjioccjpmfaaGreatCore7
namespace Go.Proofs.YtpafjioccjpmfaaGreat
open Go.ChangeShapes Go.WideShapes Go.ChangeAt Go.RowKit Go.Deep
set_option linter.unusedVariables false
set_option linter.unusedSimpArgs false
theorem bBE {s:bG} {m:Int} (h:dP s=false∨eE s.2.2.2.2.2.1 m<0):s=oK s m:=by
 unfold oK;rw[if_neg]
 rintro ⟨h1,h2⟩
 rcases h with h|h
 ·rw[h] at h1;cases h1
 ·omega
theorem aVZ {s:bG} {m:Int} (h:dP s=true) (h2:0≤eE s.2.2.2.2.2.1 m):(s.1,s.2.1,s.2.2.1,s.2.2.2.1,s.2.2.2.2.1,s.2.2.2.2.2.1,(jC s.2.2.1 ((s.2.2.2.2.2.1.getD (eE s.2.2.2.2.2.1 m).toNat (aP aL)).2.getD 0 []) s.2.2.1.length).1,s.2.2.2.2.2.2.2)=oK s m:=by
 unfold oK;rw[if_pos ⟨h,h2⟩]
theorem aID {s:bG} (h:dP s=true) {k:Nat} (hk:k<s.2.2.2.2.2.1.length):0<(s.2.2.2.2.2.1.getD k (aP aL)).2.length∧cN ((s.2.2.2.2.2.1.getD k (aP aL)).2.getD 0 []) (dM s.2.2.1)=true:=by
 have hm:=(cD s).1 h
 have h4:=hm.2.2.2.1
 rw[List.all_eq_true] at h4
 have h5:=(sE _ _ _).1 (h4 _ (List.getElem_mem hk))
 have h8:=(bM _).1 hm.1
 have h6:=h5.2 0 (by unfold aCS;split <;> omega)
 rw[aW hk]
 refine ⟨by have h7:=h5.1;unfold aCS at h7;split at h7 <;> omega,?_⟩
 have e:gI s.2.2.1 0=dM s.2.2.1:=by unfold gI dM;rw[if_pos hm.1,if_pos (by omega)]
 rw[← e];exact h6
noncomputable def mP:Con:=⟨76,(.bPW aA tI),aA,[.val ⟨true,aA,[]⟩,.val ⟨false,tI,[]⟩],[⟨true,aA,[0,2,2,0,0,2,2,2,2,2,2,2,0,0]⟩],false,none,
 ((fun x=>bS aA x.1≤1000000000):(bG × Int)→Prop),
 ((fun x=>oK x.1 x.2):(bG × Int)→(bG))⟩
def vL:T:=.call 0 (.p1 aA tI (.Z 0)) <|.call 1 (.bPY (.slice 104 aL) tI (aH aA 5 (.p1 aA tI (.Z 0))) (aS (.bPW aA tI) 1 (.Z 0))) <|.call 2 (.p1 aA tI (.Z 0)) <|
 .bPX .not (.Z 3) <|
 .ite (.Z 4) (
  .ret (.Z 1)) (
  .bPX (.cmp .lss .i64) (.bPY tI tI (.Z 2) (.ci .i64 0)) <|
  .ite (.Z 5) (
   .ret (.Z 1)) (
   .bPX (.bQ1 104 aL) (.bPY (.slice 104 aL) tI (aH aA 5 (.p1 aA tI (.Z 0))) (.Z 2)) <|
   .bPX (.bQ1 134 aB) (.bPY aO tI (aS aL 1 (.Z 6)) (.ci .i64 0)) <|
   .call 3 (.p1 aA tI (.Z 0)) <|
   .call 4 (.bPY aE aB (.Z 8) (.Z 7)) <|
   .ret (bP aA [(.p1 tI gO (.Z 1)),(aH aA 1 (.Z 1)),(aH aA 2 (.Z 1)),(aH aA 3 (.Z 1)),(aH aA 4 (.Z 1)),(aH aA 5 (.Z 1)),(.p1 aO .bool (.Z 9)),(aS aA 7 (.Z 1))])))
set_option maxRecDepth 100000 in
theorem aO3:bW Tryz.prog [dI,eL,eG,eF,lK] mP false 3000 ⟨[],[]⟩ = .ok vL:=by kernel_rfl
theorem aNX (x:bG × Int) (hx:okD (.bPW aA tI) x) (hp:(fun x=>bS aA x.1≤1000000000) x):vL.wp [dI,eL,eG,eF,lK] [⟨(.bPW aA tI),x⟩] [] (fun v=>v.as aA=(fun x=>oK x.1 x.2) x):=by
 obtain ⟨s,m⟩:=x
 delta vL dI eL eG eF lK;refine dY ?_
 refine eD ?_
 refine ⟨hp,fun _ _=>⟨fun h=>bBE (.inl h),fun h1=>⟨fun h=>bBE (.inr h),fun h2=>?_⟩⟩⟩
 have hf:=aLW s.2.2.2.2.2.1 m s.2.2.2.2.2.1.length
 have hf2:eE s.2.2.2.2.2.1 m<(s.2.2.2.2.2.1.length:Int):=hf.2
 have hs:=aID h1 (k:=(eE s.2.2.2.2.2.1 m).toNat) (by omega)
 have hin:yT s.2.2.1 ((s.2.2.2.2.2.1.getD (eE s.2.2.2.2.2.1 m).toNat (aP aL)).2.getD 0 [])=_:=if_pos ⟨((cD s).1 h1).1,hs.2⟩
 have hy:=aVZ h1 h2
 rw[← hin] at hy
 (repeat' first|intro _|(with_reducible apply And.intro))
 all_goals first|omega|exact hy|skip
theorem aNQ:Con.Holds Tryz.prog mP:=aX aZ (aG pM (aG vW (aG uK (aG uI (aG aJK aT))))) aO3 aNX
end Go.Proofs.YtpafjioccjpmfaaGreat
