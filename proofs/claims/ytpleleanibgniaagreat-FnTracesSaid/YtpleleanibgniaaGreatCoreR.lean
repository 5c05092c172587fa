/- CoreR: lemmas. No conditions. -/
import Derived.Test.YtpleleanibgniaaGreatCore7
namespace Go.Proofs.YtpleleanibgniaaGreat
open Go.ChangeShapes Go.WideShapes Go.ChangeAt Go.RowKit Go.Deep
set_option linter.unusedVariables false
set_option linter.unusedSimpArgs false
theorem aWF {s:bC} {m:Int} (h:hZ s=false∨eG s.2.2.2.2.2.1 m<0):s=oW s m:=by
 unfold oW;rw[if_neg]
 rintro ⟨h1,h2⟩
 rcases h with h|h
 ·rw[h] at h1;cases h1
 ·omega
theorem bC0 {s:bC} {m:Int} (h:hZ s=true) (h2:0≤eG s.2.2.2.2.2.1 m):(s.1,s.2.1,s.2.2.1,s.2.2.2.1,s.2.2.2.2.1,s.2.2.2.2.2.1,(jZ s.2.2.1 ((s.2.2.2.2.2.1.getD (eG s.2.2.2.2.2.1 m).toNat (aS aM)).2.getD 0 []) s.2.2.1.length).1,s.2.2.2.2.2.2.2)=oW s m:=by
 unfold oW;rw[if_pos ⟨h,h2⟩]
theorem aF7 {s:bC} (h:hZ s=true) {k:Nat} (hk:k<s.2.2.2.2.2.1.length):0<(s.2.2.2.2.2.1.getD k (aS aM)).2.length∧gC ((s.2.2.2.2.2.1.getD k (aS aM)).2.getD 0 []) (jG s.2.2.1)=true:=by
 have hm:=(fY s).1 h
 have h4:=hm.2.2.2.1
 rw[List.all_eq_true] at h4
 have h5:=(aV6 _ _ _).1 (h4 _ (List.getElem_mem hk))
 have h8:=(bR _).1 hm.1
 have h6:=h5.2 0 (by unfold aC8;split <;> omega)
 rw[bD hk]
 refine ⟨by have h7:=h5.1;unfold aC8 at h7;split at h7 <;> omega,?_⟩
 have e:lY s.2.2.1 0=jG s.2.2.1:=by unfold lY jG;rw[if_pos hm.1,if_pos (by omega)]
 rw[← e];exact h6
noncomputable def kG:Con:=⟨58,(.bJ2 aA tI),aA,[.val ⟨true,aA,[]⟩,.val ⟨false,tI,[]⟩],[⟨true,aA,[0,2,2,0,0,2,2,2,2,2,2,2,0,0]⟩],false,none,
 ((fun x=>bW aA x.1≤1000000000):(bC × Int)→Prop),
 ((fun x=>oW x.1 x.2):(bC × Int)→(bC))⟩
def rM:T:=.call 0 (.p1 aA tI (.Z 0)) <|.call 1 (.bJ4 (.slice 133 aM) tI (aJ aA 5 (.p1 aA tI (.Z 0))) (aR (.bJ2 aA tI) 1 (.Z 0))) <|.call 2 (.p1 aA tI (.Z 0)) <|
 .bJ3 .not (.Z 3) <|
 .ite (.Z 4) (
  .ret (.Z 1)) (
  .bJ3 (.cmp .lss .i64) (.bJ4 tI tI (.Z 2) (.ci .i64 0)) <|
  .ite (.Z 5) (
   .ret (.Z 1)) (
   .bJ3 (.bJ7 133 aM) (.bJ4 (.slice 133 aM) tI (aJ aA 5 (.p1 aA tI (.Z 0))) (.Z 2)) <|
   .bJ3 (.bJ7 124 aB) (.bJ4 aP tI (aR aM 1 (.Z 6)) (.ci .i64 0)) <|
   .call 3 (.p1 aA tI (.Z 0)) <|
   .call 4 (.bJ4 aD aB (.Z 8) (.Z 7)) <|
   .ret (bJ aA [(.p1 tI fJ (.Z 1)),(aJ aA 1 (.Z 1)),(aJ aA 2 (.Z 1)),(aJ aA 3 (.Z 1)),(aJ aA 4 (.Z 1)),(aJ aA 5 (.Z 1)),(.p1 aP .bool (.Z 9)),(aR aA 7 (.Z 1))])))
set_option maxRecDepth 100000 in
theorem aK1:bV Tryz.prog [cV,dQ,dK,dJ,jM] kG false 3000 ⟨[],[]⟩ = .ok rM:=by kernel_rfl
theorem aJI (x:bC × Int) (hx:okD (.bJ2 aA tI) x) (hp:(fun x=>bW aA x.1≤1000000000) x):rM.wp [cV,dQ,dK,dJ,jM] [⟨(.bJ2 aA tI),x⟩] [] (fun v=>v.as aA=(fun x=>oW x.1 x.2) x):=by
 obtain ⟨s,m⟩:=x
 delta rM cV dQ dK dJ jM;refine eE ?_
 refine eL ?_
 refine ⟨hp,fun _ _=>⟨fun h=>aWF (.inl h),fun h1=>⟨fun h=>aWF (.inr h),fun h2=>?_⟩⟩⟩
 have hf:=aIN s.2.2.2.2.2.1 m s.2.2.2.2.2.1.length
 have hf2:eG s.2.2.2.2.2.1 m<(s.2.2.2.2.2.1.length:Int):=hf.2
 have hs:=aF7 h1 (k:=(eG s.2.2.2.2.2.1 m).toNat) (by omega)
 have hin:uI s.2.2.1 ((s.2.2.2.2.2.1.getD (eG s.2.2.2.2.2.1 m).toNat (aS aM)).2.getD 0 [])=_:=if_pos ⟨((fY s).1 h1).1,hs.2⟩
 have hy:=bC0 h1 h2
 rw[← hin] at hy
 (repeat' first|intro _|(with_reducible apply And.intro))
 all_goals first|omega|exact hy|skip
theorem aJP:Con.Holds Tryz.prog kG:=aV aX (aG mR (aG rO (aG qW (aG rA (aG aIV aT))))) aK1 aJI
end Go.Proofs.YtpleleanibgniaaGreat
