/- CoreR: lemmas. No conditions. -/
import Derived.Test.YtdeobhdbmehpgaaGreatCore7
namespace Go.Proofs.YtdeobhdbmehpgaaGreat
open Go.ChangeShapes Go.WideShapes Go.ChangeAt Go.RowKit Go.Deep
set_option linter.unusedVariables false
set_option linter.unusedSimpArgs false
theorem aTE {s:aM} {m:Int} (h:eT s=false∨dT s.2.2.2.2.2.1 m<0):s=uP s m:=by
 unfold uP;rw[if_neg]
 rintro ⟨h1,h2⟩
 rcases h with h|h
 ·rw[h] at h1;cases h1
 ·omega
theorem aZJ {s:aM} {m:Int} (h:eT s=true) (h2:0≤dT s.2.2.2.2.2.1 m):(s.1,s.2.1,s.2.2.1,s.2.2.2.1,s.2.2.2.2.1,s.2.2.2.2.2.1,(jG s.2.2.1 ((s.2.2.2.2.2.1.getD (dT s.2.2.2.2.2.1 m).toNat (bG aC)).2.getD 0 []) s.2.2.1.length).1,s.2.2.2.2.2.2.2)=uP s m:=by
 unfold uP;rw[if_pos ⟨h,h2⟩]
theorem aE0 {s:aM} (h:eT s=true) {k:Nat} (hk:k<s.2.2.2.2.2.1.length):0<(s.2.2.2.2.2.1.getD k (bG aC)).2.length∧eG ((s.2.2.2.2.2.1.getD k (bG aC)).2.getD 0 []) (iA s.2.2.1)=true:=by
 have hm:=(bV s).1 h
 have h4:=hm.2.2.2.1
 rw[List.all_eq_true] at h4
 have h5:=(aA0 _ _ _).1 (h4 _ (List.getElem_mem hk))
 have h8:=(bA _).1 hm.1
 have h6:=h5.2 0 (by unfold uL;split <;> omega)
 rw[bE hk]
 refine ⟨by have h7:=h5.1;unfold uL at h7;split at h7 <;> omega,?_⟩
 have e:eH s.2.2.1 0=iA s.2.2.1:=by unfold eH iA;rw[if_pos hm.1,if_pos (by omega)]
 rw[← e];exact h6
noncomputable def jP:Con:=⟨99,(.bEL aB tI),aB,[.val ⟨true,aB,[]⟩,.val ⟨false,tI,[]⟩],[⟨true,aB,[0,2,2,0,0,2,2,2,2,2,2,2,0,0]⟩],false,none,
 ((fun x=>eB aB x.1≤1000000000):(aM × Int)→Prop),
 ((fun x=>uP x.1 x.2):(aM × Int)→(aM))⟩
def rH:T:=.call 0 (.p1 aB tI (.Z 0)) <|.call 1 (.bEN (.slice 80 aC) tI (aI aB 5 (.p1 aB tI (.Z 0))) (aN (.bEL aB tI) 1 (.Z 0))) <|.call 2 (.p1 aB tI (.Z 0)) <|
 .bEM .not (.Z 3) <|
 .ite (.Z 4) (
  .ret (.Z 1)) (
  .bEM (.cmp .lss .i64) (.bEN tI tI (.Z 2) (.ci .i64 0)) <|
  .ite (.Z 5) (
   .ret (.Z 1)) (
   .bEM (.bEQ 80 aC) (.bEN (.slice 80 aC) tI (aI aB 5 (.p1 aB tI (.Z 0))) (.Z 2)) <|
   .bEM (.bEQ 112 aA) (.bEN aE tI (aN aC 1 (.Z 6)) (.ci .i64 0)) <|
   .call 3 (.bEN aF aA (aI aB 2 (.p1 aB tI (.Z 0))) (.Z 7)) <|
   .ret (aY aB [(.p1 tI iT (.Z 1)),(aI aB 1 (.Z 1)),(aI aB 2 (.Z 1)),(aI aB 3 (.Z 1)),(aI aB 4 (.Z 1)),(aI aB 5 (.Z 1)),(.p1 aE .bool (.Z 8)),(aN aB 7 (.Z 1))])))
set_option maxRecDepth 100000 in
theorem aIP:bJ Tryz.prog [eM,cY,cV,fP] jP false 3000 ⟨[],[]⟩ = .ok rH:=by kernel_rfl
theorem aHZ (x:aM × Int) (hx:okD (.bEL aB tI) x) (hp:(fun x=>eB aB x.1≤1000000000) x):rH.wp [eM,cY,cV,fP] [⟨(.bEL aB tI),x⟩] [] (fun v=>v.as aB=(fun x=>uP x.1 x.2) x):=by
 obtain ⟨s,m⟩:=x
 delta rH eM cY cV fP;refine eE ?_
 refine fJ ?_
 refine ⟨hp,fun _ _=>⟨fun h=>aTE (.inl h),fun h1=>⟨fun h=>aTE (.inr h),fun h2=>?_⟩⟩⟩
 have hf:=aH0 s.2.2.2.2.2.1 m s.2.2.2.2.2.1.length
 have hf2:dT s.2.2.2.2.2.1 m<(s.2.2.2.2.2.1.length:Int):=hf.2
 have hs:=aE0 h1 (k:=(dT s.2.2.2.2.2.1 m).toNat) (by omega)
 have hv:=((bT _ _).1 hs.2).1
 have hn8:=(bA _).1 ((bV s).1 h1).1
 have hy:=aZJ h1 h2
 (repeat' first|intro _|(with_reducible apply And.intro))
 all_goals first|omega|exact hy|exact ⟨hv,hn8.2.1⟩|exact hv|exact hn8.2.1|skip
theorem aIC:Con.Holds Tryz.prog jP:=aQ aR (aG uU (aG qU (aG qT (aG aBD aO)))) aIP aHZ
end Go.Proofs.YtdeobhdbmehpgaaGreat
