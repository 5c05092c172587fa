/- CoreT: lemmas. No conditions. -/
import Derived.Test.YtdeobhdbmehpgaaGreatCoreP
import Derived.Test.YtdeobhdbmehpgaaGreatCoreL
namespace Go.Proofs.YtdeobhdbmehpgaaGreat
set_option maxRecDepth 100000
open Go.ChangeShapes Go.WideShapes Go.ChangeAt Go.RowKit Go.Deep
set_option linter.unusedVariables false
set_option linter.unusedSimpArgs false
theorem bAC {l:List Int} {k:Nat} (h:k<l.length):l.take (k+1)=l.take k++[l[k]]:=List.take_succ_eq_append_getElem h
theorem bEA {α:Type} {l:List α} {k:Nat} (h:k=min l.length 2000):l.take k=l.take 2000:=by
 rcases Nat.le_total l.length 2000 with h1|h1
 ·rw[List.take_of_length_le (by omega),List.take_of_length_le h1]
 ·rw[h,Nat.min_eq_right h1]
theorem bGS {p:aY} {l:List Int} {k:Nat} (h:k<l.length):wM p (l.take (k+1))=eR (wM p (l.take k)) l[k]:=by rw[bAC h,aTZ]
theorem bKH {p:aY} (l:List Int) (k:Nat) (hk:k≤2000) (hp:bQ aC p≤100000000):bQ aC (wM p (l.take k))≤1000000000:=by
 have h:=aRV p (l.take k)
 have h2:(l.take k).length≤k:=by rw[List.length_take];omega
 omega
noncomputable def kM:Con:=⟨51,aB,aB,[.val ⟨false,aB,[]⟩],[⟨false,aB,[0]⟩],true,none,
 ((fun _=>True):(List Int)→Prop),
 ((fun x=>List.take 2000 x):(List Int)→(List Int))⟩
def rT:T :=
 .bNU (.bNX 3 tI) (.Z 0) <|
 .bNU (.mn .i64) (.bNV tI tI (.Z 1) (.ci .i64 2000)) <|
 .bNU (.bNZ 3 tI) (bB (.bNT aB aE) [(.Z 0),(.ci .i64 0),(.Z 2)]) <|
 .ret (.Z 3)
theorem aKL:bM Tryz.prog [] kM false 3000 ⟨[],[]⟩ = .ok rT:=by kernel_rfl
theorem aK9 (x:List Int) (hx:okD aB x) (hp:(fun _=>True) x):rT.wp [] [⟨aB,x⟩] [] (fun v=>v.as aB=(fun x=>List.take 2000 x) x):=by
 delta rT;refine dB ?_
 refine dT ?_
 refine fun _ _=>⟨⟨by omega,by omega,by omega⟩,fun _=>?_⟩
 exact bEA (l:=x) (by omega)
theorem aL8:Con.Holds Tryz.prog kM:=aS aW aR aKL aK9
noncomputable def aEX:Con:=⟨20,(.bNT aC aB),aC,[.val ⟨true,aC,[]⟩,.val ⟨false,aB,[]⟩],[⟨true,aC,[0,0,0,0]⟩],false,none,
 ((fun x=>bQ aC x.1≤100000000):(aY × bK)→Prop),
 ((fun x=>wM x.1 (List.take 2000 x.2)):(aY × bK)→(aY))⟩
def aQ2:T:=.call 0 (.p1 aC aB (.Z 0)) <|.call 1 (aO (.bNT aC aB) 1 (.Z 0)) <|
 .bNU (.bNX 3 tI) (.Z 2) <|
 .loop (.bNT tI aC) (.bNV tI aC (.ci .i64 0) (.Z 1)) <|
  .bNU (.cmp .lss .i64) (.bNV tI tI (.p1 tI aC (.Z 4)) (.Z 3)) <|
  .ite (.Z 5) (
   .bNU (.bNY 3 tI) (.bNV aB tI (.Z 2) (.p1 tI aC (.Z 4))) <|
   .call 2 (.bNV aC tI (aO (.bNT tI aC) 1 (.Z 4)) (.Z 6)) <|
   .bNU (.ar .add .i64) (.bNV tI tI (.p1 tI aC (.Z 4)) (.ci .i64 1)) <|
   .bNW 0 (.bNV tI aC (.Z 8) (.Z 7))) (
   .ret (aO (.bNT tI aC) 1 (.Z 4)))
theorem bJH:bM Tryz.prog [eW,kM,pR] aEX false 3000 ⟨[(2991,1004,iT 9 7++[.dr 0,.dr 1,.tm 12 0,.fz 7,.fz 8,.fz 9,.fz 10,.bx 1 0,.dk 7,.bx 1 1,.dk 8,.bx 1 2,.dk 9,.bx 1 3,.dk 10])],[]⟩ = .ok aQ2:=by kernel_rfl
theorem bJA (x:aY × bK) (hx:okD (.bNT aC aB) x) (hp:(fun x=>bQ aC x.1≤100000000) x):aQ2.wp [eW,kM,pR] [⟨(.bNT aC aB),x⟩] [] (fun v=>v.as aC=(fun x=>wM x.1 (List.take 2000 x.2)) x):=by
 obtain ⟨p,l⟩:=x
 have hp:bQ aC p≤100000000:=hp
 delta aQ2 eW kM pR;refine dB ?_
 refine dT ?_
 have hL:(List.take 2000 l).length≤2000:=by rw[List.length_take];omega
 generalize List.take 2000 l=L at *
 (repeat' first|intro _|(with_reducible apply And.intro))
 all_goals first|omega|skip
 refine cZ (fun k=>((k:Int),wM p (List.take k L))) L.length rfl fun I μ k hk _ go=>?_
 dsimp only
 refine dT ?_
 have hz:=bKH (p:=p) L k (by omega) hp
 by_cases hk':k<List.length L
 ·simp only[aZ hk']
  (repeat' first|intro _|(refine go _ ?_ ?_ ?_)|(refine go _ ?_ ?_)|(with_reducible apply And.intro))
  all_goals first|omega|exact hz|(rw[bGS hk'];rfl)|skip
 ·(repeat' first|intro _|(refine go _ ?_ ?_ ?_)|(refine go _ ?_ ?_)|(with_reducible apply And.intro))
  all_goals first|omega|(rw[List.take_of_length_le (by omega)])|skip
theorem bK9:Con.Holds Tryz.prog aEX:=aS aW (aH xI (aH aL8 (aH aT7 aR))) bJH bJA
end Go.Proofs.YtdeobhdbmehpgaaGreat
