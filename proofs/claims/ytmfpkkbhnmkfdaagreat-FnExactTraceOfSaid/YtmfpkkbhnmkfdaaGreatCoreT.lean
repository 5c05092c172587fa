/- CoreT: trees, and what they say. -/
import Derived.Test.YtmfpkkbhnmkfdaaGreatCoreP
import Derived.Test.YtmfpkkbhnmkfdaaGreatCoreL
namespace Go.Proofs.YtmfpkkbhnmkfdaaGreat
open Go.ChangeShapes Go.WideShapes Go.ChangeAt Go.RowKit Go.Deep
set_option linter.unusedVariables false
set_option linter.unusedSimpArgs false
abbrev bDF:=Int × (aM2 × Bool)
noncomputable def fT (p:bL):List Int→List bDF
 | []=>[]
 | s :: l=>(s,bE p s,dJ p s) :: fT (eT p s) l
theorem aEZ (p:bL):(l m:List Int)→fT p (l++m)=fT p l++fT (nO p l) m
 | [],_=>rfl
 | s :: l,m=>by
  show (s,bE p s,dJ p s) :: fT (eT p s) (l++m)=_
  rw[aEZ (eT p s) l m];rfl
theorem aSM (p:bL) (l:List Int) (s:Int):fT p (l++[s])=fT p l++[(s,bE (nO p l) s,dJ (nO p l) s)]:=aEZ p l [s]
theorem uV (p:bL):(l:List Int)→(fT p l).length=l.length
 | []=>rfl
 | s :: l=>by show (fT (eT p s) l).length+1=l.length+1;rw[uV]
theorem aG8 {l:List Int} {k:Nat} (h:k<l.length):l.take (k+1)=l.take k++[l[k]]:=List.take_succ_eq_append_getElem h
theorem aJO {α:Type} {l:List α} {k:Nat} (h:k=min l.length 2000):l.take k=l.take 2000:=by
 rcases Nat.le_total l.length 2000 with h1|h1
 ·rw[List.take_of_length_le (by omega),List.take_of_length_le h1]
 ·rw[h,Nat.min_eq_right h1]
theorem aM9 {p:bL} {l:List Int} {k:Nat} (h:k<l.length):nO p (l.take (k+1))=eT (nO p (l.take k)) l[k]:=by rw[aG8 h,bAX]
theorem aFU {p:bL} {l:List Int} {k:Nat} (h:k<l.length):fT p (l.take (k+1))=fT p (l.take k)++[(l[k],bE (nO p (l.take k)) l[k],dJ (nO p (l.take k)) l[k])]:=by rw[aG8 h,aSM]
theorem aVC {p:bL} (l:List Int) (k:Nat) (hk:k≤2000) (hp:aW aF p≤100000000):aW aF (nO p (l.take k))≤1000000000:=by
 have h:=aUY p (l.take k)
 have h2:(l.take k).length≤k:=by rw[List.length_take];omega
 omega
noncomputable def jW:Con:=⟨67,aB,aB,[.val ⟨false,aB,[]⟩],[⟨false,aB,[0]⟩],true,none,
 ((fun _=>True):(List Int)→Prop),
 ((fun x=>List.take 2000 x):(List Int)→(List Int))⟩
def pN:T:=.prim (.llen 3 tI) (.vr 0) <|.prim (.mn .i64) (.mk2 tI tI (.vr 1) (.ci .i64 2000)) <|.prim (.lsub 3 tI) (bF (.pair aB aO) [(.vr 0),(.ci .i64 0),(.vr 2)]) <|.ret (.vr 3)
set_option maxRecDepth 100000 in
theorem aFG:bS Tryz.prog [] jW false 3000 ⟨[],[]⟩ = .ok pN:=by kernel_rfl
theorem aH3 (x:List Int) (hx:okD aB x) (hp:(fun _=>True) x):pN.wp [] [⟨aB,x⟩] [] (fun v=>v.as aB=(fun x=>List.take 2000 x) x):=by
 delta pN;refine eS ?_;try with_reducible exact True.intro
 (refine gR ?_;try with_reducible exact True.intro)
 refine fun _ _=>⟨⟨by omega,by omega,by omega⟩,fun _=>?_⟩
 exact aJO (l:=x) (by omega)
theorem aG6:Con.Holds Tryz.prog jW:=aT aY aU aFG fun x hx hp=>aH3 x hx hp
noncomputable def gB:Con:=⟨15,(.pair aF aB),(.slice 99 (.pair tI (.pair aO .bool))),[.val ⟨true,aF,[]⟩,.val ⟨false,aB,[]⟩],[⟨false,(.slice 99 (.pair tI (.pair aO .bool))),[2]⟩],false,none,
 ((fun x=>aW aF x.1≤100000000):(bL × cG)→Prop),
 ((fun x=>fT x.1 (List.take 2000 x.2)):(bL × cG)→(List (Int × (aM2 × Bool))))⟩
def wR:T:=.call 0 (aQ (.pair aF aB) 1 (.vr 0)) <|.prim (.llen 3 tI) (.vr 1) <|.loop (.pair tI (.pair aX (.pair (.slice 121 aA) (.pair aH (.pair aH (.slice 99 (.pair tI (.pair aO .bool)))))))) (bF (.pair tI (.pair aX (.pair (.slice 121 aA) (.pair aH (.pair aH (.slice 99 (.pair tI (.pair aO .bool)))))))) [(.ci .i64 0),(.p1 aX (.pair (.slice 121 aA) (.pair aH aH)) (.p1 aF aB (.vr 0))),(aJ aF 1 (.p1 aF aB (.vr 0))),(aJ aF 2 (.p1 aF aB (.vr 0))),(aQ aF 3 (.p1 aF aB (.vr 0))),(.nl 99 (.pair tI (.pair aO .bool)))]) <|.prim (.cmp .lss .i64) (.mk2 tI tI (.p1 tI (.pair aX (.pair (.slice 121 aA) (.pair aH (.pair aH (.slice 99 (.pair tI (.pair aO .bool))))))) (.vr 3)) (.vr 2)) <|.ite (.vr 4) (.prim (.lidx 3 tI) (.mk2 aB tI (.vr 1) (.p1 tI (.pair aX (.pair (.slice 121 aA) (.pair aH (.pair aH (.slice 99 (.pair tI (.pair aO .bool))))))) (.vr 3))) <|.call 1 (.mk2 aF tI (bF aF [(aJ (.pair tI (.pair aX (.pair (.slice 121 aA) (.pair aH (.pair aH (.slice 99 (.pair tI (.pair aO .bool)))))))) 1 (.vr 3)),(aJ (.pair tI (.pair aX (.pair (.slice 121 aA) (.pair aH (.pair aH (.slice 99 (.pair tI (.pair aO .bool)))))))) 2 (.vr 3)),(aJ (.pair tI (.pair aX (.pair (.slice 121 aA) (.pair aH (.pair aH (.slice 99 (.pair tI (.pair aO .bool)))))))) 3 (.vr 3)),(aJ (.pair tI (.pair aX (.pair (.slice 121 aA) (.pair aH (.pair aH (.slice 99 (.pair tI (.pair aO .bool)))))))) 4 (.vr 3))]) (.vr 5)) <|.call 2 (.mk2 aF tI (bF aF [(aJ (.pair tI (.pair aX (.pair (.slice 121 aA) (.pair aH (.pair aH (.slice 99 (.pair tI (.pair aO .bool)))))))) 1 (.vr 3)),(aJ (.pair tI (.pair aX (.pair (.slice 121 aA) (.pair aH (.pair aH (.slice 99 (.pair tI (.pair aO .bool)))))))) 2 (.vr 3)),(aJ (.pair tI (.pair aX (.pair (.slice 121 aA) (.pair aH (.pair aH (.slice 99 (.pair tI (.pair aO .bool)))))))) 3 (.vr 3)),(aJ (.pair tI (.pair aX (.pair (.slice 121 aA) (.pair aH (.pair aH (.slice 99 (.pair tI (.pair aO .bool)))))))) 4 (.vr 3))]) (.vr 5)) <|.prim (.lit 99 (.pair tI (.pair aO .bool)) 1) (bF (.pair tI (.pair aO .bool)) [(.vr 5),(.vr 6),(.vr 7)]) <|.prim (.lapp 99 (.pair tI (.pair aO .bool)) 32) (.mk2 (.slice 99 (.pair tI (.pair aO .bool))) (.slice 99 (.pair tI (.pair aO .bool))) (aQ (.pair tI (.pair aX (.pair (.slice 121 aA) (.pair aH (.pair aH (.slice 99 (.pair tI (.pair aO .bool)))))))) 5 (.vr 3)) (.vr 8)) <|.call 3 (.mk2 aF tI (bF aF [(aJ (.pair tI (.pair aX (.pair (.slice 121 aA) (.pair aH (.pair aH (.slice 99 (.pair tI (.pair aO .bool)))))))) 1 (.vr 3)),(aJ (.pair tI (.pair aX (.pair (.slice 121 aA) (.pair aH (.pair aH (.slice 99 (.pair tI (.pair aO .bool)))))))) 2 (.vr 3)),(aJ (.pair tI (.pair aX (.pair (.slice 121 aA) (.pair aH (.pair aH (.slice 99 (.pair tI (.pair aO .bool)))))))) 3 (.vr 3)),(aJ (.pair tI (.pair aX (.pair (.slice 121 aA) (.pair aH (.pair aH (.slice 99 (.pair tI (.pair aO .bool)))))))) 4 (.vr 3))]) (.vr 5)) <|.prim (.ar .add .i64) (.mk2 tI tI (.p1 tI (.pair aX (.pair (.slice 121 aA) (.pair aH (.pair aH (.slice 99 (.pair tI (.pair aO .bool))))))) (.vr 3)) (.ci .i64 1)) <|.again 0 (bF (.pair tI (.pair aX (.pair (.slice 121 aA) (.pair aH (.pair aH (.slice 99 (.pair tI (.pair aO .bool)))))))) [(.vr 11),(.p1 aX (.pair (.slice 121 aA) (.pair aH aH)) (.vr 10)),(aJ aF 1 (.vr 10)),(aJ aF 2 (.vr 10)),(aQ aF 3 (.vr 10)),(.vr 9)])) (.ret (aQ (.pair tI (.pair aX (.pair (.slice 121 aA) (.pair aH (.pair aH (.slice 99 (.pair tI (.pair aO .bool)))))))) 5 (.vr 3)))
set_option maxRecDepth 100000 in
theorem aNN:bS Tryz.prog [jW,jX,iQ,wS] gB false 3000 ⟨[(2991,1003,[.dr 9,.dr 8,.dr 0,.dr 1,.tm 12 0,.on 5,.bx 1 0,.bx 1 1,.bx 1 2,.bx 1 3,.sl 2])],[]⟩ = .ok wR:=by kernel_rfl
theorem aMF (x:bL × cG) (hx:okD (.pair aF aB) x) (hp:(fun x=>aW aF x.1≤100000000) x):wR.wp [jW,jX,iQ,wS] [⟨(.pair aF aB),x⟩] [] (fun v=>v.as (.slice 99 (.pair tI (.pair aO .bool)))=(fun x=>fT x.1 (List.take 2000 x.2)) x):=by
 obtain ⟨p,l⟩:=x
 have hp:aW aF p≤100000000:=hp
 delta wR jW jX iQ wS;refine eS ?_;try with_reducible exact True.intro
 (refine gR ?_;try with_reducible exact True.intro)
 have hL:(List.take 2000 l).length≤2000:=by rw[List.length_take];omega
 generalize List.take 2000 l=L at *
 intro _ _
 refine dG (fun k=>((k:Int),(nO p (List.take k L)).1,(nO p (List.take k L)).2.1,(nO p (List.take k L)).2.2.1,(nO p (List.take k L)).2.2.2,fT p (List.take k L))) L.length rfl fun I μ k hk _ go=>?_
 dsimp only
 (refine gR ?_;try with_reducible exact True.intro)
 have hz:=aVC (p:=p) L k (by omega) hp
 have ht:(fT p (List.take k L)).length≤2000:=by rw[uV,List.length_take];omega
 constructor
 ·intro hlt
  have hk':k<L.length:=by omega
  simp only[bD hk']
  (repeat' first|intro _|(refine go _ ?_ ?_ ?_)|(refine go _ ?_ ?_)|(with_reducible apply And.intro))
  all_goals first|omega|(unfold maxLen;omega)|exact hz|skip
  all_goals show _=((((k+1:Nat):Int)),(nO p (List.take (k+1) L)).1,(nO p (List.take (k+1) L)).2.1,(nO p (List.take (k+1) L)).2.2.1,(nO p (List.take (k+1) L)).2.2.2,fT p (List.take (k+1) L))
  all_goals rw[aM9 hk',aFU hk']
  all_goals rfl
 ·intro hge
  rw[List.take_of_length_le (by omega)]
theorem aO9:Con.Holds Tryz.prog gB:=aT aY (aK aG6 (aK aFV (aK aDL (aK aYC aU)))) aNN fun x hx hp=>aMF x hx hp
noncomputable def gA:Con:=⟨12,(.pair aF aB),(.slice 99 (.pair tI (.pair aO .bool))),[.val ⟨true,aF,[]⟩,.val ⟨false,aB,[]⟩],[⟨false,(.slice 99 (.pair tI (.pair aO .bool))),[2]⟩],false,none,
 ((fun x=>aW aF x.1≤100000000):(bL × cG)→Prop),
 ((fun x=>fT x.1 (List.take 2000 x.2)):(bL × cG)→(List (Int × (aM2 × Bool))))⟩
def wI:T:=.call 0 (.p1 aF aB (.vr 0)) <|.loop (.pair tI (.pair (.slice 99 (.pair tI (.pair aO .bool))) aF)) (bF (.pair tI (.pair (.slice 99 (.pair tI (.pair aO .bool))) aF)) [(.ci .i64 0),(.nl 99 (.pair tI (.pair aO .bool))),(.vr 1)]) <|.prim (.llen 3 tI) (aQ (.pair aF aB) 1 (.vr 0)) <|.prim (.cmp .lss .i64) (.mk2 tI tI (.p1 tI (.pair (.slice 99 (.pair tI (.pair aO .bool))) aF) (.vr 2)) (.vr 3)) <|.ite (.vr 4) (.prim (.cmp .lss .i64) (.mk2 tI tI (.p1 tI (.pair (.slice 99 (.pair tI (.pair aO .bool))) aF) (.vr 2)) (.ci .i64 2000)) <|.ite (.vr 5) (.prim (.lidx 3 tI) (.mk2 aB tI (aQ (.pair aF aB) 1 (.vr 0)) (.p1 tI (.pair (.slice 99 (.pair tI (.pair aO .bool))) aF) (.vr 2))) <|.prim (.lidx 3 tI) (.mk2 aB tI (aQ (.pair aF aB) 1 (.vr 0)) (.p1 tI (.pair (.slice 99 (.pair tI (.pair aO .bool))) aF) (.vr 2))) <|.prim (.lidx 3 tI) (.mk2 aB tI (aQ (.pair aF aB) 1 (.vr 0)) (.p1 tI (.pair (.slice 99 (.pair tI (.pair aO .bool))) aF) (.vr 2))) <|.call 1 (.mk2 aF tI (aQ (.pair tI (.pair (.slice 99 (.pair tI (.pair aO .bool))) aF)) 2 (.vr 2)) (.vr 7)) <|.call 2 (.mk2 aF tI (aQ (.pair tI (.pair (.slice 99 (.pair tI (.pair aO .bool))) aF)) 2 (.vr 2)) (.vr 8)) <|.prim (.lit 99 (.pair tI (.pair aO .bool)) 1) (bF (.pair tI (.pair aO .bool)) [(.vr 6),(.vr 9),(.vr 10)]) <|.prim (.lapp 99 (.pair tI (.pair aO .bool)) 32) (.mk2 (.slice 99 (.pair tI (.pair aO .bool))) (.slice 99 (.pair tI (.pair aO .bool))) (aJ (.pair tI (.pair (.slice 99 (.pair tI (.pair aO .bool))) aF)) 1 (.vr 2)) (.vr 11)) <|.prim (.lidx 3 tI) (.mk2 aB tI (aQ (.pair aF aB) 1 (.vr 0)) (.p1 tI (.pair (.slice 99 (.pair tI (.pair aO .bool))) aF) (.vr 2))) <|.call 3 (.mk2 aF tI (aQ (.pair tI (.pair (.slice 99 (.pair tI (.pair aO .bool))) aF)) 2 (.vr 2)) (.vr 13)) <|.prim (.ar .add .i64) (.mk2 tI tI (.p1 tI (.pair (.slice 99 (.pair tI (.pair aO .bool))) aF) (.vr 2)) (.ci .i64 1)) <|.again 0 (bF (.pair tI (.pair (.slice 99 (.pair tI (.pair aO .bool))) aF)) [(.vr 15),(.vr 12),(.vr 14)])) (.ret (aJ (.pair tI (.pair (.slice 99 (.pair tI (.pair aO .bool))) aF)) 1 (.vr 2)))) (.ret (aJ (.pair tI (.pair (.slice 99 (.pair tI (.pair aO .bool))) aF)) 1 (.vr 2)))
set_option maxRecDepth 100000 in
theorem aQ2:bS Tryz.prog [iP,kC,iS,xO] gA false 3000 ⟨[(2989,1002,mL 10 8++[.dr 2,.dr 0,.tm 7 0,.on 5,.fz 2,.fz 3,.fz 4,.fz 5,.sl 11,.nb 6,.bx 6 0,.dk 2,.bx 6 1,.dk 3,.bx 6 2,.dk 4,.bx 6 3,.dk 5])],[]⟩ = .ok wI:=by kernel_rfl
theorem aN2 (x:bL × cG) (hx:okD (.pair aF aB) x) (hp:(fun x=>aW aF x.1≤100000000) x):wI.wp [iP,kC,iS,xO] [⟨(.pair aF aB),x⟩] [] (fun v=>v.as (.slice 99 (.pair tI (.pair aO .bool)))=(fun x=>fT x.1 (List.take 2000 x.2)) x):=by
 obtain ⟨p,l⟩:=x
 have hp:aW aF p≤100000000:=hp
 have hlm:List.length l≤9223372036854775807:=hx.2.1
 delta wI iP kC iS xO;refine eS ?_;try with_reducible exact True.intro
 (refine gR ?_;try with_reducible exact True.intro)
 refine ⟨by omega,fun _=>?_⟩
 refine dG (fun k=>((k:Int),fT p (List.take k l),nO p (List.take k l))) (min (List.length l) 2000) rfl fun I μ k hk _ go=>?_
 dsimp only
 (refine gR ?_;try with_reducible exact True.intro)
 have hz:=aVC (p:=p) l k (by omega) hp
 have ht:(fT p (List.take k l)).length≤2000:=by rw[uV,List.length_take];omega
 have fin:k=min (List.length l) 2000→fT p (List.take k l)=fT p (List.take 2000 l):=fun h=>by rw[aJO h]
 by_cases hk':k<List.length l
 ·simp only[bD hk']
  (repeat' first|intro _|(refine go _ ?_ ?_ ?_)|(refine go _ ?_ ?_)|(with_reducible apply And.intro))
  all_goals first|omega|(unfold maxLen;omega)|exact hz|exact fin (by omega)|skip
  all_goals show _=((((k+1:Nat):Int)),fT p (List.take (k+1) l),nO p (List.take (k+1) l))
  all_goals rw[aM9 hk',aFU hk']
  all_goals rfl
 ·(repeat' first|intro _|(refine go _ ?_ ?_ ?_)|(refine go _ ?_ ?_)|(with_reducible apply And.intro))
  all_goals first|omega|exact fin (by omega)|skip
theorem aNZ:Con.Holds Tryz.prog gA:=aT aY (aK aDT (aK aH7 (aK aDY (aK aZU aU)))) aQ2 fun x hx hp=>aN2 x hx hp
end Go.Proofs.YtmfpkkbhnmkfdaaGreat
