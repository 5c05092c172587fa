/- CoreT: lemmas. No conditions. -/
import Derived.Test.YtpleleanibgniaaGreatCoreP
import Derived.Test.YtpleleanibgniaaGreatCoreL
namespace Go.Proofs.YtpleleanibgniaaGreat
noncomputable section
set_option maxRecDepth 100000
open Go.ChangeShapes Go.WideShapes Go.ChangeAt Go.RowKit Go.Deep
set_option linter.unusedVariables false
set_option linter.unusedSimpArgs false
abbrev kS:=Int × (cQ × Bool)
def iF (p:bI):List Int→List kS
 | []=>[]
 | s :: l=>(s,aZ p s,cZ p s) :: iF (dP p s) l
theorem aH7 (p:bI):(l m:List Int)→iF p (l++m)=iF p l++iF (lO p l) m
 | [],_=>rfl
 | s :: l,m=>by
  show (s,aZ p s,cZ p s) :: iF (dP p s) (l++m)=_
  rw[aH7 (dP p s) l m];rfl
theorem aUO (p:bI) (l:List Int) (s:Int):iF p (l++[s])=iF p l++[(s,aZ (lO p l) s,cZ (lO p l) s)]:=aH7 p l [s]
theorem aAT (p:bI):(l:List Int)→(iF p l).length=l.length
 | []=>rfl
 | s :: l=>by show (iF (dP p s) l).length+1=l.length+1;rw[aAT]
theorem aGA {l:List Int} {k:Nat} (h:k<l.length):l.take (k+1)=l.take k++[l[k]]:=List.take_succ_eq_append_getElem h
theorem aZG {α:Type} {l:List α} {k:Nat} (h:k=min l.length 2000):l.take k=l.take 2000:=by
 rcases Nat.le_total l.length 2000 with h1|h1
 ·rw[List.take_of_length_le (by omega),List.take_of_length_le h1]
 ·rw[h,Nat.min_eq_right h1]
theorem aOU {p:bI} {l:List Int} {k:Nat} (h:k<l.length):lO p (l.take (k+1))=dP (lO p (l.take k)) l[k]:=by rw[aGA h,bB6]
theorem aTL {p:bI} {l:List Int} {k:Nat} (h:k<l.length):iF p (l.take (k+1))=iF p (l.take k)++[(l[k],aZ (lO p (l.take k)) l[k],cZ (lO p (l.take k)) l[k])]:=by rw[aGA h,aUO]
theorem aVJ {p:bI} (l:List Int) (k:Nat) (hk:k≤2000) (hp:bW aO p≤100000000):bW aO (lO p (l.take k))≤1000000000:=by
 have h:=aNK p (l.take k)
 have h2:(l.take k).length≤k:=by rw[List.length_take];omega
 omega
def eW:Con:=⟨28,aB,aB,[.val ⟨false,aB,[]⟩],[⟨false,aB,[0]⟩],true,none,
 ((fun _=>True):(List Int)→Prop),
 ((fun x=>List.take 2000 x):(List Int)→(List Int))⟩
def pI:T :=
 .bJ3 (.bJ6 3 tI) (.Z 0) <|
 .bJ3 (.mn .i64) (.bJ4 tI tI (.Z 1) (.ci .i64 2000)) <|
 .bJ3 (.bJ8 3 tI) (bJ (.bJ2 aB aC) [(.Z 0),(.ci .i64 0),(.Z 2)]) <|
 .ret (.Z 3)
theorem aGO:bV Tryz.prog [] eW false 3000 ⟨[],[]⟩ = .ok pI:=by kernel_rfl
theorem aG1 (x:List Int) (hx:okD aB x) (hp:(fun _=>True) x):pI.wp [] [⟨aB,x⟩] [] (fun v=>v.as aB=(fun x=>List.take 2000 x) x):=by
 delta pI;refine eE ?_
 refine eL ?_
 refine fun _ _=>⟨⟨by omega,by omega,by omega⟩,fun _=>?_⟩
 exact aZG (l:=x) (by omega)
theorem xG:Con.Holds Tryz.prog eW:=aV aX aT aGO aG1
def aCC:Con:=⟨11,(.bJ2 aO aB),aO,[.val ⟨true,aO,[]⟩,.val ⟨false,aB,[]⟩],[⟨true,aO,[0,0,0,0]⟩],false,none,
 ((fun x=>bW aO x.1≤100000000):(bI × bH)→Prop),
 ((fun x=>lO x.1 (List.take 2000 x.2)):(bI × bH)→(bI))⟩
def aMO:T:=.call 0 (.p1 aO aB (.Z 0)) <|.call 1 (aR (.bJ2 aO aB) 1 (.Z 0)) <|
 .bJ3 (.bJ6 3 tI) (.Z 2) <|
 .loop (.bJ2 tI aO) (.bJ4 tI aO (.ci .i64 0) (.Z 1)) <|
  .bJ3 (.cmp .lss .i64) (.bJ4 tI tI (.p1 tI aO (.Z 4)) (.Z 3)) <|
  .ite (.Z 5) (
   .bJ3 (.bJ7 3 tI) (.bJ4 aB tI (.Z 2) (.p1 tI aO (.Z 4))) <|
   .call 2 (.bJ4 aO tI (aR (.bJ2 tI aO) 1 (.Z 4)) (.Z 6)) <|
   .bJ3 (.ar .add .i64) (.bJ4 tI tI (.p1 tI aO (.Z 4)) (.ci .i64 1)) <|
   .bJ5 0 (.bJ4 tI aO (.Z 8) (.Z 7))) (
   .ret (aR (.bJ2 tI aO) 1 (.Z 4)))
theorem bEP:bV Tryz.prog [gH,eW,nH] aCC false 3000 ⟨[(2991,1004,mW 9 7++[.dr 0,.dr 1,.tm 12 0,.fz 7,.fz 8,.fz 9,.fz 10,.bx 1 0,.dk 7,.bx 1 1,.dk 8,.bx 1 2,.dk 9,.bx 1 3,.dk 10])],[]⟩ = .ok aMO:=by kernel_rfl
theorem bEC (x:bI × bH) (hx:okD (.bJ2 aO aB) x) (hp:(fun x=>bW aO x.1≤100000000) x):aMO.wp [gH,eW,nH] [⟨(.bJ2 aO aB),x⟩] [] (fun v=>v.as aO=(fun x=>lO x.1 (List.take 2000 x.2)) x):=by
 obtain ⟨p,l⟩:=x
 have hp:bW aO p≤100000000:=hp
 delta aMO gH eW nH;refine eE ?_
 refine eL ?_
 have hL:(List.take 2000 l).length≤2000:=by rw[List.length_take];omega
 generalize List.take 2000 l=L at *
 (repeat' first|intro _|(with_reducible apply And.intro))
 all_goals first|omega|skip
 refine fC (fun k=>((k:Int),lO p (List.take k L))) L.length rfl fun I μ k hk _ go=>?_
 dsimp only
 refine eL ?_
 have hz:=aVJ (p:=p) L k (by omega) hp
 by_cases hk':k<List.length L
 ·simp only[bD hk']
  (repeat' first|intro _|(refine go _ ?_ ?_ ?_)|(refine go _ ?_ ?_)|(with_reducible apply And.intro))
  all_goals first|omega|exact hz|(rw[aOU hk'];rfl)|skip
 ·(repeat' first|intro _|(refine go _ ?_ ?_ ?_)|(refine go _ ?_ ?_)|(with_reducible apply And.intro))
  all_goals first|omega|(rw[List.take_of_length_le (by omega)])|skip
theorem bEB:Con.Holds Tryz.prog aCC:=aV aX (aG aCJ (aG xG (aG aPW aT))) bEP bEC
def nL:Con:=⟨8,(.bJ2 aO aB),(.slice 79 (.bJ2 tI (.bJ2 aC .bool))),[.val ⟨true,aO,[]⟩,.val ⟨false,aB,[]⟩],[⟨false,(.slice 79 (.bJ2 tI (.bJ2 aC .bool))),[2]⟩],false,none,
 ((fun x=>bW aO x.1≤100000000):(bI × bH)→Prop),
 ((fun x=>iF x.1 (List.take 2000 x.2)):(bI × bH)→(List (Int × (cQ × Bool))))⟩
def xQ:T:=.call 0 (aR (.bJ2 aO aB) 1 (.Z 0)) <|
 .bJ3 (.bJ6 3 tI) (.Z 1) <|
 .loop (.bJ2 tI (.bJ2 aF (.bJ2 (.slice 50 aA) (.bJ2 aH (.bJ2 aH (.slice 79 (.bJ2 tI (.bJ2 aC .bool)))))))) (bJ (.bJ2 tI (.bJ2 aF (.bJ2 (.slice 50 aA) (.bJ2 aH (.bJ2 aH (.slice 79 (.bJ2 tI (.bJ2 aC .bool)))))))) [(.ci .i64 0),(.p1 aF (.bJ2 (.slice 50 aA) (.bJ2 aH aH)) (.p1 aO aB (.Z 0))),(aJ aO 1 (.p1 aO aB (.Z 0))),(aJ aO 2 (.p1 aO aB (.Z 0))),(aR aO 3 (.p1 aO aB (.Z 0))),(.nl 79 (.bJ2 tI (.bJ2 aC .bool)))]) <|
  .bJ3 (.cmp .lss .i64) (.bJ4 tI tI (.p1 tI (.bJ2 aF (.bJ2 (.slice 50 aA) (.bJ2 aH (.bJ2 aH (.slice 79 (.bJ2 tI (.bJ2 aC .bool))))))) (.Z 3)) (.Z 2)) <|
  .ite (.Z 4) (
   .bJ3 (.bJ7 3 tI) (.bJ4 aB tI (.Z 1) (.p1 tI (.bJ2 aF (.bJ2 (.slice 50 aA) (.bJ2 aH (.bJ2 aH (.slice 79 (.bJ2 tI (.bJ2 aC .bool))))))) (.Z 3))) <|
   .call 1 (.bJ4 aO tI (bJ aO [(aJ (.bJ2 tI (.bJ2 aF (.bJ2 (.slice 50 aA) (.bJ2 aH (.bJ2 aH (.slice 79 (.bJ2 tI (.bJ2 aC .bool)))))))) 1 (.Z 3)),(aJ (.bJ2 tI (.bJ2 aF (.bJ2 (.slice 50 aA) (.bJ2 aH (.bJ2 aH (.slice 79 (.bJ2 tI (.bJ2 aC .bool)))))))) 2 (.Z 3)),(aJ (.bJ2 tI (.bJ2 aF (.bJ2 (.slice 50 aA) (.bJ2 aH (.bJ2 aH (.slice 79 (.bJ2 tI (.bJ2 aC .bool)))))))) 3 (.Z 3)),(aJ (.bJ2 tI (.bJ2 aF (.bJ2 (.slice 50 aA) (.bJ2 aH (.bJ2 aH (.slice 79 (.bJ2 tI (.bJ2 aC .bool)))))))) 4 (.Z 3))]) (.Z 5)) <|
   .call 2 (.bJ4 aO tI (bJ aO [(aJ (.bJ2 tI (.bJ2 aF (.bJ2 (.slice 50 aA) (.bJ2 aH (.bJ2 aH (.slice 79 (.bJ2 tI (.bJ2 aC .bool)))))))) 1 (.Z 3)),(aJ (.bJ2 tI (.bJ2 aF (.bJ2 (.slice 50 aA) (.bJ2 aH (.bJ2 aH (.slice 79 (.bJ2 tI (.bJ2 aC .bool)))))))) 2 (.Z 3)),(aJ (.bJ2 tI (.bJ2 aF (.bJ2 (.slice 50 aA) (.bJ2 aH (.bJ2 aH (.slice 79 (.bJ2 tI (.bJ2 aC .bool)))))))) 3 (.Z 3)),(aJ (.bJ2 tI (.bJ2 aF (.bJ2 (.slice 50 aA) (.bJ2 aH (.bJ2 aH (.slice 79 (.bJ2 tI (.bJ2 aC .bool)))))))) 4 (.Z 3))]) (.Z 5)) <|
   .bJ3 (.lit 79 (.bJ2 tI (.bJ2 aC .bool)) 1) (bJ (.bJ2 tI (.bJ2 aC .bool)) [(.Z 5),(.Z 6),(.Z 7)]) <|
   .bJ3 (.bJ9 79 (.bJ2 tI (.bJ2 aC .bool)) 32) (.bJ4 (.slice 79 (.bJ2 tI (.bJ2 aC .bool))) (.slice 79 (.bJ2 tI (.bJ2 aC .bool))) (aR (.bJ2 tI (.bJ2 aF (.bJ2 (.slice 50 aA) (.bJ2 aH (.bJ2 aH (.slice 79 (.bJ2 tI (.bJ2 aC .bool)))))))) 5 (.Z 3)) (.Z 8)) <|
   .call 3 (.bJ4 aO tI (bJ aO [(aJ (.bJ2 tI (.bJ2 aF (.bJ2 (.slice 50 aA) (.bJ2 aH (.bJ2 aH (.slice 79 (.bJ2 tI (.bJ2 aC .bool)))))))) 1 (.Z 3)),(aJ (.bJ2 tI (.bJ2 aF (.bJ2 (.slice 50 aA) (.bJ2 aH (.bJ2 aH (.slice 79 (.bJ2 tI (.bJ2 aC .bool)))))))) 2 (.Z 3)),(aJ (.bJ2 tI (.bJ2 aF (.bJ2 (.slice 50 aA) (.bJ2 aH (.bJ2 aH (.slice 79 (.bJ2 tI (.bJ2 aC .bool)))))))) 3 (.Z 3)),(aJ (.bJ2 tI (.bJ2 aF (.bJ2 (.slice 50 aA) (.bJ2 aH (.bJ2 aH (.slice 79 (.bJ2 tI (.bJ2 aC .bool)))))))) 4 (.Z 3))]) (.Z 5)) <|
   .bJ3 (.ar .add .i64) (.bJ4 tI tI (.p1 tI (.bJ2 aF (.bJ2 (.slice 50 aA) (.bJ2 aH (.bJ2 aH (.slice 79 (.bJ2 tI (.bJ2 aC .bool))))))) (.Z 3)) (.ci .i64 1)) <|
   .bJ5 0 (bJ (.bJ2 tI (.bJ2 aF (.bJ2 (.slice 50 aA) (.bJ2 aH (.bJ2 aH (.slice 79 (.bJ2 tI (.bJ2 aC .bool)))))))) [(.Z 11),(.p1 aF (.bJ2 (.slice 50 aA) (.bJ2 aH aH)) (.Z 10)),(aJ aO 1 (.Z 10)),(aJ aO 2 (.Z 10)),(aR aO 3 (.Z 10)),(.Z 9)])) (
   .ret (aR (.bJ2 tI (.bJ2 aF (.bJ2 (.slice 50 aA) (.bJ2 aH (.bJ2 aH (.slice 79 (.bJ2 tI (.bJ2 aC .bool)))))))) 5 (.Z 3)))
theorem aQR:bV Tryz.prog [eW,iS,iB,nH] nL false 3000 ⟨[(2991,1003,[.dr 9,.dr 8,.dr 0,.dr 1,.tm 12 0,.on 5,.bx 1 0,.bx 1 1,.bx 1 2,.bx 1 3,.sl 2])],[]⟩ = .ok xQ:=by kernel_rfl
theorem aPL (x:bI × bH) (hx:okD (.bJ2 aO aB) x) (hp:(fun x=>bW aO x.1≤100000000) x):xQ.wp [eW,iS,iB,nH] [⟨(.bJ2 aO aB),x⟩] [] (fun v=>v.as (.slice 79 (.bJ2 tI (.bJ2 aC .bool)))=(fun x=>iF x.1 (List.take 2000 x.2)) x):=by
 obtain ⟨p,l⟩:=x
 have hp:bW aO p≤100000000:=hp
 delta xQ eW iS iB nH;refine eE ?_
 refine eL ?_
 have hL:(List.take 2000 l).length≤2000:=by rw[List.length_take];omega
 generalize List.take 2000 l=L at *
 intro _ _
 refine fC (fun k=>((k:Int),(lO p (List.take k L)).1,(lO p (List.take k L)).2.1,(lO p (List.take k L)).2.2.1,(lO p (List.take k L)).2.2.2,iF p (List.take k L))) L.length rfl fun I μ k hk _ go=>?_
 dsimp only
 refine eL ?_
 have hz:=aVJ (p:=p) L k (by omega) hp
 have ht:(iF p (List.take k L)).length≤2000:=by rw[aAT,List.length_take];omega
 constructor
 ·intro hlt
  have hk':k<L.length:=by omega
  simp only[bD hk']
  (repeat' first|intro _|(refine go _ ?_ ?_ ?_)|(refine go _ ?_ ?_)|(with_reducible apply And.intro))
  all_goals first|omega|(unfold maxLen;omega)|exact hz|skip
  all_goals show _=((((k+1:Nat):Int)),(lO p (List.take (k+1) L)).1,(lO p (List.take (k+1) L)).2.1,(lO p (List.take (k+1) L)).2.2.1,(lO p (List.take (k+1) L)).2.2.2,iF p (List.take (k+1) L))
  all_goals rw[aOU hk',aTL hk']
  all_goals rfl
 ·intro hge
  rw[List.take_of_length_le (by omega)]
theorem aON:Con.Holds Tryz.prog nL:=aV aX (aG xG (aG aI1 (aG aFA (aG aPW aT)))) aQR aPL
end
end Go.Proofs.YtpleleanibgniaaGreat
