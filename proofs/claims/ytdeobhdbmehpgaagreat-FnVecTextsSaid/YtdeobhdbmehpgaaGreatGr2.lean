/- Gr2: lemmas. No conditions. -/
import Derived.Test.YtdeobhdbmehpgaaGreatFix2
namespace Go.Proofs.YtdeobhdbmehpgaaGreat
noncomputable section
set_option maxRecDepth 100000
open Go.ChangeShapes Go.WideShapes Go.ChangeAt Go.RowKit Go.Deep
set_option linter.unusedVariables false
set_option linter.unusedSimpArgs false
def vO (a b:List Int):List Int:=List.zipWith (fun x y=>(dP x y).1) a b
def aPE (a b:List Int):Bool:=(a.zip b).any fun p=>(dP p.1 p.2).2
def fN (a b:List (List Int)):List (List Int):=List.zipWith vO a b
def aFP (a b:List (List Int)):Bool:=(a.zip b).any fun p=>aPE p.1 p.2
def lD (a b:iN):iN:=(fN a.1 b.1,((dP a.2.1 b.2.1).1,a.2.2 || b.2.2 || aFP a.1 b.1 || (dP a.2.1 b.2.1).2))
theorem bDF {α β γ:Type} (f:α→β→γ) (a:List α) (b:List β):(List.zipWith f a b).length=min a.length b.length:=List.length_zipWith
theorem aTI {α β γ:Type} (f:α→β→γ) (a:List α) (b:List β) {k:Nat} (h1:k<a.length) (h2:k<b.length):(List.zipWith f a b).take k++[f a[k] b[k]]=(List.zipWith f a b).take (k+1):=by
 have h:k<(List.zipWith f a b).length:=by rw[bDF];omega
 rw[List.take_succ_eq_append_getElem h,List.getElem_zipWith]
theorem aU6 {α β:Type} (F:α × β→Bool) (a:List α) (b:List β) {k:Nat} (h1:k<a.length) (h2:k<b.length):((a.zip b).take (k+1)).any F=(((a.zip b).take k).any F || F (a[k],b[k])):=by
 have h:k<(a.zip b).length:=by rw[List.length_zip];omega
 rw[List.take_succ_eq_append_getElem h,List.any_append]
 simp
theorem aYB {α β:Type} (a:List α) (b:List β) {k:Nat} (h:min a.length b.length≤k):(a.zip b).take k=a.zip b:=List.take_of_length_le (by rw[List.length_zip];exact h)
def qX (g:iN):Prop:=g.1.length≤1000000000∧∀ r∈g.1,r.length≤1000000000
theorem aEX {α:Type} {l:List α} {k:Nat} (h:l.length≤k):l.take k=l:=List.take_of_length_le h
theorem mW (a b:List (List Int)):(fN a b).length=min a.length b.length:=List.length_zipWith
theorem aFS (a b:List Int):(vO a b).length=min a.length b.length:=List.length_zipWith
theorem aXC (a b:List Int) {k:Nat} (h1:k<a.length) (h2:k<b.length):(vO a b).take k++[(dP a[k] b[k]).1]=(vO a b).take (k+1):=aTI _ a b h1 h2
theorem aBA (a b:List (List Int)) {k:Nat} (h1:k<a.length) (h2:k<b.length):(fN a b).take k++[vO a[k] b[k]]=(fN a b).take (k+1):=aTI _ a b h1 h2
def aAS (a b:List Int) (k:Nat):Bool:=((a.zip b).take k).any fun p=>(dP p.1 p.2).2
def wF (a b:List (List Int)) (k:Nat):Bool:=((a.zip b).take k).any fun p=>aPE p.1 p.2
theorem aT0 (a b:List Int) {k:Nat} (h1:k<a.length) (h2:k<b.length):aAS a b (k+1)=(aAS a b k || (dP a[k] b[k]).2):=aU6 _ a b h1 h2
theorem aQX (a b:List (List Int)) {k:Nat} (h1:k<a.length) (h2:k<b.length):wF a b (k+1)=(wF a b k || aPE a[k] b[k]):=aU6 _ a b h1 h2
theorem aUO (a b:List Int) {k:Nat} (h:min a.length b.length≤k):aAS a b k=aPE a b:=by unfold aAS aPE;rw[aYB a b h]
theorem aVY (a b:List (List Int)) {k:Nat} (h:min a.length b.length≤k):wF a b k=aFP a b:=by unfold wF aFP;rw[aYB a b h]
def eR:Con:=⟨160,tI,(.bEL tI .bool),[.val ⟨false,tI,[]⟩],[⟨false,tI,[0]⟩,⟨false,.bool,[0]⟩],false,none,
 ((fun _=>True):(Int)→Prop),
 ((fun x=>aRF x):(Int)→(Int × Bool))⟩
def aC7:T :=
 .bEM (.cmp .gtr .i64) (.bEN tI tI (.Z 0) (.ci .i64 2147483647)) <|
 .ite (.Z 1) (
  .ret (.bEN tI .bool (.ci .i64 2147483647) (.cb true))) (
  .bEM (.cmp .lss .i64) (.bEN tI tI (.Z 0) (.ci .i64 (-2147483647))) <|
  .ite (.Z 2) (
   .ret (.bEN tI .bool (.ci .i64 (-2147483647)) (.cb true))) (
   .ret (.bEN tI .bool (.Z 0) (.cb false))))
theorem aUZ:bJ Tryz.prog [] eR false 3000 ⟨[],[]⟩ = .ok aC7:=by kernel_rfl
theorem aX8 (x:Int) (hx:okD tI x) (hp:(fun _=>True) x):aC7.wp [] [⟨tI,x⟩] [] (fun v=>v.as (.bEL tI .bool)=(fun x=>aRF x) x):=by
 delta aC7;refine eE ?_
 unfold aRF dX
 refine fJ ?_
 refine ⟨fun h=>?_,fun h=>⟨fun h2=>?_,fun h2=>?_⟩⟩
 ·have:min (max x (-2147483647)) 2147483647=2147483647:=by omega
  rw[this];simp;omega
 ·have:min (max x (-2147483647)) 2147483647 = -2147483647:=by omega
  rw[this];simp;omega
 ·have:min (max x (-2147483647)) 2147483647=x:=by omega
  rw[this];simp
theorem yG:Con.Holds Tryz.prog eR:=aQ aR aO aUZ aX8
def fO:Con:=⟨161,tI,tI,[.val ⟨false,tI,[]⟩],[⟨false,tI,[0]⟩],false,none,
 ((fun _=>True):(Int)→Prop),
 ((fun x=>dX x):(Int)→(Int))⟩
def aGC:T:=.call 0 (.Z 0) <|.ret (.p1 tI .bool (.Z 1))
theorem aZW:bJ Tryz.prog [eR] fO false 3000 ⟨[],[]⟩ = .ok aGC:=by kernel_rfl
theorem aY0 (x:Int) (hx:okD tI x) (hp:(fun _=>True) x):aGC.wp [eR] [⟨tI,x⟩] [] (fun v=>v.as tI=(fun x=>dX x) x):=by
 delta aGC eR;refine eE ?_
 exact fun _=>rfl
theorem aB9:Con.Holds Tryz.prog fO:=aQ aR (aG yG aO) aZW aY0
def cS:Con:=⟨133,aD,(.bEL tI .bool),[.val ⟨false,tI,[]⟩,.val ⟨false,tI,[]⟩],[⟨false,tI,[0]⟩,⟨false,.bool,[0]⟩],false,none,
 ((fun _=>True):(Int × Int)→Prop),
 ((fun x=>dP x.1 x.2):(Int × Int)→(Int × Bool))⟩
def zQ:T:=.call 0 (.p1 tI tI (.Z 0)) <|.call 0 (aN aD 1 (.Z 0)) <|
 .bEM (.ar .add .i64) (.bEN tI tI (.Z 1) (.Z 2)) <|
 .call 1 (.Z 3) <|
 .ret (.Z 4)
theorem aRX:bJ Tryz.prog [fO,eR] cS false 3000 ⟨[],[]⟩ = .ok zQ:=by kernel_rfl
theorem aR5 (x:Int × Int) (hx:okD aD x) (hp:(fun _=>True) x):zQ.wp [fO,eR] [⟨aD,x⟩] [] (fun v=>v.as (.bEL tI .bool)=(fun x=>dP x.1 x.2) x):=by
 delta zQ fO eR;refine eE ?_
 intro _ _
 have h1:=sJ x.1
 have h2:=sJ x.2
 exact ⟨by omega,fun _ _=>rfl⟩
theorem pV:Con.Holds Tryz.prog cS:=aQ aR (aG aB9 (aG yG aO)) aRX aR5
def mZ:Con:=⟨157,aE,aE,[.val ⟨false,aE,[]⟩],[⟨false,aE,[2]⟩],false,none,
 ((fun x=>List.length x≤1000000000∧∀ y∈x,List.length y≤1000000000):(bX)→Prop),
 ((fun x=>x):(bX)→(bX))⟩
def uZ:T:=.loop aC (.bEN tI aE (.ci .i64 0) (.nl 112 aA)) <|
 .bEM (.bEP 112 aA) (.Z 0) <|
 .bEM (.cmp .lss .i64) (.bEN tI tI (.p1 tI aE (.Z 1)) (.Z 2)) <|
 .ite (.Z 3) (
  .bEM (.bEQ 112 aA) (.bEN aE tI (.Z 0) (.p1 tI aE (.Z 1))) <|
  .bEM (.bES 3 tI 8) (.bEN aA aA (.nl 3 tI) (.Z 4)) <|
  .bEM (.lit 112 aA 1) (.Z 5) <|
  .bEM (.bES 112 aA 24) (.bEN aE aE (aN aC 1 (.Z 1)) (.Z 6)) <|
  .bEM (.ar .add .i64) (.bEN tI tI (.p1 tI aE (.Z 1)) (.ci .i64 1)) <|
  .bEO 0 (.bEN tI aE (.Z 8) (.Z 7))) (
  .ret (aN aC 1 (.Z 1)))
theorem aPK:bJ Tryz.prog [] mZ false 3000 ⟨[(2991,1001,[.dr 5,.tm 4 0,.on 3,.sl 1])],[(2983,3004,[19],[])]⟩ = .ok uZ:=by kernel_rfl
theorem aN6 (x:bX) (hx:okD aE x) (hp:(fun x=>List.length x≤1000000000∧∀ y∈x,List.length y≤1000000000) x):uZ.wp [] [⟨aE,x⟩] [] (fun v=>v.as aE=(fun x=>x) x):=by
 obtain ⟨hp1,hp2⟩:List.length x≤1000000000∧∀ y∈x,List.length y≤1000000000:=hp
 delta uZ;refine eE ?_
 refine ⟨fun s=>∃ k:Nat,k≤x.length∧s=((k:Int),x.take k),fun s=>x.length - (s.1:Int).toNat,⟨0,Nat.zero_le _,by simp⟩,fun s hs hI=>?_⟩
 obtain ⟨k,hk,rfl⟩:=hI
 dsimp only
 refine fJ ?_
 intro _
 constructor
 ·intro hlt
  have hk':k<x.length:=by omega
  rw[bE hk']
  have hm:=hp2 _ (List.getElem_mem hk')
  have hl:(x.take k).length=k:=List.length_take_of_le hk
  (repeat' first|intro _|(with_reducible apply And.intro))
  all_goals first|omega|(unfold maxLen;omega)|(exact ⟨k+1,by omega,by rw[aKX hk'];rfl⟩)
 ·intro hge
  have:k=x.length:=by omega
  subst this
  show x.take x.length=x
  simp
theorem aOL:Con.Holds Tryz.prog mZ:=aQ aR aO aPK aN6
def rW:Con:=⟨165,aU,(.bEL aA .bool),[.val ⟨false,aA,[]⟩,.val ⟨false,aA,[]⟩],[⟨false,aA,[2]⟩,⟨false,.bool,[0]⟩],false,none,
 ((fun x=>List.length x.1≤1000000000∧List.length x.2≤1000000000):(eZ)→Prop),
 ((fun x=>(vO x.1 x.2,aPE x.1 x.2)):(eZ)→(aW × Bool))⟩
def aCQ:T:=.loop (.bEL tI (.bEL .bool aA)) (aY (.bEL tI (.bEL .bool aA)) [(.ci .i64 0),(.cb false),(.nl 3 tI)]) <|
 .bEM (.bEP 3 tI) (.p1 aA aA (.Z 0)) <|
 .bEM (.cmp .lss .i64) (.bEN tI tI (.p1 tI (.bEL .bool aA) (.Z 1)) (.Z 2)) <|
 .ite (.Z 3) (
  .bEM (.bEP 3 tI) (aN aU 1 (.Z 0)) <|
  .bEM (.cmp .lss .i64) (.bEN tI tI (.p1 tI (.bEL .bool aA) (.Z 1)) (.Z 4)) <|
  .ite (.Z 5) (
   .bEM (.bEQ 3 tI) (.bEN aA tI (.p1 aA aA (.Z 0)) (.p1 tI (.bEL .bool aA) (.Z 1))) <|
   .bEM (.bEQ 3 tI) (.bEN aA tI (aN aU 1 (.Z 0)) (.p1 tI (.bEL .bool aA) (.Z 1))) <|
   .call 0 (.bEN tI tI (.Z 6) (.Z 7)) <|
   .bEM (.lit 3 tI 1) (.p1 tI .bool (.Z 8)) <|
   .bEM (.bES 3 tI 8) (.bEN aA aA (aN (.bEL tI (.bEL .bool aA)) 2 (.Z 1)) (.Z 9)) <|
   .ite (aI (.bEL tI (.bEL .bool aA)) 1 (.Z 1)) (
    .bEM (.ar .add .i64) (.bEN tI tI (.p1 tI (.bEL .bool aA) (.Z 1)) (.ci .i64 1)) <|
    .bEO 0 (aY (.bEL tI (.bEL .bool aA)) [(.Z 11),(.cb true),(.Z 10)])) (
    .bEM (.ar .add .i64) (.bEN tI tI (.p1 tI (.bEL .bool aA) (.Z 1)) (.ci .i64 1)) <|
    .bEO 0 (aY (.bEL tI (.bEL .bool aA)) [(.Z 11),(aN (.bEL tI .bool) 1 (.Z 8)),(.Z 10)]))) (
   .ret (.bEN aA .bool (aN (.bEL tI (.bEL .bool aA)) 2 (.Z 1)) (aI (.bEL tI (.bEL .bool aA)) 1 (.Z 1))))) (
  .ret (.bEN aA .bool (aN (.bEL tI (.bEL .bool aA)) 2 (.Z 1)) (aI (.bEL tI (.bEL .bool aA)) 1 (.Z 1))))
theorem aXF:bJ Tryz.prog [cS] rW false 3000 ⟨[(2989,1001,[.dr 11,.tm 8 0,.tm 7 0,.on 6,.sl 1])],[]⟩ = .ok aCQ:=by kernel_rfl
theorem aUS (x:eZ) (hx:okD aU x) (hp:(fun x=>List.length x.1≤1000000000∧List.length x.2≤1000000000) x):aCQ.wp [cS] [⟨aU,x⟩] [] (fun v=>v.as (.bEL aA .bool)=(fun x=>(vO x.1 x.2,aPE x.1 x.2)) x):=by
 obtain ⟨A,B⟩:=x
 obtain ⟨mA,mB⟩:List.length A≤1000000000∧List.length B≤1000000000:=hp
 delta aCQ cS;refine eE ?_
 refine ⟨fun s=>∃ j:Nat,j≤A.length∧j≤B.length∧s=((j:Int),aAS A B j,(vO A B).take j),fun s=>A.length - (s.1:Int).toNat,⟨0,by omega,by omega,by simp[aAS]⟩,fun s _ hI=>?_⟩
 obtain ⟨j,hj1,hj2,rfl⟩:=hI
 dsimp only
 refine fJ ?_
 have hl:List.length ((vO A B).take j)=j:=by rw[List.length_take,aFS];omega
 have out:A.length≤j∨B.length≤j→((vO A B).take j,aAS A B j)=(vO A B,aPE A B):=fun h=>by
  rw[aEX (l:=vO A B) (by rw[aFS];omega),aUO A B (by omega)]
 (repeat' first|intro _|(with_reducible apply And.intro))
 all_goals first|omega|(unfold maxLen;omega)|(exact out (by omega))|(refine ⟨j+1,by omega,by omega,?_⟩)
 all_goals rw[bE (show j<A.length by omega),bE (show j<B.length by omega),aXC A B (by omega) (by omega),aT0 A B (by omega) (by omega)]
 ·rw[show aAS A B j=true by assumption];rfl
 ·rw[show aAS A B j=false by assumption];rfl
theorem aUM:Con.Holds Tryz.prog rW:=aQ aR (aG pV aO) aXF aUS
def bM:Con:=⟨57,(.bEL tI aD),.bool,[.val ⟨false,tI,[]⟩,.val ⟨false,tI,[]⟩,.val ⟨false,tI,[]⟩],[⟨false,.bool,[0]⟩],false,none,
 ((fun _=>True):(Int × eY)→Prop),
 ((fun x=>decide (x.2.1≤x.1)&&decide (x.1≤x.2.2)):(Int × eY)→(Bool))⟩
def aFM:T :=
 .bEM (.cmp .geq .i64) (.bEN tI tI (.p1 tI aD (.Z 0)) (aI (.bEL tI aD) 1 (.Z 0))) <|
 .ite (.Z 1) (
  .bEM (.cmp .leq .i64) (.bEN tI tI (.p1 tI aD (.Z 0)) (aN (.bEL tI aD) 2 (.Z 0))) <|
  .ret (.Z 2)) (
  .ret (.cb false))
theorem aZ7:bJ Tryz.prog [] bM false 3000 ⟨[],[]⟩ = .ok aFM:=by kernel_rfl
theorem aXR (x:Int × eY) (hx:okD (.bEL tI aD) x) (hp:(fun _=>True) x):aFM.wp [] [⟨(.bEL tI aD),x⟩] [] (fun v=>v.as .bool=(fun x=>decide (x.2.1≤x.1)&&decide (x.1≤x.2.2)) x):=by
 delta aFM;refine eE ?_
 refine fJ ?_
 constructor
 ·intro h;simp[h]
 ·intro h
  have:¬ x.2.1≤x.1:=by omega
  simp[this]
theorem iV:Con.Holds Tryz.prog bM:=aQ aR aO aZ7 aXR
def lF:Con:=⟨136,(.bEL aX aX),aX,[.val ⟨true,aX,[]⟩,.val ⟨true,aX,[]⟩],[⟨true,aX,[2,0,0]⟩],false,none,
 ((fun x=>qX x.1∧qX x.2):(iN × iN)→Prop),
 ((fun x=>lD x.1 x.2):(iN × iN)→(iN))⟩
def tR:T:=.ite (aN aX 2 (.p1 aX aX (.Z 0))) (.loop aC (.bEN tI aE (.ci .i64 0) (.nl 112 aA)) <|
  .bEM (.bEP 112 aA) (.p1 aE (.bEL tI .bool) (.p1 aX aX (.Z 0))) <|
  .bEM (.cmp .lss .i64) (.bEN tI tI (.p1 tI aE (.Z 1)) (.Z 2)) <|
  .ite (.Z 3) (
   .bEM (.bEP 112 aA) (aI (.bEL aX aX) 1 (.Z 0)) <|
   .bEM (.cmp .lss .i64) (.bEN tI tI (.p1 tI aE (.Z 1)) (.Z 4)) <|
   .ite (.Z 5) (
    .bEM (.bEQ 112 aA) (.bEN aE tI (.p1 aE (.bEL tI .bool) (.p1 aX aX (.Z 0))) (.p1 tI aE (.Z 1))) <|
    .bEM (.bEQ 112 aA) (.bEN aE tI (aI (.bEL aX aX) 1 (.Z 0)) (.p1 tI aE (.Z 1))) <|
    .call 0 (.bEN aA aA (.Z 6) (.Z 7)) <|
    .bEM (.lit 112 aA 1) (.p1 aA .bool (.Z 8)) <|
    .bEM (.bES 112 aA 24) (.bEN aE aE (aN aC 1 (.Z 1)) (.Z 9)) <|
    .bEM (.ar .add .i64) (.bEN tI tI (.p1 tI aE (.Z 1)) (.ci .i64 1)) <|
    .bEO 0 (.bEN tI aE (.Z 11) (.Z 10))) (
    .call 1 (.bEN tI tI (aI aX 1 (.p1 aX aX (.Z 0))) (aI (.bEL aX aX) 2 (.Z 0))) <|
    .ret (aY aX [(aN aC 1 (.Z 1)),(.p1 tI .bool (.Z 6)),(.cb true)]))) (
   .call 1 (.bEN tI tI (aI aX 1 (.p1 aX aX (.Z 0))) (aI (.bEL aX aX) 2 (.Z 0))) <|
   .ret (aY aX [(aN aC 1 (.Z 1)),(.p1 tI .bool (.Z 4)),(.cb true)]))) (
 .loop (.bEL tI (.bEL aE .bool)) (aY (.bEL tI (.bEL aE .bool)) [(.ci .i64 0),(.nl 112 aA),(aN (.bEL aX aX) 3 (.Z 0))]) <|
  .bEM (.bEP 112 aA) (.p1 aE (.bEL tI .bool) (.p1 aX aX (.Z 0))) <|
  .bEM (.cmp .lss .i64) (.bEN tI tI (.p1 tI (.bEL aE .bool) (.Z 1)) (.Z 2)) <|
  .ite (.Z 3) (
   .bEM (.bEP 112 aA) (aI (.bEL aX aX) 1 (.Z 0)) <|
   .bEM (.cmp .lss .i64) (.bEN tI tI (.p1 tI (.bEL aE .bool) (.Z 1)) (.Z 4)) <|
   .ite (.Z 5) (
    .bEM (.bEQ 112 aA) (.bEN aE tI (.p1 aE (.bEL tI .bool) (.p1 aX aX (.Z 0))) (.p1 tI (.bEL aE .bool) (.Z 1))) <|
    .bEM (.bEQ 112 aA) (.bEN aE tI (aI (.bEL aX aX) 1 (.Z 0)) (.p1 tI (.bEL aE .bool) (.Z 1))) <|
    .call 0 (.bEN aA aA (.Z 6) (.Z 7)) <|
    .bEM (.lit 112 aA 1) (.p1 aA .bool (.Z 8)) <|
    .bEM (.bES 112 aA 24) (.bEN aE aE (aI (.bEL tI (.bEL aE .bool)) 1 (.Z 1)) (.Z 9)) <|
    .ite (aN (.bEL tI (.bEL aE .bool)) 2 (.Z 1)) (
     .bEM (.ar .add .i64) (.bEN tI tI (.p1 tI (.bEL aE .bool) (.Z 1)) (.ci .i64 1)) <|
     .bEO 0 (aY (.bEL tI (.bEL aE .bool)) [(.Z 11),(.Z 10),(.cb true)])) (
     .bEM (.ar .add .i64) (.bEN tI tI (.p1 tI (.bEL aE .bool) (.Z 1)) (.ci .i64 1)) <|
     .bEO 0 (aY (.bEL tI (.bEL aE .bool)) [(.Z 11),(.Z 10),(aN (.bEL aA .bool) 1 (.Z 8))]))) (
    .call 1 (.bEN tI tI (aI aX 1 (.p1 aX aX (.Z 0))) (aI (.bEL aX aX) 2 (.Z 0))) <|
    .ite (aN (.bEL tI (.bEL aE .bool)) 2 (.Z 1)) (
     .ret (aY aX [(aI (.bEL tI (.bEL aE .bool)) 1 (.Z 1)),(.p1 tI .bool (.Z 6)),(.cb true)])) (
     .ret (.bEN aE (.bEL tI .bool) (aI (.bEL tI (.bEL aE .bool)) 1 (.Z 1)) (.Z 6))))) (
   .call 1 (.bEN tI tI (aI aX 1 (.p1 aX aX (.Z 0))) (aI (.bEL aX aX) 2 (.Z 0))) <|
   .ite (aN (.bEL tI (.bEL aE .bool)) 2 (.Z 1)) (
    .ret (aY aX [(aI (.bEL tI (.bEL aE .bool)) 1 (.Z 1)),(.p1 tI .bool (.Z 4)),(.cb true)])) (
    .ret (.bEN aE (.bEL tI .bool) (aI (.bEL tI (.bEL aE .bool)) 1 (.Z 1)) (.Z 4)))))
theorem aL5:bJ Tryz.prog [rW,cS] lF false 3000 ⟨[(2991,3001,jT 17 11++[.dr 0,.dr 1,.tm 6 0,.sl 7]),(2991,2001,jT 17 11++[.dr 0,.dr 1,.tm 6 0,.sl 7,.bx 5 2])],[(2980,15009,[],[8]),(2980,14009,[],[8])]⟩ = .ok tR:=by kernel_rfl
theorem aLU (x:iN × iN) (hx:okD (.bEL aX aX) x) (hp:(fun x=>qX x.1∧qX x.2) x):tR.wp [rW,cS] [⟨(.bEL aX aX),x⟩] [] (fun v=>v.as aX=(fun x=>lD x.1 x.2) x):=by
 obtain ⟨⟨a,la,sa⟩,⟨b,lb,sb⟩⟩:=x
 obtain ⟨⟨ha,ha'⟩,⟨hb,hb'⟩⟩:qX (a,la,sa)∧qX (b,lb,sb):=hp
 dsimp only at ha ha' hb hb'
 delta tR rW cS;refine eE ?_
 constructor
 ·intro hsat
  refine ⟨fun s=>∃ k:Nat,k≤a.length∧k≤b.length∧s=((k:Int),(fN a b).take k),fun s=>a.length - (s.1:Int).toNat,⟨0,by omega,by omega,by simp⟩,fun s _ hI=>?_⟩
  obtain ⟨k,hk1,hk2,rfl⟩:=hI
  dsimp only
  refine fJ ?_
  have fin:a.length≤k∨b.length≤k→∀ r:Int × Bool,r=dP la lb→((fN a b).take k,(r.1,true))=lD (a,la,sa) (b,lb,sb):=fun h r hr=>by
   rw[hr,aEX (by rw[mW];omega)]
   unfold lD
   dsimp only at hsat ⊢
   rw[hsat]
   simp
  have hl2:List.length ((fN a b).take k)=k:=by rw[List.length_take,mW];omega
  (repeat' first|intro _|(with_reducible apply And.intro))
  all_goals first|omega|(unfold maxLen;omega)|(exact fin (by omega) _ rfl)|skip
  all_goals have h1:k<a.length:=by omega
  all_goals have h2:k<b.length:=by omega
  all_goals simp only[bE h1,bE h2]
  all_goals first|(exact ha' _ (List.getElem_mem h1))|(exact hb' _ (List.getElem_mem h2))|(exact ⟨k+1,by omega,by omega,by rw[aBA a b h1 h2];rfl⟩)
 ·intro hsat
  refine ⟨fun s=>∃ k:Nat,k≤a.length∧k≤b.length∧s=((k:Int),(fN a b).take k,sb || wF a b k),fun s=>a.length - (s.1:Int).toNat,⟨0,by omega,by omega,by simp[wF]⟩,fun s _ hI=>?_⟩
  obtain ⟨k,hk1,hk2,rfl⟩:=hI
  dsimp only
  refine fJ ?_
  have fin:a.length≤k∨b.length≤k→∀ r:Int × Bool,r=dP la lb→((fN a b).take k,(r.1,(sb || wF a b k) || r.2))=lD (a,la,sa) (b,lb,sb):=fun h r hr=>by
   rw[hr,aEX (by rw[mW];omega),aVY a b (by omega)]
   unfold lD
   dsimp only at hsat ⊢
   rw[hsat]
   simp
  have hl2:List.length ((fN a b).take k)=k:=by rw[List.length_take,mW];omega
  (repeat' first|intro _|(with_reducible apply And.intro))
  all_goals first|omega|(unfold maxLen;omega)|skip
  all_goals first|(rw[show (sb || wF a b k)=true by assumption] at fin;exact fin (by omega) _ rfl)|(rw[show (sb || wF a b k)=false by assumption] at fin;exact fin (by omega) _ rfl)|skip
  all_goals have h1:k<a.length:=by omega
  all_goals have h2:k<b.length:=by omega
  all_goals simp only[bE h1,bE h2]
  all_goals first|(exact ha' _ (List.getElem_mem h1))|(exact hb' _ (List.getElem_mem h2))|(refine ⟨k+1,by omega,by omega,?_⟩)
  all_goals rw[aBA a b h1 h2,aQX a b h1 h2,← Bool.or_assoc]
  ·rw[show (sb || wF a b k)=true by assumption];rfl
  ·rw[show (sb || wF a b k)=false by assumption];rfl
theorem aLC:Con.Holds Tryz.prog lF:=aQ aR (aG aUM (aG pV aO)) aL5 aLU
end
end Go.Proofs.YtdeobhdbmehpgaaGreat
