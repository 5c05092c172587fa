/- Lin2: lemmas. No conditions. -/
import Derived.Test.YtpleleanibgniaaGreatLoop
import Derived.Test.YtpleleanibgniaaGreatStage3
namespace Go.Proofs.YtpleleanibgniaaGreat
noncomputable section
set_option maxRecDepth 100000
open Go.ChangeShapes Go.WideShapes Go.ChangeAt Go.RowKit Go.Deep
set_option linter.unusedVariables false
set_option linter.unusedSimpArgs false
def mp {α:Type} (n:Nat) (g:Nat→α):List α:=(List.range n).map g
def an (n:Nat) (h:Nat→Bool):Bool:=(List.range n).any h
theorem aVU {α:Type} (g:Nat→α):mp 0 g=[]:=rfl
theorem bFX (h:Nat→Bool):an 0 h=false:=rfl
theorem mX {α:Type} (n:Nat) (g:Nat→α):mp (n+1) g=mp n g++[g n]:=by unfold mp;rw[List.range_succ,List.map_append];rfl
theorem zB (n:Nat) (h:Nat→Bool):an (n+1) h=(an n h || h n):=by unfold an;rw[List.range_succ,List.any_append];simp
theorem iD {α:Type} (n:Nat) (g:Nat→α):(mp n g).length=n:=by unfold mp;simp
theorem aW7 {α:Type} (n:Nat) (g:Nat→α) (d:α) {i:Nat} (h:i<n):(mp n g).getD i d=g i:=by unfold mp;simp[h]
theorem bF5 {α:Type} {n:Nat} {g h:Nat→α} (e:∀ i,i<n→g i=h i):mp n g=mp n h:=List.map_congr_left fun i hi=>e i (List.mem_range.1 hi)
theorem bER {n:Nat} {g h:Nat→Bool} (e:∀ i,i<n→g i=h i):an n g=an n h:=by
 rw[Bool.eq_iff_iff];unfold an;simp only[List.any_eq_true,List.mem_range]
 exact ⟨fun ⟨i,h1,h2⟩=>⟨i,h1,by rw[← e i h1];exact h2⟩,fun ⟨i,h1,h2⟩=>⟨i,h1,by rw[e i h1];exact h2⟩⟩
theorem qU {a b:Bool} (h:a=true):true=(a || b):=by rw[h];rfl
theorem zY {a b:Bool} (h:a=false):b=(a || b):=by rw[h];rfl
theorem bIH {a b c:Bool} (h:a=true):true=((a || b) || c):=by rw[h];rfl
theorem bI0 {a b c:Bool} (h:a=false) (h2:b=true):true=((a || b) || c):=by rw[h,h2];rfl
theorem bIL {a b c:Bool} (h:a=false) (h2:b=false):c=((a || b) || c):=by rw[h,h2];rfl
def kN (a b:Int):Int × Bool:=aSH (gJ a - gJ b)
def iE (a b:Int):Int × Bool:=aSH ((gJ a * gJ b).fdiv 65536)
def aWV (x:Int):Int:=max 0 (gJ x)
theorem bJ1 {x y:Int} (h1:-2147483647≤x∧x≤2147483647) (h2:-2147483647≤y∧y≤2147483647):-4611686014132420609≤x * y∧x * y≤4611686014132420609:=by
 have h:(x * y).natAbs≤2147483647 * 2147483647:=by
  rw[Int.natAbs_mul];exact Nat.mul_le_mul (by omega) (by omega)
 omega
def vI (a b:List Int):Bool:=kO a&&gC b (a.length:Int)
def vz (f:Int→Int→Int × Bool) (a b:List Int) (n:Nat):List Int × Bool:=(mp n fun i=>(f (a.getD i 0) (b.getD i 0)).1,an n fun i=>(f (a.getD i 0) (b.getD i 0)).2)
def qG (f:Int→Int→Int × Bool) (a b:List Int):List Int × Bool:=if vI a b=true then vz f a b a.length else ([],false)
def zU (c:Int) (a:List Int):List Int × Bool:=if iI c=true∧kO a=true then (mp a.length fun i=>(iE c (a.getD i 0)).1,an a.length fun i=>(iE c (a.getD i 0)).2) else ([],false)
def aKA (a b:List Int):Nat→Int × Bool
 | 0=>(0,false)
 | k+1=>((eI (aKA a b k).1 (iE (a.getD k 0) (b.getD k 0)).1).1,(aKA a b k).2 || (iE (a.getD k 0) (b.getD k 0)).2 || (eI (aKA a b k).1 (iE (a.getD k 0) (b.getD k 0)).1).2)
def lK (a b:List Int):Int × Bool:=if vI a b=true then aKA a b a.length else (0,false)
def uN (a:List Int):List Int:=if kO a=true then mp a.length fun i=>aWV (a.getD i 0) else []
def uP (x d:List Int):List Int:=if vI x d=true then mp x.length fun i=>if 0<x.getD i 0 then d.getD i 0 else 0 else []
theorem aWY (a b:List Int):vI a b=true↔kO a=true∧gC b (a.length:Int)=true:=by unfold vI;rw[Bool.and_eq_true]
theorem oK {a b:List Int} (h:vI a b=true):a.length≤6∧b.length=a.length:=by
 obtain ⟨h1,h2⟩:=(aWY a b).1 h
 have:=(dB a).1 h1
 have:=(tO _ _).1 h2
 omega
theorem aVF {f:Int→Int→Int × Bool} {a b:List Int} (h:vI a b=false):([],false)=qG f a b:=by unfold qG;rw[if_neg (by rw[h];exact Bool.false_ne_true)]
theorem aOH {f:Int→Int→Int × Bool} {a b:List Int} (h:vI a b=true):qG f a b=vz f a b a.length:=if_pos h
theorem aYQ (a b:List Int) (k:Nat):aKA a b (k+1)=((eI (aKA a b k).1 (iE (a.getD k 0) (b.getD k 0)).1).1,(aKA a b k).2 || (iE (a.getD k 0) (b.getD k 0)).2 || (eI (aKA a b k).1 (iE (a.getD k 0) (b.getD k 0)).1).2):=rfl
def pP:Con:=⟨104,aC,(.bJ2 tI .bool),[.val ⟨false,tI,[]⟩,.val ⟨false,tI,[]⟩],[⟨false,tI,[0]⟩,⟨false,.bool,[0]⟩],false,none,
 ((fun _=>True):(Int × Int)→Prop),
 ((fun x=>kN x.1 x.2):(Int × Int)→(Int × Bool))⟩
def aB5:T:=.call 0 (.p1 tI tI (.Z 0)) <|.call 0 (aR aC 1 (.Z 0)) <|
 .bJ3 (.ar .sub .i64) (.bJ4 tI tI (.Z 1) (.Z 2)) <|
 .call 1 (.Z 3) <|
 .ret (.Z 4)
theorem aUI:bV Tryz.prog [dX,fW] pP false 3000 ⟨[],[]⟩ = .ok aB5:=by kernel_rfl
theorem aT7 (x:Int × Int) (hx:okD aC x) (hp:(fun _=>True) x):aB5.wp [dX,fW] [⟨aC,x⟩] [] (fun v=>v.as (.bJ2 tI .bool)=(fun x=>kN x.1 x.2) x):=by
 delta aB5 dX fW;refine eE ?_
 intro _ _
 have h1:=sX x.1
 have h2:=sX x.2
 exact ⟨by omega,fun _ _=>rfl⟩
theorem aU4:Con.Holds Tryz.prog pP:=aV aX (aG tC (aG aAD aT)) aUI aT7
def fX:Con:=⟨114,aC,(.bJ2 tI .bool),[.val ⟨false,tI,[]⟩,.val ⟨false,tI,[]⟩],[⟨false,tI,[0]⟩,⟨false,.bool,[0]⟩],false,none,
 ((fun _=>True):(Int × Int)→Prop),
 ((fun x=>iE x.1 x.2):(Int × Int)→(Int × Bool))⟩
def aAV:T:=.call 0 (.p1 tI tI (.Z 0)) <|.call 0 (aR aC 1 (.Z 0)) <|
 .bJ3 (.ar .mul .i64) (.bJ4 tI tI (.Z 1) (.Z 2)) <|
 .bJ3 (.shr .i64 .u64) (.bJ4 tI (.int .u64) (.Z 3) (.ci .u64 16)) <|
 .call 1 (.Z 4) <|
 .ret (.Z 5)
theorem aTJ:bV Tryz.prog [dX,fW] fX false 3000 ⟨[],[]⟩ = .ok aAV:=by kernel_rfl
theorem aSB (x:Int × Int) (hx:okD aC x) (hp:(fun _=>True) x):aAV.wp [dX,fW] [⟨aC,x⟩] [] (fun v=>v.as (.bJ2 tI .bool)=(fun x=>iE x.1 x.2) x):=by
 delta aAV dX fW;refine eE ?_
 have h:=bJ1 (sX x.1) (sX x.2)
 exact fun _ _=>⟨by omega,fun _=>⟨by omega,fun _ _=>rfl⟩⟩
theorem aBB:Con.Holds Tryz.prog fX:=aV aX (aG tC (aG aAD aT)) aTJ aSB
def yF:Con:=⟨120,tI,tI,[.val ⟨false,tI,[]⟩],[⟨false,tI,[0]⟩],false,none,
 ((fun _=>True):(Int)→Prop),
 ((fun x=>aWV x):(Int)→(Int))⟩
def aH2:T:=.call 0 (.Z 0) <|
 .bJ3 (.mx .i64) (.bJ4 tI tI (.ci .i64 0) (.Z 1)) <|
 .ret (.Z 2)
theorem bBS:bV Tryz.prog [dX] yF false 3000 ⟨[],[]⟩ = .ok aH2:=by kernel_rfl
theorem bAJ (x:Int) (hx:okD tI x) (hp:(fun _=>True) x):aH2.wp [dX] [⟨tI,x⟩] [] (fun v=>v.as tI=(fun x=>aWV x) x):=by
 delta aH2 dX;refine eE ?_
 exact fun _ _=>rfl
theorem bCL:Con.Holds Tryz.prog yF:=aV aX (aG tC aT) bBS bAJ
def eA:Con:=⟨103,aQ,.bool,[.val ⟨false,aB,[]⟩,.val ⟨false,aB,[]⟩],[⟨false,.bool,[0]⟩],false,none,
 ((fun _=>True):(cI)→Prop),
 ((fun x=>vI x.1 x.2):(cI)→(Bool))⟩
def aBC:T:=.call 0 (.p1 aB aB (.Z 0)) <|.ite (.Z 1) (
 .bJ3 (.bJ6 3 tI) (.p1 aB aB (.Z 0)) <|
 .call 1 (.bJ4 aB tI (aR aQ 1 (.Z 0)) (.Z 2)) <|
 .ret (.Z 3)) (
 .ret (.cb false))
theorem aSM:bV Tryz.prog [cR,bZ] eA false 3000 ⟨[],[]⟩ = .ok aBC:=by kernel_rfl
theorem aSE (x:cI) (hx:okD aQ x) (hp:(fun _=>True) x):aBC.wp [cR,bZ] [⟨aQ,x⟩] [] (fun v=>v.as .bool=(fun x=>vI x.1 x.2) x):=by
 delta aBC cR bZ;refine eE ?_
 refine ⟨fun h _=>?_,fun h=>?_⟩
 ·unfold vI;rw[h,Bool.true_and]
 ·unfold vI;rw[h,Bool.false_and]
theorem uQ:Con.Holds Tryz.prog eA:=aV aX (aG mF (aG iM aT)) aSM aSE
def jA:Con:=⟨111,aQ,(.bJ2 aB .bool),[.val ⟨false,aB,[]⟩,.val ⟨false,aB,[]⟩],[⟨false,aB,[2]⟩,⟨false,.bool,[0]⟩],false,none,
 ((fun _=>True):(cI)→Prop),
 ((fun x=>qG eI x.1 x.2):(cI)→(bH × Bool))⟩
def aBD:T:=.call 0 (.Z 0) <|
 .bJ3 .not (.Z 1) <|
 .ite (.Z 2) (
  .ret (.bJ4 aB .bool (.nl 3 tI) (.cb false))) (
  .bJ3 (.bJ6 3 tI) (.p1 aB aB (.Z 0)) <|
  .loop (.bJ2 tI (.bJ2 .bool aB)) (bJ (.bJ2 tI (.bJ2 .bool aB)) [(.ci .i64 0),(.cb false),(.nl 3 tI)]) <|
   .bJ3 (.cmp .lss .i64) (.bJ4 tI tI (.p1 tI (.bJ2 .bool aB) (.Z 4)) (.Z 3)) <|
   .ite (.Z 5) (
    .bJ3 (.bJ7 3 tI) (.bJ4 aB tI (.p1 aB aB (.Z 0)) (.p1 tI (.bJ2 .bool aB) (.Z 4))) <|
    .bJ3 (.bJ7 3 tI) (.bJ4 aB tI (aR aQ 1 (.Z 0)) (.p1 tI (.bJ2 .bool aB) (.Z 4))) <|
    .call 1 (.bJ4 tI tI (.Z 6) (.Z 7)) <|
    .bJ3 (.lit 3 tI 1) (.p1 tI .bool (.Z 8)) <|
    .bJ3 (.bJ9 3 tI 8) (.bJ4 aB aB (aR (.bJ2 tI (.bJ2 .bool aB)) 2 (.Z 4)) (.Z 9)) <|
    .ite (aJ (.bJ2 tI (.bJ2 .bool aB)) 1 (.Z 4)) (
     .bJ3 (.ar .add .i64) (.bJ4 tI tI (.p1 tI (.bJ2 .bool aB) (.Z 4)) (.ci .i64 1)) <|
     .bJ5 0 (bJ (.bJ2 tI (.bJ2 .bool aB)) [(.Z 11),(.cb true),(.Z 10)])) (
     .bJ3 (.ar .add .i64) (.bJ4 tI tI (.p1 tI (.bJ2 .bool aB) (.Z 4)) (.ci .i64 1)) <|
     .bJ5 0 (bJ (.bJ2 tI (.bJ2 .bool aB)) [(.Z 11),(aR (.bJ2 tI .bool) 1 (.Z 8)),(.Z 10)]))) (
    .ret (.bJ4 aB .bool (aR (.bJ2 tI (.bJ2 .bool aB)) 2 (.Z 4)) (aJ (.bJ2 tI (.bJ2 .bool aB)) 1 (.Z 4)))))
theorem aT5:bV Tryz.prog [eA,eC] jA false 3000 ⟨[(2984,2004,mW 16 11++[.tm 18 0,.tm 7 0,.on 6,.sl 1])],[]⟩ = .ok aBD:=by kernel_rfl
theorem aSG (x:cI) (hx:okD aQ x) (hp:(fun _=>True) x):aBD.wp [eA,eC] [⟨aQ,x⟩] [] (fun v=>v.as (.bJ2 aB .bool)=(fun x=>qG eI x.1 x.2) x):=by
 obtain ⟨a,b⟩:=x
 delta aBD eA eC;refine eE ?_
 simp only[Bool.not_eq_true',Bool.not_eq_false']
 refine ⟨aVF,fun h _=>?_⟩
 have hl:=oK h
 rw[aOH h]
 refine fC (fun k=>((k:Int),an k (fun i=>(eI (a.getD i 0) (b.getD i 0)).2),mp k fun i=>(eI (a.getD i 0) (b.getD i 0)).1)) a.length rfl fun I μ k hk _ go=>?_
 dsimp only
 simp only[zO,iD]
 (repeat' first|intro _|(refine go _ ?_ ?_ ?_)|(refine go _ ?_ ?_)|(with_reducible apply And.intro))
 all_goals first|omega|(unfold maxLen;omega)|(rw[mX,zB];first|exact Prod.ext rfl (Prod.ext (qU (by assumption)) rfl)|exact Prod.ext rfl (Prod.ext (zY (by assumption)) rfl))|(have e:k=a.length:=(by omega);subst e;rfl)
theorem aIZ:Con.Holds Tryz.prog jA:=aV aX (aG uQ (aG uY aT)) aT5 aSG
def jN:Con:=⟨87,aQ,(.bJ2 aB .bool),[.val ⟨false,aB,[]⟩,.val ⟨false,aB,[]⟩],[⟨false,aB,[2]⟩,⟨false,.bool,[0]⟩],false,none,
 ((fun _=>True):(cI)→Prop),
 ((fun x=>qG kN x.1 x.2):(cI)→(bH × Bool))⟩
def aBS:T:=.call 0 (.Z 0) <|
 .bJ3 .not (.Z 1) <|
 .ite (.Z 2) (
  .ret (.bJ4 aB .bool (.nl 3 tI) (.cb false))) (
  .bJ3 (.bJ6 3 tI) (.p1 aB aB (.Z 0)) <|
  .loop (.bJ2 tI (.bJ2 .bool aB)) (bJ (.bJ2 tI (.bJ2 .bool aB)) [(.ci .i64 0),(.cb false),(.nl 3 tI)]) <|
   .bJ3 (.cmp .lss .i64) (.bJ4 tI tI (.p1 tI (.bJ2 .bool aB) (.Z 4)) (.Z 3)) <|
   .ite (.Z 5) (
    .bJ3 (.bJ7 3 tI) (.bJ4 aB tI (.p1 aB aB (.Z 0)) (.p1 tI (.bJ2 .bool aB) (.Z 4))) <|
    .bJ3 (.bJ7 3 tI) (.bJ4 aB tI (aR aQ 1 (.Z 0)) (.p1 tI (.bJ2 .bool aB) (.Z 4))) <|
    .call 1 (.bJ4 tI tI (.Z 6) (.Z 7)) <|
    .bJ3 (.lit 3 tI 1) (.p1 tI .bool (.Z 8)) <|
    .bJ3 (.bJ9 3 tI 8) (.bJ4 aB aB (aR (.bJ2 tI (.bJ2 .bool aB)) 2 (.Z 4)) (.Z 9)) <|
    .ite (aJ (.bJ2 tI (.bJ2 .bool aB)) 1 (.Z 4)) (
     .bJ3 (.ar .add .i64) (.bJ4 tI tI (.p1 tI (.bJ2 .bool aB) (.Z 4)) (.ci .i64 1)) <|
     .bJ5 0 (bJ (.bJ2 tI (.bJ2 .bool aB)) [(.Z 11),(.cb true),(.Z 10)])) (
     .bJ3 (.ar .add .i64) (.bJ4 tI tI (.p1 tI (.bJ2 .bool aB) (.Z 4)) (.ci .i64 1)) <|
     .bJ5 0 (bJ (.bJ2 tI (.bJ2 .bool aB)) [(.Z 11),(aR (.bJ2 tI .bool) 1 (.Z 8)),(.Z 10)]))) (
    .ret (.bJ4 aB .bool (aR (.bJ2 tI (.bJ2 .bool aB)) 2 (.Z 4)) (aJ (.bJ2 tI (.bJ2 .bool aB)) 1 (.Z 4)))))
theorem aTO:bV Tryz.prog [eA,pP] jN false 3000 ⟨[(2984,2004,mW 16 11++[.tm 18 0,.tm 7 0,.on 6,.sl 1])],[]⟩ = .ok aBS:=by kernel_rfl
theorem aS4 (x:cI) (hx:okD aQ x) (hp:(fun _=>True) x):aBS.wp [eA,pP] [⟨aQ,x⟩] [] (fun v=>v.as (.bJ2 aB .bool)=(fun x=>qG kN x.1 x.2) x):=by
 obtain ⟨a,b⟩:=x
 delta aBS eA pP;refine eE ?_
 simp only[Bool.not_eq_true',Bool.not_eq_false']
 refine ⟨aVF,fun h _=>?_⟩
 have hl:=oK h
 rw[aOH h]
 refine fC (fun k=>((k:Int),an k (fun i=>(kN (a.getD i 0) (b.getD i 0)).2),mp k fun i=>(kN (a.getD i 0) (b.getD i 0)).1)) a.length rfl fun I μ k hk _ go=>?_
 dsimp only
 simp only[zO,iD]
 (repeat' first|intro _|(refine go _ ?_ ?_ ?_)|(refine go _ ?_ ?_)|(with_reducible apply And.intro))
 all_goals first|omega|(unfold maxLen;omega)|(rw[mX,zB];first|exact Prod.ext rfl (Prod.ext (qU (by assumption)) rfl)|exact Prod.ext rfl (Prod.ext (zY (by assumption)) rfl))|(have e:k=a.length:=(by omega);subst e;rfl)
theorem aGC:Con.Holds Tryz.prog jN:=aV aX (aG uQ (aG aU4 aT)) aTO aS4
def gF:Con:=⟨112,aI,(.bJ2 aB .bool),[.val ⟨false,tI,[]⟩,.val ⟨false,aB,[]⟩],[⟨false,aB,[2]⟩,⟨false,.bool,[0]⟩],false,none,
 ((fun _=>True):(dW)→Prop),
 ((fun x=>zU x.1 x.2):(dW)→(bH × Bool))⟩
def uZ:T:=.call 0 (.p1 tI aB (.Z 0)) <|
 .bJ3 .not (.Z 1) <|
 .ite (.Z 2) (
  .ret (.bJ4 aB .bool (.nl 3 tI) (.cb false))) (
  .call 1 (aR aI 1 (.Z 0)) <|
  .bJ3 .not (.Z 3) <|
  .ite (.Z 4) (
   .ret (.bJ4 aB .bool (.nl 3 tI) (.cb false))) (
   .bJ3 (.bJ6 3 tI) (aR aI 1 (.Z 0)) <|
   .loop (.bJ2 tI (.bJ2 .bool aB)) (bJ (.bJ2 tI (.bJ2 .bool aB)) [(.ci .i64 0),(.cb false),(.nl 3 tI)]) <|
    .bJ3 (.cmp .lss .i64) (.bJ4 tI tI (.p1 tI (.bJ2 .bool aB) (.Z 6)) (.Z 5)) <|
    .ite (.Z 7) (
     .bJ3 (.bJ7 3 tI) (.bJ4 aB tI (aR aI 1 (.Z 0)) (.p1 tI (.bJ2 .bool aB) (.Z 6))) <|
     .call 2 (.bJ4 tI tI (.p1 tI aB (.Z 0)) (.Z 8)) <|
     .bJ3 (.lit 3 tI 1) (.p1 tI .bool (.Z 9)) <|
     .bJ3 (.bJ9 3 tI 8) (.bJ4 aB aB (aR (.bJ2 tI (.bJ2 .bool aB)) 2 (.Z 6)) (.Z 10)) <|
     .ite (aJ (.bJ2 tI (.bJ2 .bool aB)) 1 (.Z 6)) (
      .bJ3 (.ar .add .i64) (.bJ4 tI tI (.p1 tI (.bJ2 .bool aB) (.Z 6)) (.ci .i64 1)) <|
      .bJ5 0 (bJ (.bJ2 tI (.bJ2 .bool aB)) [(.Z 12),(.cb true),(.Z 11)])) (
      .bJ3 (.ar .add .i64) (.bJ4 tI tI (.p1 tI (.bJ2 .bool aB) (.Z 6)) (.ci .i64 1)) <|
      .bJ5 0 (bJ (.bJ2 tI (.bJ2 .bool aB)) [(.Z 12),(aR (.bJ2 tI .bool) 1 (.Z 9)),(.Z 11)]))) (
     .ret (.bJ4 aB .bool (aR (.bJ2 tI (.bJ2 .bool aB)) 2 (.Z 6)) (aJ (.bJ2 tI (.bJ2 .bool aB)) 1 (.Z 6))))))
theorem aNW:bV Tryz.prog [gW,cR,fX] gF false 3000 ⟨[(2984,4006,mW 20 11++[.tm 22 0,.tm 7 0,.on 6,.sl 1])],[]⟩ = .ok uZ:=by kernel_rfl
theorem aMH (x:dW) (hx:okD aI x) (hp:(fun _=>True) x):uZ.wp [gW,cR,fX] [⟨aI,x⟩] [] (fun v=>v.as (.bJ2 aB .bool)=(fun x=>zU x.1 x.2) x):=by
 obtain ⟨c,a⟩:=x
 delta uZ gW cR fX;refine eE ?_
 simp only[Bool.not_eq_true',Bool.not_eq_false']
 refine ⟨fun h=>?_,fun h1=>⟨fun h=>?_,fun h2 _=>?_⟩⟩
 ·unfold zU;rw[if_neg (by rw[h];simp)]
 ·unfold zU;rw[if_neg (by rw[h];simp)]
 have hl:=(dB a).1 h2
 rw[show zU c a=_ from if_pos ⟨h1,h2⟩]
 refine fC (fun k=>((k:Int),an k (fun i=>(iE c (a.getD i 0)).2),mp k fun i=>(iE c (a.getD i 0)).1)) a.length rfl fun I μ k hk _ go=>?_
 dsimp only
 simp only[zO,iD]
 (repeat' first|intro _|(refine go _ ?_ ?_ ?_)|(refine go _ ?_ ?_)|(with_reducible apply And.intro))
 all_goals first|omega|(unfold maxLen;omega)|(rw[mX,zB];first|exact Prod.ext rfl (Prod.ext (qU (by assumption)) rfl)|exact Prod.ext rfl (Prod.ext (zY (by assumption)) rfl))|(have e:k=a.length:=(by omega);subst e;rfl)
theorem aCU:Con.Holds Tryz.prog gF:=aV aX (aG aDX (aG mF (aG aBB aT))) aNW aMH
def fU:Con:=⟨100,aQ,(.bJ2 tI .bool),[.val ⟨false,aB,[]⟩,.val ⟨false,aB,[]⟩],[⟨false,tI,[0]⟩,⟨false,.bool,[0]⟩],false,none,
 ((fun _=>True):(cI)→Prop),
 ((fun x=>lK x.1 x.2):(cI)→(Int × Bool))⟩
def aAX:T:=.call 0 (.Z 0) <|
 .bJ3 .not (.Z 1) <|
 .ite (.Z 2) (
  .ret (.bJ4 tI .bool (.ci .i64 0) (.cb false))) (
  .bJ3 (.bJ6 3 tI) (.p1 aB aB (.Z 0)) <|
  .loop (.bJ2 tI (.bJ2 .bool tI)) (bJ (.bJ2 tI (.bJ2 .bool tI)) [(.ci .i64 0),(.cb false),(.ci .i64 0)]) <|
   .bJ3 (.cmp .lss .i64) (.bJ4 tI tI (.p1 tI (.bJ2 .bool tI) (.Z 4)) (.Z 3)) <|
   .ite (.Z 5) (
    .bJ3 (.bJ7 3 tI) (.bJ4 aB tI (.p1 aB aB (.Z 0)) (.p1 tI (.bJ2 .bool tI) (.Z 4))) <|
    .bJ3 (.bJ7 3 tI) (.bJ4 aB tI (aR aQ 1 (.Z 0)) (.p1 tI (.bJ2 .bool tI) (.Z 4))) <|
    .call 1 (.bJ4 tI tI (.Z 6) (.Z 7)) <|
    .call 2 (.bJ4 tI tI (aR (.bJ2 tI (.bJ2 .bool tI)) 2 (.Z 4)) (.p1 tI .bool (.Z 8))) <|
    .ite (aJ (.bJ2 tI (.bJ2 .bool tI)) 1 (.Z 4)) (
     .bJ3 (.ar .add .i64) (.bJ4 tI tI (.p1 tI (.bJ2 .bool tI) (.Z 4)) (.ci .i64 1)) <|
     .bJ5 0 (bJ (.bJ2 tI (.bJ2 .bool tI)) [(.Z 10),(.cb true),(.p1 tI .bool (.Z 9))])) (
     .ite (aR (.bJ2 tI .bool) 1 (.Z 8)) (
      .bJ3 (.ar .add .i64) (.bJ4 tI tI (.p1 tI (.bJ2 .bool tI) (.Z 4)) (.ci .i64 1)) <|
      .bJ5 0 (bJ (.bJ2 tI (.bJ2 .bool tI)) [(.Z 10),(.cb true),(.p1 tI .bool (.Z 9))])) (
      .bJ3 (.ar .add .i64) (.bJ4 tI tI (.p1 tI (.bJ2 .bool tI) (.Z 4)) (.ci .i64 1)) <|
      .bJ5 0 (bJ (.bJ2 tI (.bJ2 .bool tI)) [(.Z 10),(aR (.bJ2 tI .bool) 1 (.Z 9)),(.p1 tI .bool (.Z 9))])))) (
    .ret (.bJ4 tI .bool (aR (.bJ2 tI (.bJ2 .bool tI)) 2 (.Z 4)) (aJ (.bJ2 tI (.bJ2 .bool tI)) 1 (.Z 4)))))
theorem aUH:bV Tryz.prog [eA,fX,eC] fU false 3000 ⟨[(2984,2004,mW 17 13++[.tm 19 0,.tm 7 0,.tm 6 0])],[]⟩ = .ok aAX:=by kernel_rfl
theorem aTT (x:cI) (hx:okD aQ x) (hp:(fun _=>True) x):aAX.wp [eA,fX,eC] [⟨aQ,x⟩] [] (fun v=>v.as (.bJ2 tI .bool)=(fun x=>lK x.1 x.2) x):=by
 obtain ⟨a,b⟩:=x
 delta aAX eA fX eC;refine eE ?_
 simp only[Bool.not_eq_true',Bool.not_eq_false']
 refine ⟨fun h=>by unfold lK;rw[if_neg (by rw[h];exact Bool.false_ne_true)],fun h _=>?_⟩
 have hl:=oK h
 rw[show lK a b=_ from if_pos h]
 refine fC (fun k=>((k:Int),(aKA a b k).2,(aKA a b k).1)) a.length rfl fun I μ k hk _ go=>?_
 dsimp only
 (refine eL ?_;try with_reducible exact True.intro)
 (repeat' first|intro _|(refine go _ ?_ ?_ ?_)|(refine go _ ?_ ?_)|(with_reducible apply And.intro))
 all_goals first|omega|(rw[aYQ];first|exact Prod.ext rfl (Prod.ext (bIH (by assumption)) rfl)|exact Prod.ext rfl (Prod.ext (bI0 (by assumption) (by assumption)) rfl)|exact Prod.ext rfl (Prod.ext (bIL (by assumption) (by assumption)) rfl))|(have e:k=a.length:=(by omega);subst e;rfl)
theorem aAJ:Con.Holds Tryz.prog fU:=aV aX (aG uQ (aG aBB (aG uY aT))) aUH aTT
def nJ:Con:=⟨113,aB,aB,[.val ⟨false,aB,[]⟩],[⟨false,aB,[2]⟩],false,none,
 ((fun _=>True):(List Int)→Prop),
 ((fun x=>uN x):(List Int)→(List Int))⟩
def wO:T:=.call 0 (.Z 0) <|
 .bJ3 .not (.Z 1) <|
 .ite (.Z 2) (
  .ret (.nl 3 tI)) (
  .bJ3 (.bJ6 3 tI) (.Z 0) <|
  .loop aI (.bJ4 tI aB (.ci .i64 0) (.nl 3 tI)) <|
   .bJ3 (.cmp .lss .i64) (.bJ4 tI tI (.p1 tI aB (.Z 4)) (.Z 3)) <|
   .ite (.Z 5) (
    .bJ3 (.bJ7 3 tI) (.bJ4 aB tI (.Z 0) (.p1 tI aB (.Z 4))) <|
    .call 1 (.Z 6) <|
    .bJ3 (.lit 3 tI 1) (.Z 7) <|
    .bJ3 (.bJ9 3 tI 8) (.bJ4 aB aB (aR aI 1 (.Z 4)) (.Z 8)) <|
    .bJ3 (.ar .add .i64) (.bJ4 tI tI (.p1 tI aB (.Z 4)) (.ci .i64 1)) <|
    .bJ5 0 (.bJ4 tI aB (.Z 10) (.Z 9))) (
    .ret (aR aI 1 (.Z 4))))
theorem aR2:bV Tryz.prog [cR,yF] nJ false 3000 ⟨[(2986,2004,mW 9 6++[.dr 0,.tm 12 0,.on 3,.sl 1])],[]⟩ = .ok wO:=by kernel_rfl
theorem aOE (x:List Int) (hx:okD aB x) (hp:(fun _=>True) x):wO.wp [cR,yF] [⟨aB,x⟩] [] (fun v=>v.as aB=(fun x=>uN x) x):=by
 obtain ⟨a,rfl⟩:∃ a,a=x:=⟨_,rfl⟩
 delta wO cR yF;refine eE ?_
 simp only[Bool.not_eq_true',Bool.not_eq_false']
 refine ⟨fun h=>by unfold uN;rw[if_neg (by rw[h];exact Bool.false_ne_true)],fun h _=>?_⟩
 have hl:=(dB a).1 h
 rw[show uN a=_ from if_pos h]
 refine fC (fun k=>((k:Int),mp k fun i=>aWV (a.getD i 0))) a.length rfl fun I μ k hk _ go=>?_
 dsimp only
 simp only[zO,iD]
 (repeat' first|intro _|(refine go _ ?_ ?_ ?_)|(refine go _ ?_ ?_)|(with_reducible apply And.intro))
 all_goals first|omega|(unfold maxLen;omega)|(rw[mX];rfl)|(have e:k=a.length:=(by omega);subst e;rfl)
theorem aQD:Con.Holds Tryz.prog nJ:=aV aX (aG mF (aG bCL aT)) aR2 aOE
def nS:Con:=⟨117,aQ,aB,[.val ⟨false,aB,[]⟩,.val ⟨false,aB,[]⟩],[⟨false,aB,[2]⟩],false,none,
 ((fun _=>True):(cI)→Prop),
 ((fun x=>uP x.1 x.2):(cI)→(List Int))⟩
def xX:T:=.call 0 (.Z 0) <|
 .bJ3 .not (.Z 1) <|
 .ite (.Z 2) (
  .ret (.nl 3 tI)) (
  .bJ3 (.bJ6 3 tI) (.p1 aB aB (.Z 0)) <|
  .loop aI (.bJ4 tI aB (.ci .i64 0) (.nl 3 tI)) <|
   .bJ3 (.cmp .lss .i64) (.bJ4 tI tI (.p1 tI aB (.Z 4)) (.Z 3)) <|
   .ite (.Z 5) (
    .bJ3 (.bJ7 3 tI) (.bJ4 aB tI (.p1 aB aB (.Z 0)) (.p1 tI aB (.Z 4))) <|
    .bJ3 (.cmp .gtr .i64) (.bJ4 tI tI (.Z 6) (.ci .i64 0)) <|
    .ite (.Z 7) (
     .bJ3 (.bJ7 3 tI) (.bJ4 aB tI (aR aQ 1 (.Z 0)) (.p1 tI aB (.Z 4))) <|
     .bJ3 (.lit 3 tI 1) (.Z 8) <|
     .bJ3 (.bJ9 3 tI 8) (.bJ4 aB aB (aR aI 1 (.Z 4)) (.Z 9)) <|
     .bJ3 (.ar .add .i64) (.bJ4 tI tI (.p1 tI aB (.Z 4)) (.ci .i64 1)) <|
     .bJ5 0 (.bJ4 tI aB (.Z 11) (.Z 10))) (
     .bJ3 (.lit 3 tI 1) (.ci .i64 0) <|
     .bJ3 (.bJ9 3 tI 8) (.bJ4 aB aB (aR aI 1 (.Z 4)) (.Z 8)) <|
     .bJ3 (.ar .add .i64) (.bJ4 tI tI (.p1 tI aB (.Z 4)) (.ci .i64 1)) <|
     .bJ5 0 (.bJ4 tI aB (.Z 10) (.Z 9)))) (
    .ret (aR aI 1 (.Z 4))))
theorem aPS:bV Tryz.prog [eA] nS false 3000 ⟨[(2986,2004,mW 12 7++[.tm 14 0,.on 5,.sl 1])],[]⟩ = .ok xX:=by kernel_rfl
theorem aOD (x:cI) (hx:okD aQ x) (hp:(fun _=>True) x):xX.wp [eA] [⟨aQ,x⟩] [] (fun v=>v.as aB=(fun x=>uP x.1 x.2) x):=by
 obtain ⟨a,b⟩:=x
 delta xX eA;refine eE ?_
 simp only[Bool.not_eq_true',Bool.not_eq_false']
 refine ⟨fun h=>by unfold uP;rw[if_neg (by rw[h];exact Bool.false_ne_true)],fun h _=>?_⟩
 have hl:=oK h
 rw[show uP a b=_ from if_pos h]
 refine fC (fun k=>((k:Int),mp k fun i=>if 0<a.getD i 0 then b.getD i 0 else 0)) a.length rfl fun I μ k hk _ go=>?_
 dsimp only
 simp only[zO,iD]
 have e1:0<a.getD k 0→b.getD k 0=if 0<a.getD k 0 then b.getD k 0 else 0:=fun h=>(if_pos h).symm
 have e2:a.getD k 0≤0→0=if 0<a.getD k 0 then b.getD k 0 else 0:=fun h=>(if_neg (by omega)).symm
 (repeat' first|intro _|(refine go _ ?_ ?_ ?_)|(refine go _ ?_ ?_)|(with_reducible apply And.intro))
 all_goals first|omega|(unfold maxLen;omega)|(rw[mX];first|exact Prod.ext rfl (congrArg (mp k _++[·]) (e1 (by assumption)))|exact Prod.ext rfl (congrArg (mp k _++[·]) (e2 (by assumption))))|(have e:k=a.length:=(by omega);subst e;rfl)
theorem aOC:Con.Holds Tryz.prog nS:=aV aX (aG uQ aT) aPS aOD
end
end Go.Proofs.YtpleleanibgniaaGreat
