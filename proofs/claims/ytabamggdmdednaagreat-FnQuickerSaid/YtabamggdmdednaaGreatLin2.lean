/- Lin2: lemmas. No conditions. -/
import Derived.Test.YtabamggdmdednaaGreatLoop
import Derived.Test.YtabamggdmdednaaGreatStage3
namespace Go.Proofs.YtabamggdmdednaaGreat
noncomputable section
set_option maxRecDepth 100000
open Go.ChangeShapes Go.WideShapes Go.ChangeAt Go.RowKit Go.Deep
set_option linter.unusedVariables false
set_option linter.unusedSimpArgs false
def mp {α:Type} (n:Nat) (g:Nat→α):List α:=(List.range n).map g
def an (n:Nat) (h:Nat→Bool):Bool:=(List.range n).any h
theorem aSD {α:Type} (g:Nat→α):mp 0 g=[]:=rfl
theorem bFZ (h:Nat→Bool):an 0 h=false:=rfl
theorem fY {α:Type} (n:Nat) (g:Nat→α):mp (n+1) g=mp n g++[g n]:=by unfold mp;rw[List.range_succ,List.map_append];rfl
theorem mH (n:Nat) (h:Nat→Bool):an (n+1) h=(an n h || h n):=by unfold an;rw[List.range_succ,List.any_append];simp
theorem fL {α:Type} (n:Nat) (g:Nat→α):(mp n g).length=n:=by unfold mp;simp
theorem bOF {α:Type} {n:Nat} {g h:Nat→α} (e:∀ i,i<n→g i=h i):mp n g=mp n h:=List.map_congr_left fun i hi=>e i (List.mem_range.1 hi)
theorem bOZ {n:Nat} {g h:Nat→Bool} (e:∀ i,i<n→g i=h i):an n g=an n h:=by
 rw[Bool.eq_iff_iff];unfold an;simp only[List.any_eq_true,List.mem_range]
 exact ⟨fun ⟨i,h1,h2⟩=>⟨i,h1,by rw[← e i h1];exact h2⟩,fun ⟨i,h1,h2⟩=>⟨i,h1,by rw[e i h1];exact h2⟩⟩
theorem iT {a b:Bool} (h:a=true):true=(a || b):=by rw[h];rfl
theorem mN {a b:Bool} (h:a=false):b=(a || b):=by rw[h];rfl
theorem bPU {a b c:Bool} (h:a=true):true=((a || b) || c):=by rw[h];rfl
theorem bQ2 {a b c:Bool} (h:a=false) (h2:b=true):true=((a || b) || c):=by rw[h,h2];rfl
theorem bQ7 {a b c:Bool} (h:a=false) (h2:b=false):c=((a || b) || c):=by rw[h,h2];rfl
def eP (a b:Int):Int × Bool:=aOF (eI a - eI b)
def eS (a b:Int):Int × Bool:=aOF ((eI a * eI b).fdiv 65536)
def aLN (x:Int):Int:=max 0 (eI x)
theorem bRL {x y:Int} (h1:-2147483647≤x∧x≤2147483647) (h2:-2147483647≤y∧y≤2147483647):-4611686014132420609≤x * y∧x * y≤4611686014132420609:=by
 have h:(x * y).natAbs≤2147483647 * 2147483647:=by
  rw[Int.natAbs_mul];exact Nat.mul_le_mul (by omega) (by omega)
 omega
theorem bR9 {a:Int} (h:-9223372036854775808≤a∧a≤9223372036854775807):-140737488355328≤a.tdiv 65536∧a.tdiv 65536≤140737488355328:=by
 rcases Int.le_total 0 a with h1|h1
 ·rw[Int.tdiv_eq_ediv_of_nonneg h1];omega
 ·have e1:a.tdiv 65536 = -((-a) / 65536):=by
   rw[← Int.neg_neg a,Int.neg_tdiv,Int.tdiv_eq_ediv_of_nonneg (by omega),Int.neg_neg]
  omega
theorem bLJ (x:Int):x.fdiv 65536=(if x.tmod 65536≠0∧x<0 then x.tdiv 65536 - 1 else x.tdiv 65536):=by
 rw[Int.fdiv_eq_ediv_of_nonneg _ (by decide)]
 rcases Int.le_total 0 x with h|h
 ·rw[Int.tdiv_eq_ediv_of_nonneg h,if_neg (by omega)]
 ·have e1:x.tdiv 65536 = -((-x) / 65536):=by
   rw[← Int.neg_neg x,Int.neg_tdiv,Int.tdiv_eq_ediv_of_nonneg (by omega),Int.neg_neg]
  have e2:x.tmod 65536 = -((-x) % 65536):=by
   rw[← Int.neg_neg x,Int.neg_tmod,Int.tmod_eq_emod_of_nonneg (by omega),Int.neg_neg]
  rw[e1,e2]
  split <;> omega
def pC (a b:List Int):Bool:=iQ a&&eQ b (a.length:Int)
def vz (f:Int→Int→Int × Bool) (a b:List Int) (n:Nat):List Int × Bool:=(mp n fun i=>(f (a.getD i 0) (b.getD i 0)).1,an n fun i=>(f (a.getD i 0) (b.getD i 0)).2)
def kZ (f:Int→Int→Int × Bool) (a b:List Int):List Int × Bool:=if pC a b=true then vz f a b a.length else ([],false)
def uS (c:Int) (a:List Int):List Int × Bool:=if jL c=true∧iQ a=true then (mp a.length fun i=>(eS c (a.getD i 0)).1,an a.length fun i=>(eS c (a.getD i 0)).2) else ([],false)
def aI5 (a b:List Int):Nat→Int × Bool
 | 0=>(0,false)
 | k+1=>((dP (aI5 a b k).1 (eS (a.getD k 0) (b.getD k 0)).1).1,(aI5 a b k).2 || (eS (a.getD k 0) (b.getD k 0)).2 || (dP (aI5 a b k).1 (eS (a.getD k 0) (b.getD k 0)).1).2)
def fS (a b:List Int):Int × Bool:=if pC a b=true then aI5 a b a.length else (0,false)
def oZ (a:List Int):List Int:=if iQ a=true then mp a.length fun i=>aLN (a.getD i 0) else []
def oX (x d:List Int):List Int:=if pC x d=true then mp x.length fun i=>if 0<x.getD i 0 then d.getD i 0 else 0 else []
theorem bH9 (a b:List Int):pC a b=true↔iQ a=true∧eQ b (a.length:Int)=true:=by unfold pC;rw[Bool.and_eq_true]
theorem kO {a b:List Int} (h:pC a b=true):a.length≤6∧b.length=a.length:=by
 obtain ⟨h1,h2⟩:=(bH9 a b).1 h
 have:=(cT a).1 h1
 have:=(cI _ _).1 h2
 omega
theorem aKS {f:Int→Int→Int × Bool} {a b:List Int} (h:pC a b=false):([],false)=kZ f a b:=by unfold kZ;rw[if_neg (by rw[h];exact Bool.false_ne_true)]
theorem aH1 {f:Int→Int→Int × Bool} {a b:List Int} (h:pC a b=true):kZ f a b=vz f a b a.length:=if_pos h
theorem aSA (a b:List Int) (k:Nat):aI5 a b (k+1)=((dP (aI5 a b k).1 (eS (a.getD k 0) (b.getD k 0)).1).1,(aI5 a b k).2 || (eS (a.getD k 0) (b.getD k 0)).2 || (dP (aI5 a b k).1 (eS (a.getD k 0) (b.getD k 0)).1).2):=rfl
theorem bFE (a b:List Int):(iQ a&&(iQ b&&decide (a.length=b.length)))=pC a b:=by
 unfold pC eQ
 congr 2
 rw[Bool.eq_iff_iff,decide_eq_true_eq,decide_eq_true_eq];omega
def sJ:Con:=⟨139,aD,(.bRW tI .bool),[.val ⟨false,tI,[]⟩,.val ⟨false,tI,[]⟩],[⟨false,tI,[0]⟩,⟨false,.bool,[0]⟩],false,none,
 ((fun _=>True):(Int × Int)→Prop),
 ((fun x=>eP x.1 x.2):(Int × Int)→(Int × Bool))⟩
def aFZ:T:=.call 0 (.p1 tI tI (.Z 0)) <|.call 0 (aP aD 1 (.Z 0)) <|
 .bRX (.ar .sub .i64) (.bRY tI tI (.Z 1) (.Z 2)) <|
 .call 1 (.Z 3) <|
 .ret (.Z 4)
theorem bAJ:bI Tryz.prog [eM,iG] sJ false 3000 ⟨[],[]⟩ = .ok aFZ:=by kernel_rfl
theorem bBJ (x:Int × Int) (hx:okD aD x) (hp:(fun _=>True) x):aFZ.wp [eM,iG] [⟨aD,x⟩] [] (fun v=>v.as (.bRW tI .bool)=(fun x=>eP x.1 x.2) x):=by
 delta aFZ eM iG;refine cW ?_
 intro _ _
 have h1:=kK x.1
 have h2:=kK x.2
 exact ⟨by omega,fun _ _=>rfl⟩
theorem bBB:Con.Holds Tryz.prog sJ:=aS aV (aI xP (aI aFY aQ)) bAJ bBJ
def iI:Con:=⟨159,aD,(.bRW tI .bool),[.val ⟨false,tI,[]⟩,.val ⟨false,tI,[]⟩],[⟨false,tI,[0]⟩,⟨false,.bool,[0]⟩],false,none,
 ((fun _=>True):(Int × Int)→Prop),
 ((fun x=>eS x.1 x.2):(Int × Int)→(Int × Bool))⟩
def aG3:T:=.call 0 (.p1 tI tI (.Z 0)) <|.call 0 (aP aD 1 (.Z 0)) <|
 .bRX (.ar .mul .i64) (.bRY tI tI (.Z 1) (.Z 2)) <|
 .bRX (.shr .i64 .u64) (.bRY tI (.int .u64) (.Z 3) (.ci .u64 16)) <|
 .call 1 (.Z 4) <|
 .ret (.Z 5)
theorem bC7:bI Tryz.prog [eM,iG] iI false 3000 ⟨[],[]⟩ = .ok aG3:=by kernel_rfl
theorem bE6 (x:Int × Int) (hx:okD aD x) (hp:(fun _=>True) x):aG3.wp [eM,iG] [⟨aD,x⟩] [] (fun v=>v.as (.bRW tI .bool)=(fun x=>eS x.1 x.2) x):=by
 delta aG3 eM iG;refine cW ?_
 have h:=bRL (kK x.1) (kK x.2)
 exact fun _ _=>⟨by omega,fun _=>⟨by omega,fun _ _=>rfl⟩⟩
theorem aGR:Con.Holds Tryz.prog iI:=aS aV (aI xP (aI aFY aQ)) bC7 bE6
def aAJ:Con:=⟨173,tI,tI,[.val ⟨false,tI,[]⟩],[⟨false,tI,[0]⟩],false,none,
 ((fun _=>True):(Int)→Prop),
 ((fun x=>aLN x):(Int)→(Int))⟩
def aMJ:T:=.call 0 (.Z 0) <|
 .bRX (.mx .i64) (.bRY tI tI (.ci .i64 0) (.Z 1)) <|
 .ret (.Z 2)
theorem bLD:bI Tryz.prog [eM] aAJ false 3000 ⟨[],[]⟩ = .ok aMJ:=by kernel_rfl
theorem bKP (x:Int) (hx:okD tI x) (hp:(fun _=>True) x):aMJ.wp [eM] [⟨tI,x⟩] [] (fun v=>v.as tI=(fun x=>aLN x) x):=by
 delta aMJ eM;refine cW ?_
 exact fun _ _=>rfl
theorem bLN:Con.Holds Tryz.prog aAJ:=aS aV (aI xP aQ) bLD bKP
def fC:Con:=⟨138,aO,.bool,[.val ⟨false,aB,[]⟩,.val ⟨false,aB,[]⟩],[⟨false,.bool,[0]⟩],false,none,
 ((fun _=>True):(bT)→Prop),
 ((fun x=>pC x.1 x.2):(bT)→(Bool))⟩
def aG6:T:=.call 0 (.p1 aB aB (.Z 0)) <|.ite (.Z 1) (
 .bRX (.bS0 3 tI) (.p1 aB aB (.Z 0)) <|
 .call 1 (.bRY aB tI (aP aO 1 (.Z 0)) (.Z 2)) <|
 .ret (.Z 3)) (
 .ret (.cb false))
theorem bD2:bI Tryz.prog [dE,cB] fC false 3000 ⟨[],[]⟩ = .ok aG6:=by kernel_rfl
theorem bE9 (x:bT) (hx:okD aO x) (hp:(fun _=>True) x):aG6.wp [dE,cB] [⟨aO,x⟩] [] (fun v=>v.as .bool=(fun x=>pC x.1 x.2) x):=by
 delta aG6 dE cB;refine cW ?_
 refine ⟨fun h _=>?_,fun h=>?_⟩
 ·unfold pC;rw[h,Bool.true_and]
 ·unfold pC;rw[h,Bool.false_and]
theorem zV:Con.Holds Tryz.prog fC:=aS aV (aI pS (aI jR aQ)) bD2 bE9
def lK:Con:=⟨156,aO,(.bRW aB .bool),[.val ⟨false,aB,[]⟩,.val ⟨false,aB,[]⟩],[⟨false,aB,[2]⟩,⟨false,.bool,[0]⟩],false,none,
 ((fun _=>True):(bT)→Prop),
 ((fun x=>kZ dP x.1 x.2):(bT)→(bK × Bool))⟩
def aES:T:=.call 0 (.Z 0) <|
 .bRX .not (.Z 1) <|
 .ite (.Z 2) (
  .ret (.bRY aB .bool (.nl 3 tI) (.cb false))) (
  .bRX (.bS0 3 tI) (.p1 aB aB (.Z 0)) <|
  .loop (.bRW tI (.bRW .bool aB)) (bB (.bRW tI (.bRW .bool aB)) [(.ci .i64 0),(.cb false),(.nl 3 tI)]) <|
   .bRX (.cmp .lss .i64) (.bRY tI tI (.p1 tI (.bRW .bool aB) (.Z 4)) (.Z 3)) <|
   .ite (.Z 5) (
    .bRX (.bS1 3 tI) (.bRY aB tI (.p1 aB aB (.Z 0)) (.p1 tI (.bRW .bool aB) (.Z 4))) <|
    .bRX (.bS1 3 tI) (.bRY aB tI (aP aO 1 (.Z 0)) (.p1 tI (.bRW .bool aB) (.Z 4))) <|
    .call 1 (.bRY tI tI (.Z 6) (.Z 7)) <|
    .bRX (.lit 3 tI 1) (.p1 tI .bool (.Z 8)) <|
    .bRX (.bS3 3 tI 8) (.bRY aB aB (aP (.bRW tI (.bRW .bool aB)) 2 (.Z 4)) (.Z 9)) <|
    .ite (aK (.bRW tI (.bRW .bool aB)) 1 (.Z 4)) (
     .bRX (.ar .add .i64) (.bRY tI tI (.p1 tI (.bRW .bool aB) (.Z 4)) (.ci .i64 1)) <|
     .bRZ 0 (bB (.bRW tI (.bRW .bool aB)) [(.Z 11),(.cb true),(.Z 10)])) (
     .bRX (.ar .add .i64) (.bRY tI tI (.p1 tI (.bRW .bool aB) (.Z 4)) (.ci .i64 1)) <|
     .bRZ 0 (bB (.bRW tI (.bRW .bool aB)) [(.Z 11),(aP (.bRW tI .bool) 1 (.Z 8)),(.Z 10)]))) (
    .ret (.bRY aB .bool (aP (.bRW tI (.bRW .bool aB)) 2 (.Z 4)) (aK (.bRW tI (.bRW .bool aB)) 1 (.Z 4)))))
theorem bA4:bI Tryz.prog [fC,eT] lK false 3000 ⟨[(2984,2004,gQ 16 11++[.tm 18 0,.tm 7 0,.on 6,.sl 1])],[]⟩ = .ok aES:=by kernel_rfl
theorem bBC (x:bT) (hx:okD aO x) (hp:(fun _=>True) x):aES.wp [fC,eT] [⟨aO,x⟩] [] (fun v=>v.as (.bRW aB .bool)=(fun x=>kZ dP x.1 x.2) x):=by
 obtain ⟨a,b⟩:=x
 delta aES fC eT;refine cW ?_
 simp only[Bool.not_eq_true',Bool.not_eq_false']
 refine ⟨aKS,fun h _=>?_⟩
 have hl:=kO h
 rw[aH1 h]
 refine cN (fun k=>((k:Int),an k (fun i=>(dP (a.getD i 0) (b.getD i 0)).2),mp k fun i=>(dP (a.getD i 0) (b.getD i 0)).1)) a.length rfl fun I μ k hk _ go=>?_
 dsimp only
 simp only[mG,fL]
 (repeat' first|intro _|(refine go _ ?_ ?_ ?_)|(refine go _ ?_ ?_)|(with_reducible apply And.intro))
 all_goals first|omega|(unfold maxLen;omega)|(rw[fY,mH];first|exact Prod.ext rfl (Prod.ext (iT (by assumption)) rfl)|exact Prod.ext rfl (Prod.ext (mN (by assumption)) rfl))|(have e:k=a.length:=(by omega);subst e;rfl)
theorem aOW:Con.Holds Tryz.prog lK:=aS aV (aI zV (aI yV aQ)) bA4 bBC
def lI:Con:=⟨109,aO,(.bRW aB .bool),[.val ⟨false,aB,[]⟩,.val ⟨false,aB,[]⟩],[⟨false,aB,[2]⟩,⟨false,.bool,[0]⟩],false,none,
 ((fun _=>True):(bT)→Prop),
 ((fun x=>kZ eP x.1 x.2):(bT)→(bK × Bool))⟩
def aFQ:T:=.call 0 (.Z 0) <|
 .bRX .not (.Z 1) <|
 .ite (.Z 2) (
  .ret (.bRY aB .bool (.nl 3 tI) (.cb false))) (
  .bRX (.bS0 3 tI) (.p1 aB aB (.Z 0)) <|
  .loop (.bRW tI (.bRW .bool aB)) (bB (.bRW tI (.bRW .bool aB)) [(.ci .i64 0),(.cb false),(.nl 3 tI)]) <|
   .bRX (.cmp .lss .i64) (.bRY tI tI (.p1 tI (.bRW .bool aB) (.Z 4)) (.Z 3)) <|
   .ite (.Z 5) (
    .bRX (.bS1 3 tI) (.bRY aB tI (.p1 aB aB (.Z 0)) (.p1 tI (.bRW .bool aB) (.Z 4))) <|
    .bRX (.bS1 3 tI) (.bRY aB tI (aP aO 1 (.Z 0)) (.p1 tI (.bRW .bool aB) (.Z 4))) <|
    .call 1 (.bRY tI tI (.Z 6) (.Z 7)) <|
    .bRX (.lit 3 tI 1) (.p1 tI .bool (.Z 8)) <|
    .bRX (.bS3 3 tI 8) (.bRY aB aB (aP (.bRW tI (.bRW .bool aB)) 2 (.Z 4)) (.Z 9)) <|
    .ite (aK (.bRW tI (.bRW .bool aB)) 1 (.Z 4)) (
     .bRX (.ar .add .i64) (.bRY tI tI (.p1 tI (.bRW .bool aB) (.Z 4)) (.ci .i64 1)) <|
     .bRZ 0 (bB (.bRW tI (.bRW .bool aB)) [(.Z 11),(.cb true),(.Z 10)])) (
     .bRX (.ar .add .i64) (.bRY tI tI (.p1 tI (.bRW .bool aB) (.Z 4)) (.ci .i64 1)) <|
     .bRZ 0 (bB (.bRW tI (.bRW .bool aB)) [(.Z 11),(aP (.bRW tI .bool) 1 (.Z 8)),(.Z 10)]))) (
    .ret (.bRY aB .bool (aP (.bRW tI (.bRW .bool aB)) 2 (.Z 4)) (aK (.bRW tI (.bRW .bool aB)) 1 (.Z 4)))))
theorem bD0:bI Tryz.prog [fC,sJ] lI false 3000 ⟨[(2984,2004,gQ 16 11++[.tm 18 0,.tm 7 0,.on 6,.sl 1])],[]⟩ = .ok aFQ:=by kernel_rfl
theorem bC3 (x:bT) (hx:okD aO x) (hp:(fun _=>True) x):aFQ.wp [fC,sJ] [⟨aO,x⟩] [] (fun v=>v.as (.bRW aB .bool)=(fun x=>kZ eP x.1 x.2) x):=by
 obtain ⟨a,b⟩:=x
 delta aFQ fC sJ;refine cW ?_
 simp only[Bool.not_eq_true',Bool.not_eq_false']
 refine ⟨aKS,fun h _=>?_⟩
 have hl:=kO h
 rw[aH1 h]
 refine cN (fun k=>((k:Int),an k (fun i=>(eP (a.getD i 0) (b.getD i 0)).2),mp k fun i=>(eP (a.getD i 0) (b.getD i 0)).1)) a.length rfl fun I μ k hk _ go=>?_
 dsimp only
 simp only[mG,fL]
 (repeat' first|intro _|(refine go _ ?_ ?_ ?_)|(refine go _ ?_ ?_)|(with_reducible apply And.intro))
 all_goals first|omega|(unfold maxLen;omega)|(rw[fY,mH];first|exact Prod.ext rfl (Prod.ext (iT (by assumption)) rfl)|exact Prod.ext rfl (Prod.ext (mN (by assumption)) rfl))|(have e:k=a.length:=(by omega);subst e;rfl)
theorem aOX:Con.Holds Tryz.prog lI:=aS aV (aI zV (aI bBB aQ)) bD0 bC3
def iZ:Con:=⟨157,aH,(.bRW aB .bool),[.val ⟨false,tI,[]⟩,.val ⟨false,aB,[]⟩],[⟨false,aB,[2]⟩,⟨false,.bool,[0]⟩],false,none,
 ((fun _=>True):(cP)→Prop),
 ((fun x=>uS x.1 x.2):(cP)→(bK × Bool))⟩
def zJ:T:=.call 0 (.p1 tI aB (.Z 0)) <|
 .bRX .not (.Z 1) <|
 .ite (.Z 2) (
  .ret (.bRY aB .bool (.nl 3 tI) (.cb false))) (
  .call 1 (aP aH 1 (.Z 0)) <|
  .bRX .not (.Z 3) <|
  .ite (.Z 4) (
   .ret (.bRY aB .bool (.nl 3 tI) (.cb false))) (
   .bRX (.bS0 3 tI) (aP aH 1 (.Z 0)) <|
   .loop (.bRW tI (.bRW .bool aB)) (bB (.bRW tI (.bRW .bool aB)) [(.ci .i64 0),(.cb false),(.nl 3 tI)]) <|
    .bRX (.cmp .lss .i64) (.bRY tI tI (.p1 tI (.bRW .bool aB) (.Z 6)) (.Z 5)) <|
    .ite (.Z 7) (
     .bRX (.bS1 3 tI) (.bRY aB tI (aP aH 1 (.Z 0)) (.p1 tI (.bRW .bool aB) (.Z 6))) <|
     .call 2 (.bRY tI tI (.p1 tI aB (.Z 0)) (.Z 8)) <|
     .bRX (.lit 3 tI 1) (.p1 tI .bool (.Z 9)) <|
     .bRX (.bS3 3 tI 8) (.bRY aB aB (aP (.bRW tI (.bRW .bool aB)) 2 (.Z 6)) (.Z 10)) <|
     .ite (aK (.bRW tI (.bRW .bool aB)) 1 (.Z 6)) (
      .bRX (.ar .add .i64) (.bRY tI tI (.p1 tI (.bRW .bool aB) (.Z 6)) (.ci .i64 1)) <|
      .bRZ 0 (bB (.bRW tI (.bRW .bool aB)) [(.Z 12),(.cb true),(.Z 11)])) (
      .bRX (.ar .add .i64) (.bRY tI tI (.p1 tI (.bRW .bool aB) (.Z 6)) (.ci .i64 1)) <|
      .bRZ 0 (bB (.bRW tI (.bRW .bool aB)) [(.Z 12),(aP (.bRW tI .bool) 1 (.Z 9)),(.Z 11)]))) (
     .ret (.bRY aB .bool (aP (.bRW tI (.bRW .bool aB)) 2 (.Z 6)) (aK (.bRW tI (.bRW .bool aB)) 1 (.Z 6))))))
theorem aSQ:bI Tryz.prog [jZ,dE,iI] iZ false 3000 ⟨[(2984,4006,gQ 20 11++[.tm 22 0,.tm 7 0,.on 6,.sl 1])],[]⟩ = .ok zJ:=by kernel_rfl
theorem aSO (x:cP) (hx:okD aH x) (hp:(fun _=>True) x):zJ.wp [jZ,dE,iI] [⟨aH,x⟩] [] (fun v=>v.as (.bRW aB .bool)=(fun x=>uS x.1 x.2) x):=by
 obtain ⟨c,a⟩:=x
 delta zJ jZ dE iI;refine cW ?_
 simp only[Bool.not_eq_true',Bool.not_eq_false']
 refine ⟨fun h=>?_,fun h1=>⟨fun h=>?_,fun h2 _=>?_⟩⟩
 ·unfold uS;rw[if_neg (by rw[h];simp)]
 ·unfold uS;rw[if_neg (by rw[h];simp)]
 have hl:=(cT a).1 h2
 rw[show uS c a=_ from if_pos ⟨h1,h2⟩]
 refine cN (fun k=>((k:Int),an k (fun i=>(eS c (a.getD i 0)).2),mp k fun i=>(eS c (a.getD i 0)).1)) a.length rfl fun I μ k hk _ go=>?_
 dsimp only
 simp only[mG,fL]
 (repeat' first|intro _|(refine go _ ?_ ?_ ?_)|(refine go _ ?_ ?_)|(with_reducible apply And.intro))
 all_goals first|omega|(unfold maxLen;omega)|(rw[fY,mH];first|exact Prod.ext rfl (Prod.ext (iT (by assumption)) rfl)|exact Prod.ext rfl (Prod.ext (mN (by assumption)) rfl))|(have e:k=a.length:=(by omega);subst e;rfl)
theorem aI0:Con.Holds Tryz.prog iZ:=aS aV (aI aIW (aI pS (aI aGR aQ))) aSQ aSO
def iK:Con:=⟨135,aO,(.bRW tI .bool),[.val ⟨false,aB,[]⟩,.val ⟨false,aB,[]⟩],[⟨false,tI,[0]⟩,⟨false,.bool,[0]⟩],false,none,
 ((fun _=>True):(bT)→Prop),
 ((fun x=>fS x.1 x.2):(bT)→(Int × Bool))⟩
def aEK:T:=.call 0 (.Z 0) <|
 .bRX .not (.Z 1) <|
 .ite (.Z 2) (
  .ret (.bRY tI .bool (.ci .i64 0) (.cb false))) (
  .bRX (.bS0 3 tI) (.p1 aB aB (.Z 0)) <|
  .loop (.bRW tI (.bRW .bool tI)) (bB (.bRW tI (.bRW .bool tI)) [(.ci .i64 0),(.cb false),(.ci .i64 0)]) <|
   .bRX (.cmp .lss .i64) (.bRY tI tI (.p1 tI (.bRW .bool tI) (.Z 4)) (.Z 3)) <|
   .ite (.Z 5) (
    .bRX (.bS1 3 tI) (.bRY aB tI (.p1 aB aB (.Z 0)) (.p1 tI (.bRW .bool tI) (.Z 4))) <|
    .bRX (.bS1 3 tI) (.bRY aB tI (aP aO 1 (.Z 0)) (.p1 tI (.bRW .bool tI) (.Z 4))) <|
    .call 1 (.bRY tI tI (.Z 6) (.Z 7)) <|
    .call 2 (.bRY tI tI (aP (.bRW tI (.bRW .bool tI)) 2 (.Z 4)) (.p1 tI .bool (.Z 8))) <|
    .ite (aK (.bRW tI (.bRW .bool tI)) 1 (.Z 4)) (
     .bRX (.ar .add .i64) (.bRY tI tI (.p1 tI (.bRW .bool tI) (.Z 4)) (.ci .i64 1)) <|
     .bRZ 0 (bB (.bRW tI (.bRW .bool tI)) [(.Z 10),(.cb true),(.p1 tI .bool (.Z 9))])) (
     .ite (aP (.bRW tI .bool) 1 (.Z 8)) (
      .bRX (.ar .add .i64) (.bRY tI tI (.p1 tI (.bRW .bool tI) (.Z 4)) (.ci .i64 1)) <|
      .bRZ 0 (bB (.bRW tI (.bRW .bool tI)) [(.Z 10),(.cb true),(.p1 tI .bool (.Z 9))])) (
      .bRX (.ar .add .i64) (.bRY tI tI (.p1 tI (.bRW .bool tI) (.Z 4)) (.ci .i64 1)) <|
      .bRZ 0 (bB (.bRW tI (.bRW .bool tI)) [(.Z 10),(aP (.bRW tI .bool) 1 (.Z 9)),(.p1 tI .bool (.Z 9))])))) (
    .ret (.bRY tI .bool (aP (.bRW tI (.bRW .bool tI)) 2 (.Z 4)) (aK (.bRW tI (.bRW .bool tI)) 1 (.Z 4)))))
theorem bCP:bI Tryz.prog [fC,iI,eT] iK false 3000 ⟨[(2984,2004,gQ 17 13++[.tm 19 0,.tm 7 0,.tm 6 0])],[]⟩ = .ok aEK:=by kernel_rfl
theorem bAY (x:bT) (hx:okD aO x) (hp:(fun _=>True) x):aEK.wp [fC,iI,eT] [⟨aO,x⟩] [] (fun v=>v.as (.bRW tI .bool)=(fun x=>fS x.1 x.2) x):=by
 obtain ⟨a,b⟩:=x
 delta aEK fC iI eT;refine cW ?_
 simp only[Bool.not_eq_true',Bool.not_eq_false']
 refine ⟨fun h=>by unfold fS;rw[if_neg (by rw[h];exact Bool.false_ne_true)],fun h _=>?_⟩
 have hl:=kO h
 rw[show fS a b=_ from if_pos h]
 refine cN (fun k=>((k:Int),(aI5 a b k).2,(aI5 a b k).1)) a.length rfl fun I μ k hk _ go=>?_
 dsimp only
 (refine dB ?_;try with_reducible exact True.intro)
 (repeat' first|intro _|(refine go _ ?_ ?_ ?_)|(refine go _ ?_ ?_)|(with_reducible apply And.intro))
 all_goals first|omega|(rw[aSA];first|exact Prod.ext rfl (Prod.ext (bPU (by assumption)) rfl)|exact Prod.ext rfl (Prod.ext (bQ2 (by assumption) (by assumption)) rfl)|exact Prod.ext rfl (Prod.ext (bQ7 (by assumption) (by assumption)) rfl))|(have e:k=a.length:=(by omega);subst e;rfl)
theorem aF1:Con.Holds Tryz.prog iK:=aS aV (aI zV (aI aGR (aI yV aQ))) bCP bAY
def rI:Con:=⟨158,aB,aB,[.val ⟨false,aB,[]⟩],[⟨false,aB,[2]⟩],false,none,
 ((fun _=>True):(List Int)→Prop),
 ((fun x=>oZ x):(List Int)→(List Int))⟩
def aCE:T:=.call 0 (.Z 0) <|
 .bRX .not (.Z 1) <|
 .ite (.Z 2) (
  .ret (.nl 3 tI)) (
  .bRX (.bS0 3 tI) (.Z 0) <|
  .loop aH (.bRY tI aB (.ci .i64 0) (.nl 3 tI)) <|
   .bRX (.cmp .lss .i64) (.bRY tI tI (.p1 tI aB (.Z 4)) (.Z 3)) <|
   .ite (.Z 5) (
    .bRX (.bS1 3 tI) (.bRY aB tI (.Z 0) (.p1 tI aB (.Z 4))) <|
    .call 1 (.Z 6) <|
    .bRX (.lit 3 tI 1) (.Z 7) <|
    .bRX (.bS3 3 tI 8) (.bRY aB aB (aP aH 1 (.Z 4)) (.Z 8)) <|
    .bRX (.ar .add .i64) (.bRY tI tI (.p1 tI aB (.Z 4)) (.ci .i64 1)) <|
    .bRZ 0 (.bRY tI aB (.Z 10) (.Z 9))) (
    .ret (aP aH 1 (.Z 4))))
theorem aWB:bI Tryz.prog [dE,aAJ] rI false 3000 ⟨[(2986,2004,gQ 9 6++[.dr 0,.tm 12 0,.on 3,.sl 1])],[]⟩ = .ok aCE:=by kernel_rfl
theorem aVQ (x:List Int) (hx:okD aB x) (hp:(fun _=>True) x):aCE.wp [dE,aAJ] [⟨aB,x⟩] [] (fun v=>v.as aB=(fun x=>oZ x) x):=by
 obtain ⟨a,rfl⟩:∃ a,a=x:=⟨_,rfl⟩
 delta aCE dE aAJ;refine cW ?_
 simp only[Bool.not_eq_true',Bool.not_eq_false']
 refine ⟨fun h=>by unfold oZ;rw[if_neg (by rw[h];exact Bool.false_ne_true)],fun h _=>?_⟩
 have hl:=(cT a).1 h
 rw[show oZ a=_ from if_pos h]
 refine cN (fun k=>((k:Int),mp k fun i=>aLN (a.getD i 0))) a.length rfl fun I μ k hk _ go=>?_
 dsimp only
 simp only[mG,fL]
 (repeat' first|intro _|(refine go _ ?_ ?_ ?_)|(refine go _ ?_ ?_)|(with_reducible apply And.intro))
 all_goals first|omega|(unfold maxLen;omega)|(rw[fY];rfl)|(have e:k=a.length:=(by omega);subst e;rfl)
theorem aX2:Con.Holds Tryz.prog rI:=aS aV (aI pS (aI bLN aQ)) aWB aVQ
def rH:Con:=⟨162,aO,aB,[.val ⟨false,aB,[]⟩,.val ⟨false,aB,[]⟩],[⟨false,aB,[2]⟩],false,none,
 ((fun _=>True):(bT)→Prop),
 ((fun x=>oX x.1 x.2):(bT)→(List Int))⟩
def aCF:T:=.call 0 (.Z 0) <|
 .bRX .not (.Z 1) <|
 .ite (.Z 2) (
  .ret (.nl 3 tI)) (
  .bRX (.bS0 3 tI) (.p1 aB aB (.Z 0)) <|
  .loop aH (.bRY tI aB (.ci .i64 0) (.nl 3 tI)) <|
   .bRX (.cmp .lss .i64) (.bRY tI tI (.p1 tI aB (.Z 4)) (.Z 3)) <|
   .ite (.Z 5) (
    .bRX (.bS1 3 tI) (.bRY aB tI (.p1 aB aB (.Z 0)) (.p1 tI aB (.Z 4))) <|
    .bRX (.cmp .gtr .i64) (.bRY tI tI (.Z 6) (.ci .i64 0)) <|
    .ite (.Z 7) (
     .bRX (.bS1 3 tI) (.bRY aB tI (aP aO 1 (.Z 0)) (.p1 tI aB (.Z 4))) <|
     .bRX (.lit 3 tI 1) (.Z 8) <|
     .bRX (.bS3 3 tI 8) (.bRY aB aB (aP aH 1 (.Z 4)) (.Z 9)) <|
     .bRX (.ar .add .i64) (.bRY tI tI (.p1 tI aB (.Z 4)) (.ci .i64 1)) <|
     .bRZ 0 (.bRY tI aB (.Z 11) (.Z 10))) (
     .bRX (.lit 3 tI 1) (.ci .i64 0) <|
     .bRX (.bS3 3 tI 8) (.bRY aB aB (aP aH 1 (.Z 4)) (.Z 8)) <|
     .bRX (.ar .add .i64) (.bRY tI tI (.p1 tI aB (.Z 4)) (.ci .i64 1)) <|
     .bRZ 0 (.bRY tI aB (.Z 10) (.Z 9)))) (
    .ret (aP aH 1 (.Z 4))))
theorem aZ7:bI Tryz.prog [fC] rH false 3000 ⟨[(2986,2004,gQ 12 7++[.tm 14 0,.on 5,.sl 1])],[]⟩ = .ok aCF:=by kernel_rfl
theorem aYK (x:bT) (hx:okD aO x) (hp:(fun _=>True) x):aCF.wp [fC] [⟨aO,x⟩] [] (fun v=>v.as aB=(fun x=>oX x.1 x.2) x):=by
 obtain ⟨a,b⟩:=x
 delta aCF fC;refine cW ?_
 simp only[Bool.not_eq_true',Bool.not_eq_false']
 refine ⟨fun h=>by unfold oX;rw[if_neg (by rw[h];exact Bool.false_ne_true)],fun h _=>?_⟩
 have hl:=kO h
 rw[show oX a b=_ from if_pos h]
 refine cN (fun k=>((k:Int),mp k fun i=>if 0<a.getD i 0 then b.getD i 0 else 0)) a.length rfl fun I μ k hk _ go=>?_
 dsimp only
 simp only[mG,fL]
 have e1:0<a.getD k 0→b.getD k 0=if 0<a.getD k 0 then b.getD k 0 else 0:=fun h=>(if_pos h).symm
 have e2:a.getD k 0≤0→0=if 0<a.getD k 0 then b.getD k 0 else 0:=fun h=>(if_neg (by omega)).symm
 (repeat' first|intro _|(refine go _ ?_ ?_ ?_)|(refine go _ ?_ ?_)|(with_reducible apply And.intro))
 all_goals first|omega|(unfold maxLen;omega)|(rw[fY];first|exact Prod.ext rfl (congrArg (mp k _++[·]) (e1 (by assumption)))|exact Prod.ext rfl (congrArg (mp k _++[·]) (e2 (by assumption))))|(have e:k=a.length:=(by omega);subst e;rfl)
theorem aZF:Con.Holds Tryz.prog rH:=aS aV (aI zV aQ) aZ7 aYK
def sI:Con:=⟨169,aD,(.bRW tI .bool),[.val ⟨false,tI,[]⟩,.val ⟨false,tI,[]⟩],[⟨false,tI,[0]⟩,⟨false,.bool,[0]⟩],false,none,
 ((fun _=>True):(Int × Int)→Prop),
 ((fun x=>eP x.1 x.2):(Int × Int)→(Int × Bool))⟩
def aGM:T:=.call 0 (.p1 tI tI (.Z 0)) <|.call 0 (aP aD 1 (.Z 0)) <|
 .bRX (.ar .sub .i64) (.bRY tI tI (.Z 1) (.Z 2)) <|
 .call 1 (.Z 3) <|
 .ret (.Z 4)
theorem bB4:bI Tryz.prog [jE,gI] sI false 3000 ⟨[],[]⟩ = .ok aGM:=by kernel_rfl
theorem bDN (x:Int × Int) (hx:okD aD x) (hp:(fun _=>True) x):aGM.wp [jE,gI] [⟨aD,x⟩] [] (fun v=>v.as (.bRW tI .bool)=(fun x=>eP x.1 x.2) x):=by
 delta aGM jE gI;refine cW ?_
 intro _ _
 have h1:=kK x.1
 have h2:=kK x.2
 exact ⟨by omega,fun _ _=>rfl⟩
theorem bBA:Con.Holds Tryz.prog sI:=aS aV (aI aHE (aI aDK aQ)) bB4 bDN
def rB:Con:=⟨187,aD,tI,[.val ⟨false,tI,[]⟩,.val ⟨false,tI,[]⟩],[⟨false,tI,[0]⟩],false,none,
 ((fun x=>x.2=65536):(Int × Int)→Prop),
 ((fun x=>x.1.fdiv 65536):(Int × Int)→(Int))⟩
def aBW:T :=
 .bRX (.quo .i64) (.bRY tI tI (.p1 tI tI (.Z 0)) (aP aD 1 (.Z 0))) <|
 .bRX (.rem .i64) (.bRY tI tI (.p1 tI tI (.Z 0)) (aP aD 1 (.Z 0))) <|
 .bRX (.cmp .neq .i64) (.bRY tI tI (.Z 2) (.ci .i64 0)) <|
 .ite (.Z 3) (
  .bRX (.cmp .lss .i64) (.bRY tI tI (.p1 tI tI (.Z 0)) (.ci .i64 0)) <|
  .bRX (.cmp .lss .i64) (.bRY tI tI (aP aD 1 (.Z 0)) (.ci .i64 0)) <|
  .bRX (.eqv true .bool) (.bRY .bool .bool (.Z 4) (.Z 5)) <|
  .ite (.Z 6) (
   .bRX (.ar .sub .i64) (.bRY tI tI (.Z 1) (.ci .i64 1)) <|
   .ret (.Z 7)) (
   .ret (.Z 1))) (
  .ret (.Z 1))
theorem aVN:bI Tryz.prog [] rB false 3000 ⟨[],[]⟩ = .ok aBW:=by kernel_rfl
theorem aY1 (x:Int × Int) (hx:okD aD x) (hp:(fun x=>x.2=65536) x):aBW.wp [] [⟨aD,x⟩] [] (fun v=>v.as tI=(fun x=>x.1.fdiv 65536) x):=by
 obtain ⟨a,b⟩:=x
 obtain rfl:b=65536:=hp
 have e:=bLJ a
 have ha:-9223372036854775808≤a∧a≤9223372036854775807:=hx.1
 have hd:=bR9 ha
 delta aBW;refine cW ?_
 simp only[bQT,bQX,aFJ,aF4,show decide ((65536:Int)<0)=false from rfl,decide_eq_false_iff_not,Classical.not_not]
 rw[e]
 (repeat' first|intro _|(with_reducible apply And.intro))
 all_goals first|omega|(rw[if_pos ⟨by assumption,by assumption⟩])|(rw[if_neg (fun h=>by have:=h.2;omega)])|(rw[if_neg (fun h=>h.1 (by assumption))])
theorem aZH:Con.Holds Tryz.prog rB:=aS aV aQ aVN aY1
def iL:Con:=⟨180,aD,(.bRW tI .bool),[.val ⟨false,tI,[]⟩,.val ⟨false,tI,[]⟩],[⟨false,tI,[0]⟩,⟨false,.bool,[0]⟩],false,none,
 ((fun _=>True):(Int × Int)→Prop),
 ((fun x=>eS x.1 x.2):(Int × Int)→(Int × Bool))⟩
def aG5:T:=.call 0 (.p1 tI tI (.Z 0)) <|.call 0 (aP aD 1 (.Z 0)) <|
 .bRX (.ar .mul .i64) (.bRY tI tI (.Z 1) (.Z 2)) <|
 .call 1 (.bRY tI tI (.Z 3) (.ci .i64 65536)) <|
 .call 2 (.Z 4) <|
 .ret (.Z 5)
theorem bB1:bI Tryz.prog [jE,rB,gI] iL false 3000 ⟨[],[]⟩ = .ok aG5:=by kernel_rfl
theorem bE1 (x:Int × Int) (hx:okD aD x) (hp:(fun _=>True) x):aG5.wp [jE,rB,gI] [⟨aD,x⟩] [] (fun v=>v.as (.bRW tI .bool)=(fun x=>eS x.1 x.2) x):=by
 delta aG5 jE rB gI;refine cW ?_
 have h:=bRL (kK x.1) (kK x.2)
 exact fun _ _=>⟨by omega,fun _ _ _=>rfl⟩
theorem aFA:Con.Holds Tryz.prog iL:=aS aV (aI aHE (aI aZH (aI aDK aQ))) bB1 bE1
def aAR:Con:=⟨186,tI,tI,[.val ⟨false,tI,[]⟩],[⟨false,tI,[0]⟩],false,none,
 ((fun _=>True):(Int)→Prop),
 ((fun x=>aLN x):(Int)→(Int))⟩
def aM6:T:=.call 0 (.Z 0) <|
 .bRX (.mx .i64) (.bRY tI tI (.ci .i64 0) (.Z 1)) <|
 .ret (.Z 2)
theorem bJK:bI Tryz.prog [jE] aAR false 3000 ⟨[],[]⟩ = .ok aM6:=by kernel_rfl
theorem bL8 (x:Int) (hx:okD tI x) (hp:(fun _=>True) x):aM6.wp [jE] [⟨tI,x⟩] [] (fun v=>v.as tI=(fun x=>aLN x) x):=by
 delta aM6 jE;refine cW ?_
 exact fun _ _=>rfl
theorem bM3:Con.Holds Tryz.prog aAR:=aS aV (aI aHE aQ) bJK bL8
def lJ:Con:=⟨177,aO,(.bRW aB .bool),[.val ⟨false,aB,[]⟩,.val ⟨false,aB,[]⟩],[⟨false,aB,[2]⟩,⟨false,.bool,[0]⟩],false,none,
 ((fun _=>True):(bT)→Prop),
 ((fun x=>kZ dP x.1 x.2):(bT)→(bK × Bool))⟩
def aFB:T:=.loop (.bRW tI (.bRW .bool aB)) (bB (.bRW tI (.bRW .bool aB)) [(.ci .i64 0),(.cb false),(.nl 3 tI)]) <|
 .bRX (.bS0 3 tI) (.p1 aB aB (.Z 0)) <|
 .bRX (.cmp .lss .i64) (.bRY tI tI (.p1 tI (.bRW .bool aB) (.Z 1)) (.Z 2)) <|
 .ite (.Z 3) (
  .call 0 (.Z 0) <|
  .ite (.Z 4) (
   .bRX (.bS1 3 tI) (.bRY aB tI (.p1 aB aB (.Z 0)) (.p1 tI (.bRW .bool aB) (.Z 1))) <|
   .bRX (.bS1 3 tI) (.bRY aB tI (aP aO 1 (.Z 0)) (.p1 tI (.bRW .bool aB) (.Z 1))) <|
   .call 1 (.bRY tI tI (.Z 5) (.Z 6)) <|
   .bRX (.lit 3 tI 1) (.p1 tI .bool (.Z 7)) <|
   .bRX (.bS3 3 tI 8) (.bRY aB aB (aP (.bRW tI (.bRW .bool aB)) 2 (.Z 1)) (.Z 8)) <|
   .ite (aK (.bRW tI (.bRW .bool aB)) 1 (.Z 1)) (
    .bRX (.ar .add .i64) (.bRY tI tI (.p1 tI (.bRW .bool aB) (.Z 1)) (.ci .i64 1)) <|
    .bRZ 0 (bB (.bRW tI (.bRW .bool aB)) [(.Z 10),(.cb true),(.Z 9)])) (
    .bRX (.ar .add .i64) (.bRY tI tI (.p1 tI (.bRW .bool aB) (.Z 1)) (.ci .i64 1)) <|
    .bRZ 0 (bB (.bRW tI (.bRW .bool aB)) [(.Z 10),(aP (.bRW tI .bool) 1 (.Z 7)),(.Z 9)]))) (
   .ret (.bRY aB .bool (aP (.bRW tI (.bRW .bool aB)) 2 (.Z 1)) (aK (.bRW tI (.bRW .bool aB)) 1 (.Z 1))))) (
  .ret (.bRY aB .bool (aP (.bRW tI (.bRW .bool aB)) 2 (.Z 1)) (aK (.bRW tI (.bRW .bool aB)) 1 (.Z 1))))
theorem bB8:bI Tryz.prog [fA,dT] lJ false 3000 ⟨[(2989,1001,[.dr 11,.tm 8 0,.tm 7 0,.on 6,.sl 1])],[]⟩ = .ok aFB:=by kernel_rfl
theorem bDI (x:bT) (hx:okD aO x) (hp:(fun _=>True) x):aFB.wp [fA,dT] [⟨aO,x⟩] [] (fun v=>v.as (.bRW aB .bool)=(fun x=>kZ dP x.1 x.2) x):=by
 obtain ⟨a,b⟩:=x
 delta aFB fA dT;refine cW ?_
 simp only[bFE]
 cases h:pC a b
 ·refine cN (fun _=>((0:Int),false,([]:List Int))) 0 rfl fun I μ k hk _ go=>?_
  dsimp only
  simp only[reduceCtorEq,false_implies,true_implies,forall_const,and_true,true_and,implies_true,mG]
  (repeat' first|intro _|(refine go _ ?_ ?_ ?_)|(refine go _ ?_ ?_)|(with_reducible apply And.intro))
  all_goals first|omega|exact aKS h
 ·have hl:=kO h
  rw[aH1 h]
  refine cN (fun k=>((k:Int),an k (fun i=>(dP (a.getD i 0) (b.getD i 0)).2),mp k fun i=>(dP (a.getD i 0) (b.getD i 0)).1)) a.length rfl fun I μ k hk _ go=>?_
  dsimp only
  simp only[reduceCtorEq,false_implies,true_implies,forall_const,and_true,true_and,implies_true,mG,fL]
  (repeat' first|intro _|(refine go _ ?_ ?_ ?_)|(refine go _ ?_ ?_)|(with_reducible apply And.intro))
  all_goals first|omega|(unfold maxLen;omega)|(rw[fY,mH];first|exact Prod.ext rfl (Prod.ext (iT (by assumption)) rfl)|exact Prod.ext rfl (Prod.ext (mN (by assumption)) rfl))|(have e:k=a.length:=(by omega);subst e;rfl)
theorem aO3:Con.Holds Tryz.prog lJ:=aS aV (aI aA3 (aI tB aQ)) bB8 bDI
def lA:Con:=⟨151,aO,(.bRW aB .bool),[.val ⟨false,aB,[]⟩,.val ⟨false,aB,[]⟩],[⟨false,aB,[2]⟩,⟨false,.bool,[0]⟩],false,none,
 ((fun _=>True):(bT)→Prop),
 ((fun x=>kZ eP x.1 x.2):(bT)→(bK × Bool))⟩
def aG2:T:=.loop (.bRW tI (.bRW .bool aB)) (bB (.bRW tI (.bRW .bool aB)) [(.ci .i64 0),(.cb false),(.nl 3 tI)]) <|
 .bRX (.bS0 3 tI) (.p1 aB aB (.Z 0)) <|
 .bRX (.cmp .lss .i64) (.bRY tI tI (.p1 tI (.bRW .bool aB) (.Z 1)) (.Z 2)) <|
 .ite (.Z 3) (
  .call 0 (.Z 0) <|
  .ite (.Z 4) (
   .bRX (.bS1 3 tI) (.bRY aB tI (.p1 aB aB (.Z 0)) (.p1 tI (.bRW .bool aB) (.Z 1))) <|
   .bRX (.bS1 3 tI) (.bRY aB tI (aP aO 1 (.Z 0)) (.p1 tI (.bRW .bool aB) (.Z 1))) <|
   .call 1 (.bRY tI tI (.Z 5) (.Z 6)) <|
   .bRX (.lit 3 tI 1) (.p1 tI .bool (.Z 7)) <|
   .bRX (.bS3 3 tI 8) (.bRY aB aB (aP (.bRW tI (.bRW .bool aB)) 2 (.Z 1)) (.Z 8)) <|
   .ite (aK (.bRW tI (.bRW .bool aB)) 1 (.Z 1)) (
    .bRX (.ar .add .i64) (.bRY tI tI (.p1 tI (.bRW .bool aB) (.Z 1)) (.ci .i64 1)) <|
    .bRZ 0 (bB (.bRW tI (.bRW .bool aB)) [(.Z 10),(.cb true),(.Z 9)])) (
    .bRX (.ar .add .i64) (.bRY tI tI (.p1 tI (.bRW .bool aB) (.Z 1)) (.ci .i64 1)) <|
    .bRZ 0 (bB (.bRW tI (.bRW .bool aB)) [(.Z 10),(aP (.bRW tI .bool) 1 (.Z 7)),(.Z 9)]))) (
   .ret (.bRY aB .bool (aP (.bRW tI (.bRW .bool aB)) 2 (.Z 1)) (aK (.bRW tI (.bRW .bool aB)) 1 (.Z 1))))) (
  .ret (.bRY aB .bool (aP (.bRW tI (.bRW .bool aB)) 2 (.Z 1)) (aK (.bRW tI (.bRW .bool aB)) 1 (.Z 1))))
theorem bBS:bI Tryz.prog [fA,sI] lA false 3000 ⟨[(2989,1001,[.dr 11,.tm 8 0,.tm 7 0,.on 6,.sl 1])],[]⟩ = .ok aG2:=by kernel_rfl
theorem bCF (x:bT) (hx:okD aO x) (hp:(fun _=>True) x):aG2.wp [fA,sI] [⟨aO,x⟩] [] (fun v=>v.as (.bRW aB .bool)=(fun x=>kZ eP x.1 x.2) x):=by
 obtain ⟨a,b⟩:=x
 delta aG2 fA sI;refine cW ?_
 simp only[bFE]
 cases h:pC a b
 ·refine cN (fun _=>((0:Int),false,([]:List Int))) 0 rfl fun I μ k hk _ go=>?_
  dsimp only
  simp only[reduceCtorEq,false_implies,true_implies,forall_const,and_true,true_and,implies_true,mG]
  (repeat' first|intro _|(refine go _ ?_ ?_ ?_)|(refine go _ ?_ ?_)|(with_reducible apply And.intro))
  all_goals first|omega|exact aKS h
 ·have hl:=kO h
  rw[aH1 h]
  refine cN (fun k=>((k:Int),an k (fun i=>(eP (a.getD i 0) (b.getD i 0)).2),mp k fun i=>(eP (a.getD i 0) (b.getD i 0)).1)) a.length rfl fun I μ k hk _ go=>?_
  dsimp only
  simp only[reduceCtorEq,false_implies,true_implies,forall_const,and_true,true_and,implies_true,mG,fL]
  (repeat' first|intro _|(refine go _ ?_ ?_ ?_)|(refine go _ ?_ ?_)|(with_reducible apply And.intro))
  all_goals first|omega|(unfold maxLen;omega)|(rw[fY,mH];first|exact Prod.ext rfl (Prod.ext (iT (by assumption)) rfl)|exact Prod.ext rfl (Prod.ext (mN (by assumption)) rfl))|(have e:k=a.length:=(by omega);subst e;rfl)
theorem aNG:Con.Holds Tryz.prog lA:=aS aV (aI aA3 (aI bBA aQ)) bBS bCF
def iV:Con:=⟨179,aH,(.bRW aB .bool),[.val ⟨false,tI,[]⟩,.val ⟨false,aB,[]⟩],[⟨false,aB,[2]⟩,⟨false,.bool,[0]⟩],false,none,
 ((fun _=>True):(cP)→Prop),
 ((fun x=>uS x.1 x.2):(cP)→(bK × Bool))⟩
def zZ:T:=.loop (.bRW tI (.bRW .bool aB)) (bB (.bRW tI (.bRW .bool aB)) [(.ci .i64 0),(.cb false),(.nl 3 tI)]) <|
 .bRX (.bS0 3 tI) (aP aH 1 (.Z 0)) <|
 .bRX (.cmp .lss .i64) (.bRY tI tI (.p1 tI (.bRW .bool aB) (.Z 1)) (.Z 2)) <|
 .ite (.Z 3) (
  .call 0 (aP aH 1 (.Z 0)) <|
  .ite (.Z 4) (
   .call 1 (.p1 tI aB (.Z 0)) <|
   .ite (.Z 5) (
    .bRX (.bS1 3 tI) (.bRY aB tI (aP aH 1 (.Z 0)) (.p1 tI (.bRW .bool aB) (.Z 1))) <|
    .call 2 (.bRY tI tI (.p1 tI aB (.Z 0)) (.Z 6)) <|
    .bRX (.lit 3 tI 1) (.p1 tI .bool (.Z 7)) <|
    .bRX (.bS3 3 tI 8) (.bRY aB aB (aP (.bRW tI (.bRW .bool aB)) 2 (.Z 1)) (.Z 8)) <|
    .ite (aK (.bRW tI (.bRW .bool aB)) 1 (.Z 1)) (
     .bRX (.ar .add .i64) (.bRY tI tI (.p1 tI (.bRW .bool aB) (.Z 1)) (.ci .i64 1)) <|
     .bRZ 0 (bB (.bRW tI (.bRW .bool aB)) [(.Z 10),(.cb true),(.Z 9)])) (
     .bRX (.ar .add .i64) (.bRY tI tI (.p1 tI (.bRW .bool aB) (.Z 1)) (.ci .i64 1)) <|
     .bRZ 0 (bB (.bRW tI (.bRW .bool aB)) [(.Z 10),(aP (.bRW tI .bool) 1 (.Z 7)),(.Z 9)]))) (
    .ret (.bRY aB .bool (aP (.bRW tI (.bRW .bool aB)) 2 (.Z 1)) (aK (.bRW tI (.bRW .bool aB)) 1 (.Z 1))))) (
   .ret (.bRY aB .bool (aP (.bRW tI (.bRW .bool aB)) 2 (.Z 1)) (aK (.bRW tI (.bRW .bool aB)) 1 (.Z 1))))) (
  .ret (.bRY aB .bool (aP (.bRW tI (.bRW .bool aB)) 2 (.Z 1)) (aK (.bRW tI (.bRW .bool aB)) 1 (.Z 1))))
theorem aU5:bI Tryz.prog [bN,gJ,iL] iV false 3000 ⟨[(2989,1001,[.dr 11,.tm 8 0,.tm 7 0,.on 6,.sl 1])],[]⟩ = .ok zZ:=by kernel_rfl
theorem aV9 (x:cP) (hx:okD aH x) (hp:(fun _=>True) x):zZ.wp [bN,gJ,iL] [⟨aH,x⟩] [] (fun v=>v.as (.bRW aB .bool)=(fun x=>uS x.1 x.2) x):=by
 obtain ⟨c,a⟩:=x
 delta zZ bN gJ iL;refine cW ?_
 cases h:iQ a
 ·refine cN (fun _=>((0:Int),false,([]:List Int))) 0 rfl fun I μ k hk _ go=>?_
  dsimp only
  simp only[reduceCtorEq,false_implies,true_implies,forall_const,and_true,true_and,implies_true,mG]
  (repeat' first|intro _|(refine go _ ?_ ?_ ?_)|(refine go _ ?_ ?_)|(with_reducible apply And.intro))
  all_goals first|omega|(unfold uS;rw[if_neg (by rw[h];simp)])
 cases h2:jL c
 ·refine cN (fun _=>((0:Int),false,([]:List Int))) 0 rfl fun I μ k hk _ go=>?_
  dsimp only
  simp only[reduceCtorEq,false_implies,true_implies,forall_const,and_true,true_and,implies_true,mG]
  (repeat' first|intro _|(refine go _ ?_ ?_ ?_)|(refine go _ ?_ ?_)|(with_reducible apply And.intro))
  all_goals first|omega|(unfold uS;rw[if_neg (by rw[h2];simp)])
 ·have hl:=(cT a).1 h
  rw[show uS c a=_ from if_pos ⟨h2,h⟩]
  refine cN (fun k=>((k:Int),an k (fun i=>(eS c (a.getD i 0)).2),mp k fun i=>(eS c (a.getD i 0)).1)) a.length rfl fun I μ k hk _ go=>?_
  dsimp only
  simp only[reduceCtorEq,false_implies,true_implies,forall_const,and_true,true_and,implies_true,mG,fL]
  (repeat' first|intro _|(refine go _ ?_ ?_ ?_)|(refine go _ ?_ ?_)|(with_reducible apply And.intro))
  all_goals first|omega|(unfold maxLen;omega)|(rw[fY,mH];first|exact Prod.ext rfl (Prod.ext (iT (by assumption)) rfl)|exact Prod.ext rfl (Prod.ext (mN (by assumption)) rfl))|(have e:k=a.length:=(by omega);subst e;rfl)
theorem aHF:Con.Holds Tryz.prog iV:=aS aV (aI fD (aI aDF (aI aFA aQ))) aU5 aV9
def eY:Con:=⟨165,aO,(.bRW tI .bool),[.val ⟨false,aB,[]⟩,.val ⟨false,aB,[]⟩],[⟨false,tI,[0]⟩,⟨false,.bool,[0]⟩],false,none,
 ((fun _=>True):(bT)→Prop),
 ((fun x=>fS x.1 x.2):(bT)→(Int × Bool))⟩
def aEV:T:=.loop (.bRW tI (.bRW .bool tI)) (bB (.bRW tI (.bRW .bool tI)) [(.ci .i64 0),(.cb false),(.ci .i64 0)]) <|
 .bRX (.bS0 3 tI) (.p1 aB aB (.Z 0)) <|
 .bRX (.cmp .lss .i64) (.bRY tI tI (.p1 tI (.bRW .bool tI) (.Z 1)) (.Z 2)) <|
 .ite (.Z 3) (
  .call 0 (.Z 0) <|
  .ite (.Z 4) (
   .bRX (.bS1 3 tI) (.bRY aB tI (.p1 aB aB (.Z 0)) (.p1 tI (.bRW .bool tI) (.Z 1))) <|
   .bRX (.bS1 3 tI) (.bRY aB tI (aP aO 1 (.Z 0)) (.p1 tI (.bRW .bool tI) (.Z 1))) <|
   .call 1 (.bRY tI tI (.Z 5) (.Z 6)) <|
   .call 2 (.bRY tI tI (aP (.bRW tI (.bRW .bool tI)) 2 (.Z 1)) (.p1 tI .bool (.Z 7))) <|
   .ite (aK (.bRW tI (.bRW .bool tI)) 1 (.Z 1)) (
    .bRX (.ar .add .i64) (.bRY tI tI (.p1 tI (.bRW .bool tI) (.Z 1)) (.ci .i64 1)) <|
    .bRZ 0 (bB (.bRW tI (.bRW .bool tI)) [(.Z 9),(.cb true),(.p1 tI .bool (.Z 8))])) (
    .ite (aP (.bRW tI .bool) 1 (.Z 7)) (
     .bRX (.ar .add .i64) (.bRY tI tI (.p1 tI (.bRW .bool tI) (.Z 1)) (.ci .i64 1)) <|
     .bRZ 0 (bB (.bRW tI (.bRW .bool tI)) [(.Z 9),(.cb true),(.p1 tI .bool (.Z 8))])) (
     .bRX (.ar .add .i64) (.bRY tI tI (.p1 tI (.bRW .bool tI) (.Z 1)) (.ci .i64 1)) <|
     .bRZ 0 (bB (.bRW tI (.bRW .bool tI)) [(.Z 9),(aP (.bRW tI .bool) 1 (.Z 8)),(.p1 tI .bool (.Z 8))])))) (
   .ret (.bRY tI .bool (aP (.bRW tI (.bRW .bool tI)) 2 (.Z 1)) (aK (.bRW tI (.bRW .bool tI)) 1 (.Z 1))))) (
  .ret (.bRY tI .bool (aP (.bRW tI (.bRW .bool tI)) 2 (.Z 1)) (aK (.bRW tI (.bRW .bool tI)) 1 (.Z 1))))
theorem aZW:bI Tryz.prog [fA,iL,dT] eY false 3000 ⟨[(2989,1001,[.tm 8 0,.tm 7 0,.tm 6 0])],[]⟩ = .ok aEV:=by kernel_rfl
theorem bCC (x:bT) (hx:okD aO x) (hp:(fun _=>True) x):aEV.wp [fA,iL,dT] [⟨aO,x⟩] [] (fun v=>v.as (.bRW tI .bool)=(fun x=>fS x.1 x.2) x):=by
 obtain ⟨a,b⟩:=x
 delta aEV fA iL dT;refine cW ?_
 simp only[bFE]
 cases h:pC a b
 ·refine cN (fun _=>((0:Int),false,(0:Int))) 0 rfl fun I μ k hk _ go=>?_
  dsimp only
  simp only[reduceCtorEq,false_implies,true_implies,forall_const,and_true,true_and,implies_true,mG]
  (repeat' first|intro _|(refine go _ ?_ ?_ ?_)|(refine go _ ?_ ?_)|(with_reducible apply And.intro))
  all_goals first|omega|(unfold fS;rw[if_neg (by rw[h];exact Bool.false_ne_true)])
 ·have hl:=kO h
  rw[show fS a b=_ from if_pos h]
  refine cN (fun k=>((k:Int),(aI5 a b k).2,(aI5 a b k).1)) a.length rfl fun I μ k hk _ go=>?_
  dsimp only
  simp only[reduceCtorEq,false_implies,true_implies,forall_const,and_true,true_and,implies_true,mG]
  (repeat' first|intro _|(refine go _ ?_ ?_ ?_)|(refine go _ ?_ ?_)|(with_reducible apply And.intro))
  all_goals first|omega|(rw[aSA];first|exact Prod.ext rfl (Prod.ext (bPU (by assumption)) rfl)|exact Prod.ext rfl (Prod.ext (bQ2 (by assumption) (by assumption)) rfl)|exact Prod.ext rfl (Prod.ext (bQ7 (by assumption) (by assumption)) rfl))|(have e:k=a.length:=(by omega);subst e;rfl)
theorem aA6:Con.Holds Tryz.prog eY:=aS aV (aI aA3 (aI aFA (aI tB aQ))) aZW bCC
def qP:Con:=⟨178,aB,aB,[.val ⟨false,aB,[]⟩],[⟨false,aB,[2]⟩],false,none,
 ((fun _=>True):(List Int)→Prop),
 ((fun x=>oZ x):(List Int)→(List Int))⟩
def aD7:T:=.loop aH (.bRY tI aB (.ci .i64 0) (.nl 3 tI)) <|
 .bRX (.bS0 3 tI) (.Z 0) <|
 .bRX (.cmp .lss .i64) (.bRY tI tI (.p1 tI aB (.Z 1)) (.Z 2)) <|
 .ite (.Z 3) (
  .call 0 (.Z 0) <|
  .ite (.Z 4) (
   .bRX (.bS1 3 tI) (.bRY aB tI (.Z 0) (.p1 tI aB (.Z 1))) <|
   .call 1 (.Z 5) <|
   .bRX (.lit 3 tI 1) (.Z 6) <|
   .bRX (.bS3 3 tI 8) (.bRY aB aB (aP aH 1 (.Z 1)) (.Z 7)) <|
   .bRX (.ar .add .i64) (.bRY tI tI (.p1 tI aB (.Z 1)) (.ci .i64 1)) <|
   .bRZ 0 (.bRY tI aB (.Z 9) (.Z 8))) (
   .ret (aP aH 1 (.Z 1)))) (
  .ret (aP aH 1 (.Z 1)))
theorem aW1:bI Tryz.prog [bN,aAR] qP false 3000 ⟨[(2991,1001,[.dr 5,.tm 4 0,.on 3,.sl 1])],[]⟩ = .ok aD7:=by kernel_rfl
theorem aX8 (x:List Int) (hx:okD aB x) (hp:(fun _=>True) x):aD7.wp [bN,aAR] [⟨aB,x⟩] [] (fun v=>v.as aB=(fun x=>oZ x) x):=by
 obtain ⟨a,rfl⟩:∃ a,a=x:=⟨_,rfl⟩
 delta aD7 bN aAR;refine cW ?_
 cases h:iQ a
 ·refine cN (fun _=>((0:Int),([]:List Int))) 0 rfl fun I μ k hk _ go=>?_
  dsimp only
  simp only[reduceCtorEq,false_implies,true_implies,forall_const,and_true,true_and,implies_true,mG]
  (repeat' first|intro _|(refine go _ ?_ ?_ ?_)|(refine go _ ?_ ?_)|(with_reducible apply And.intro))
  all_goals first|omega|(unfold oZ;rw[if_neg (by rw[h];exact Bool.false_ne_true)])
 ·have hl:=(cT a).1 h
  rw[show oZ a=_ from if_pos h]
  refine cN (fun k=>((k:Int),mp k fun i=>aLN (a.getD i 0))) a.length rfl fun I μ k hk _ go=>?_
  dsimp only
  simp only[reduceCtorEq,false_implies,true_implies,forall_const,and_true,true_and,implies_true,mG,fL]
  (repeat' first|intro _|(refine go _ ?_ ?_ ?_)|(refine go _ ?_ ?_)|(with_reducible apply And.intro))
  all_goals first|omega|(unfold maxLen;omega)|(rw[fY];rfl)|(have e:k=a.length:=(by omega);subst e;rfl)
theorem aZA:Con.Holds Tryz.prog qP:=aS aV (aI fD (aI bM3 aQ)) aW1 aX8
def qH:Con:=⟨181,aO,aB,[.val ⟨false,aB,[]⟩,.val ⟨false,aB,[]⟩],[⟨false,aB,[2]⟩],false,none,
 ((fun _=>True):(bT)→Prop),
 ((fun x=>oX x.1 x.2):(bT)→(List Int))⟩
def aC1:T:=.loop aH (.bRY tI aB (.ci .i64 0) (.nl 3 tI)) <|
 .bRX (.bS0 3 tI) (.p1 aB aB (.Z 0)) <|
 .bRX (.cmp .lss .i64) (.bRY tI tI (.p1 tI aB (.Z 1)) (.Z 2)) <|
 .ite (.Z 3) (
  .call 0 (.Z 0) <|
  .ite (.Z 4) (
   .bRX (.bS1 3 tI) (.bRY aB tI (.p1 aB aB (.Z 0)) (.p1 tI aB (.Z 1))) <|
   .bRX (.cmp .gtr .i64) (.bRY tI tI (.Z 5) (.ci .i64 0)) <|
   .ite (.Z 6) (
    .bRX (.bS1 3 tI) (.bRY aB tI (aP aO 1 (.Z 0)) (.p1 tI aB (.Z 1))) <|
    .bRX (.lit 3 tI 1) (.Z 7) <|
    .bRX (.bS3 3 tI 8) (.bRY aB aB (aP aH 1 (.Z 1)) (.Z 8)) <|
    .bRX (.ar .add .i64) (.bRY tI tI (.p1 tI aB (.Z 1)) (.ci .i64 1)) <|
    .bRZ 0 (.bRY tI aB (.Z 10) (.Z 9))) (
    .bRX (.lit 3 tI 1) (.ci .i64 0) <|
    .bRX (.bS3 3 tI 8) (.bRY aB aB (aP aH 1 (.Z 1)) (.Z 7)) <|
    .bRX (.ar .add .i64) (.bRY tI tI (.p1 tI aB (.Z 1)) (.ci .i64 1)) <|
    .bRZ 0 (.bRY tI aB (.Z 9) (.Z 8)))) (
   .ret (aP aH 1 (.Z 1)))) (
  .ret (aP aH 1 (.Z 1)))
theorem aYW:bI Tryz.prog [fA] qH false 3000 ⟨[(2991,1001,[.dr 7,.tm 6 0,.on 5,.sl 1])],[]⟩ = .ok aC1:=by kernel_rfl
theorem aZI (x:bT) (hx:okD aO x) (hp:(fun _=>True) x):aC1.wp [fA] [⟨aO,x⟩] [] (fun v=>v.as aB=(fun x=>oX x.1 x.2) x):=by
 obtain ⟨a,b⟩:=x
 delta aC1 fA;refine cW ?_
 simp only[bFE]
 cases h:pC a b
 ·refine cN (fun _=>((0:Int),([]:List Int))) 0 rfl fun I μ k hk _ go=>?_
  dsimp only
  simp only[reduceCtorEq,false_implies,true_implies,forall_const,and_true,true_and,implies_true,mG]
  (repeat' first|intro _|(refine go _ ?_ ?_ ?_)|(refine go _ ?_ ?_)|(with_reducible apply And.intro))
  all_goals first|omega|(unfold oX;rw[if_neg (by rw[h];exact Bool.false_ne_true)])
 ·have hl:=kO h
  rw[show oX a b=_ from if_pos h]
  refine cN (fun k=>((k:Int),mp k fun i=>if 0<a.getD i 0 then b.getD i 0 else 0)) a.length rfl fun I μ k hk _ go=>?_
  dsimp only
  simp only[reduceCtorEq,false_implies,true_implies,forall_const,and_true,true_and,implies_true,mG,fL]
  have e1:0<a.getD k 0→b.getD k 0=if 0<a.getD k 0 then b.getD k 0 else 0:=fun h=>(if_pos h).symm
  have e2:a.getD k 0≤0→0=if 0<a.getD k 0 then b.getD k 0 else 0:=fun h=>(if_neg (by omega)).symm
  (repeat' first|intro _|(refine go _ ?_ ?_ ?_)|(refine go _ ?_ ?_)|(with_reducible apply And.intro))
  all_goals first|omega|(unfold maxLen;omega)|(rw[fY];first|exact Prod.ext rfl (congrArg (mp k _++[·]) (e1 (by assumption)))|exact Prod.ext rfl (congrArg (mp k _++[·]) (e2 (by assumption))))|(have e:k=a.length:=(by omega);subst e;rfl)
theorem aXK:Con.Holds Tryz.prog qH:=aS aV (aI aA3 aQ) aYW aZI
end
end Go.Proofs.YtabamggdmdednaaGreat
