/- Lin2: lemmas. No conditions. -/
import Derived.Test.YtdeobhdbmehpgaaGreatLoop
import Derived.Test.YtdeobhdbmehpgaaGreatStage3
namespace Go.Proofs.YtdeobhdbmehpgaaGreat
noncomputable section
set_option maxRecDepth 100000
open Go.ChangeShapes Go.WideShapes Go.ChangeAt Go.RowKit Go.Deep
set_option linter.unusedVariables false
set_option linter.unusedSimpArgs false
def mp {α:Type} (n:Nat) (g:Nat→α):List α:=(List.range n).map g
def an (n:Nat) (h:Nat→Bool):Bool:=(List.range n).any h
theorem aRU {α:Type} (g:Nat→α):mp 0 g=[]:=rfl
theorem bC0 (h:Nat→Bool):an 0 h=false:=rfl
theorem gH {α:Type} (n:Nat) (g:Nat→α):mp (n+1) g=mp n g++[g n]:=by unfold mp;rw[List.range_succ,List.map_append];rfl
theorem lI (n:Nat) (h:Nat→Bool):an (n+1) h=(an n h || h n):=by unfold an;rw[List.range_succ,List.any_append];simp
theorem fR {α:Type} (n:Nat) (g:Nat→α):(mp n g).length=n:=by unfold mp;simp
theorem bJU {α:Type} {n:Nat} {g h:Nat→α} (e:∀ i,i<n→g i=h i):mp n g=mp n h:=List.map_congr_left fun i hi=>e i (List.mem_range.1 hi)
theorem bKC {n:Nat} {g h:Nat→Bool} (e:∀ i,i<n→g i=h i):an n g=an n h:=by
 rw[Bool.eq_iff_iff];unfold an;simp only[List.any_eq_true,List.mem_range]
 exact ⟨fun ⟨i,h1,h2⟩=>⟨i,h1,by rw[← e i h1];exact h2⟩,fun ⟨i,h1,h2⟩=>⟨i,h1,by rw[e i h1];exact h2⟩⟩
theorem iC {a b:Bool} (h:a=true):true=(a || b):=by rw[h];rfl
theorem lL {a b:Bool} (h:a=false):b=(a || b):=by rw[h];rfl
theorem bLE {a b c:Bool} (h:a=true):true=((a || b) || c):=by rw[h];rfl
theorem bLM {a b c:Bool} (h:a=false) (h2:b=true):true=((a || b) || c):=by rw[h,h2];rfl
theorem bLF {a b c:Bool} (h:a=false) (h2:b=false):c=((a || b) || c):=by rw[h,h2];rfl
def eP (a b:Int):Int × Bool:=aKX (eJ a - eJ b)
def fA (a b:Int):Int × Bool:=aKX ((eJ a * eJ b).fdiv 65536)
def aLS (x:Int):Int:=max 0 (eJ x)
theorem bNA {x y:Int} (h1:-2147483647≤x∧x≤2147483647) (h2:-2147483647≤y∧y≤2147483647):-4611686014132420609≤x * y∧x * y≤4611686014132420609:=by
 have h:(x * y).natAbs≤2147483647 * 2147483647:=by
  rw[Int.natAbs_mul];exact Nat.mul_le_mul (by omega) (by omega)
 omega
theorem bN6 {a:Int} (h:-9223372036854775808≤a∧a≤9223372036854775807):-140737488355328≤a.tdiv 65536∧a.tdiv 65536≤140737488355328:=by
 rcases Int.le_total 0 a with h1|h1
 ·rw[Int.tdiv_eq_ediv_of_nonneg h1];omega
 ·have e1:a.tdiv 65536 = -((-a) / 65536):=by
   rw[← Int.neg_neg a,Int.neg_tdiv,Int.tdiv_eq_ediv_of_nonneg (by omega),Int.neg_neg]
  omega
theorem bFW (x:Int):x.fdiv 65536=(if x.tmod 65536≠0∧x<0 then x.tdiv 65536 - 1 else x.tdiv 65536):=by
 rw[Int.fdiv_eq_ediv_of_nonneg _ (by decide)]
 rcases Int.le_total 0 x with h|h
 ·rw[Int.tdiv_eq_ediv_of_nonneg h,if_neg (by omega)]
 ·have e1:x.tdiv 65536 = -((-x) / 65536):=by
   rw[← Int.neg_neg x,Int.neg_tdiv,Int.tdiv_eq_ediv_of_nonneg (by omega),Int.neg_neg]
  have e2:x.tmod 65536 = -((-x) % 65536):=by
   rw[← Int.neg_neg x,Int.neg_tmod,Int.tmod_eq_emod_of_nonneg (by omega),Int.neg_neg]
  rw[e1,e2]
  split <;> omega
def nV (a b:List Int):Bool:=iA a&&eF b (a.length:Int)
def vz (f:Int→Int→Int × Bool) (a b:List Int) (n:Nat):List Int × Bool:=(mp n fun i=>(f (a.getD i 0) (b.getD i 0)).1,an n fun i=>(f (a.getD i 0) (b.getD i 0)).2)
def kD (f:Int→Int→Int × Bool) (a b:List Int):List Int × Bool:=if nV a b=true then vz f a b a.length else ([],false)
def sR (c:Int) (a:List Int):List Int × Bool:=if iP c=true∧iA a=true then (mp a.length fun i=>(fA c (a.getD i 0)).1,an a.length fun i=>(fA c (a.getD i 0)).2) else ([],false)
def aGJ (a b:List Int):Nat→Int × Bool
 | 0=>(0,false)
 | k+1=>((dK (aGJ a b k).1 (fA (a.getD k 0) (b.getD k 0)).1).1,(aGJ a b k).2 || (fA (a.getD k 0) (b.getD k 0)).2 || (dK (aGJ a b k).1 (fA (a.getD k 0) (b.getD k 0)).1).2)
def fL (a b:List Int):Int × Bool:=if nV a b=true then aGJ a b a.length else (0,false)
def nI (a:List Int):List Int:=if iA a=true then mp a.length fun i=>aLS (a.getD i 0) else []
def nO (x d:List Int):List Int:=if nV x d=true then mp x.length fun i=>if 0<x.getD i 0 then d.getD i 0 else 0 else []
theorem bDV (a b:List Int):nV a b=true↔iA a=true∧eF b (a.length:Int)=true:=by unfold nV;rw[Bool.and_eq_true]
theorem jU {a b:List Int} (h:nV a b=true):a.length≤6∧b.length=a.length:=by
 obtain ⟨h1,h2⟩:=(bDV a b).1 h
 have:=(cL a).1 h1
 have:=(cE _ _).1 h2
 omega
theorem aIO {f:Int→Int→Int × Bool} {a b:List Int} (h:nV a b=false):([],false)=kD f a b:=by unfold kD;rw[if_neg (by rw[h];exact Bool.false_ne_true)]
theorem aEN {f:Int→Int→Int × Bool} {a b:List Int} (h:nV a b=true):kD f a b=vz f a b a.length:=if_pos h
theorem aOJ (a b:List Int) (k:Nat):aGJ a b (k+1)=((dK (aGJ a b k).1 (fA (a.getD k 0) (b.getD k 0)).1).1,(aGJ a b k).2 || (fA (a.getD k 0) (b.getD k 0)).2 || (dK (aGJ a b k).1 (fA (a.getD k 0) (b.getD k 0)).1).2):=rfl
theorem bAV (a b:List Int):(iA a&&(iA b&&decide (a.length=b.length)))=nV a b:=by
 unfold nV eF
 congr 2
 rw[Bool.eq_iff_iff,decide_eq_true_eq,decide_eq_true_eq];omega
def rF:Con:=⟨155,aE,(.bNT tI .bool),[.val ⟨false,tI,[]⟩,.val ⟨false,tI,[]⟩],[⟨false,tI,[0]⟩,⟨false,.bool,[0]⟩],false,none,
 ((fun _=>True):(Int × Int)→Prop),
 ((fun x=>eP x.1 x.2):(Int × Int)→(Int × Bool))⟩
def aE5:T:=.call 0 (.p1 tI tI (.Z 0)) <|.call 0 (aO aE 1 (.Z 0)) <|
 .bNU (.ar .sub .i64) (.bNV tI tI (.Z 1) (.Z 2)) <|
 .call 1 (.Z 3) <|
 .ret (.Z 4)
theorem aWT:bM Tryz.prog [eK,gW] rF false 3000 ⟨[],[]⟩ = .ok aE5:=by kernel_rfl
theorem aY4 (x:Int × Int) (hx:okD aE x) (hp:(fun _=>True) x):aE5.wp [eK,gW] [⟨aE,x⟩] [] (fun v=>v.as (.bNT tI .bool)=(fun x=>eP x.1 x.2) x):=by
 delta aE5 eK gW;refine dB ?_
 intro _ _
 have h1:=jQ x.1
 have h2:=jQ x.2
 exact ⟨by omega,fun _ _=>rfl⟩
theorem bAJ:Con.Holds Tryz.prog rF:=aS aW (aH wF (aH aDL aR)) aWT aY4
def gY:Con:=⟨177,aE,(.bNT tI .bool),[.val ⟨false,tI,[]⟩,.val ⟨false,tI,[]⟩],[⟨false,tI,[0]⟩,⟨false,.bool,[0]⟩],false,none,
 ((fun _=>True):(Int × Int)→Prop),
 ((fun x=>fA x.1 x.2):(Int × Int)→(Int × Bool))⟩
def aCN:T:=.call 0 (.p1 tI tI (.Z 0)) <|.call 0 (aO aE 1 (.Z 0)) <|
 .bNU (.ar .mul .i64) (.bNV tI tI (.Z 1) (.Z 2)) <|
 .bNU (.shr .i64 .u64) (.bNV tI (.int .u64) (.Z 3) (.ci .u64 16)) <|
 .call 1 (.Z 4) <|
 .ret (.Z 5)
theorem aXF:bM Tryz.prog [eK,gW] gY false 3000 ⟨[],[]⟩ = .ok aCN:=by kernel_rfl
theorem aWK (x:Int × Int) (hx:okD aE x) (hp:(fun _=>True) x):aCN.wp [eK,gW] [⟨aE,x⟩] [] (fun v=>v.as (.bNT tI .bool)=(fun x=>fA x.1 x.2) x):=by
 delta aCN eK gW;refine dB ?_
 have h:=bNA (jQ x.1) (jQ x.2)
 exact fun _ _=>⟨by omega,fun _=>⟨by omega,fun _ _=>rfl⟩⟩
theorem aDM:Con.Holds Tryz.prog gY:=aS aW (aH wF (aH aDL aR)) aXF aWK
def aA3:Con:=⟨191,tI,tI,[.val ⟨false,tI,[]⟩],[⟨false,tI,[0]⟩],false,none,
 ((fun _=>True):(Int)→Prop),
 ((fun x=>aLS x):(Int)→(Int))⟩
def aJI:T:=.call 0 (.Z 0) <|
 .bNU (.mx .i64) (.bNV tI tI (.ci .i64 0) (.Z 1)) <|
 .ret (.Z 2)
theorem bHG:bM Tryz.prog [eK] aA3 false 3000 ⟨[],[]⟩ = .ok aJI:=by kernel_rfl
theorem bGK (x:Int) (hx:okD tI x) (hp:(fun _=>True) x):aJI.wp [eK] [⟨tI,x⟩] [] (fun v=>v.as tI=(fun x=>aLS x) x):=by
 delta aJI eK;refine dB ?_
 exact fun _ _=>rfl
theorem bHH:Con.Holds Tryz.prog aA3:=aS aW (aH wF aR) bHG bGK
def eX:Con:=⟨154,aM,.bool,[.val ⟨false,aB,[]⟩,.val ⟨false,aB,[]⟩],[⟨false,.bool,[0]⟩],false,none,
 ((fun _=>True):(bP)→Prop),
 ((fun x=>nV x.1 x.2):(bP)→(Bool))⟩
def aCS:T:=.call 0 (.p1 aB aB (.Z 0)) <|.ite (.Z 1) (
 .bNU (.bNX 3 tI) (.p1 aB aB (.Z 0)) <|
 .call 1 (.bNV aB tI (aO aM 1 (.Z 0)) (.Z 2)) <|
 .ret (.Z 3)) (
 .ret (.cb false))
theorem bAI:bM Tryz.prog [cX,cB] eX false 3000 ⟨[],[]⟩ = .ok aCS:=by kernel_rfl
theorem aXZ (x:bP) (hx:okD aM x) (hp:(fun _=>True) x):aCS.wp [cX,cB] [⟨aM,x⟩] [] (fun v=>v.as .bool=(fun x=>nV x.1 x.2) x):=by
 delta aCS cX cB;refine dB ?_
 refine ⟨fun h _=>?_,fun h=>?_⟩
 ·unfold nV;rw[h,Bool.true_and]
 ·unfold nV;rw[h,Bool.false_and]
theorem wQ:Con.Holds Tryz.prog eX:=aS aW (aH oD (aH jT aR)) bAI aXZ
def kX:Con:=⟨174,aM,(.bNT aB .bool),[.val ⟨false,aB,[]⟩,.val ⟨false,aB,[]⟩],[⟨false,aB,[2]⟩,⟨false,.bool,[0]⟩],false,none,
 ((fun _=>True):(bP)→Prop),
 ((fun x=>kD dK x.1 x.2):(bP)→(bK × Bool))⟩
def aEF:T:=.call 0 (.Z 0) <|
 .bNU .not (.Z 1) <|
 .ite (.Z 2) (
  .ret (.bNV aB .bool (.nl 3 tI) (.cb false))) (
  .bNU (.bNX 3 tI) (.p1 aB aB (.Z 0)) <|
  .loop (.bNT tI (.bNT .bool aB)) (bB (.bNT tI (.bNT .bool aB)) [(.ci .i64 0),(.cb false),(.nl 3 tI)]) <|
   .bNU (.cmp .lss .i64) (.bNV tI tI (.p1 tI (.bNT .bool aB) (.Z 4)) (.Z 3)) <|
   .ite (.Z 5) (
    .bNU (.bNY 3 tI) (.bNV aB tI (.p1 aB aB (.Z 0)) (.p1 tI (.bNT .bool aB) (.Z 4))) <|
    .bNU (.bNY 3 tI) (.bNV aB tI (aO aM 1 (.Z 0)) (.p1 tI (.bNT .bool aB) (.Z 4))) <|
    .call 1 (.bNV tI tI (.Z 6) (.Z 7)) <|
    .bNU (.lit 3 tI 1) (.p1 tI .bool (.Z 8)) <|
    .bNU (.bO0 3 tI 8) (.bNV aB aB (aO (.bNT tI (.bNT .bool aB)) 2 (.Z 4)) (.Z 9)) <|
    .ite (aJ (.bNT tI (.bNT .bool aB)) 1 (.Z 4)) (
     .bNU (.ar .add .i64) (.bNV tI tI (.p1 tI (.bNT .bool aB) (.Z 4)) (.ci .i64 1)) <|
     .bNW 0 (bB (.bNT tI (.bNT .bool aB)) [(.Z 11),(.cb true),(.Z 10)])) (
     .bNU (.ar .add .i64) (.bNV tI tI (.p1 tI (.bNT .bool aB) (.Z 4)) (.ci .i64 1)) <|
     .bNW 0 (bB (.bNT tI (.bNT .bool aB)) [(.Z 11),(aO (.bNT tI .bool) 1 (.Z 8)),(.Z 10)]))) (
    .ret (.bNV aB .bool (aO (.bNT tI (.bNT .bool aB)) 2 (.Z 4)) (aJ (.bNT tI (.bNT .bool aB)) 1 (.Z 4)))))
theorem aWE:bM Tryz.prog [eX,fB] kX false 3000 ⟨[(2984,2004,iT 16 11++[.tm 18 0,.tm 7 0,.on 6,.sl 1])],[]⟩ = .ok aEF:=by kernel_rfl
theorem bAA (x:bP) (hx:okD aM x) (hp:(fun _=>True) x):aEF.wp [eX,fB] [⟨aM,x⟩] [] (fun v=>v.as (.bNT aB .bool)=(fun x=>kD dK x.1 x.2) x):=by
 obtain ⟨a,b⟩:=x
 delta aEF eX fB;refine dB ?_
 simp only[Bool.not_eq_true',Bool.not_eq_false']
 refine ⟨aIO,fun h _=>?_⟩
 have hl:=jU h
 rw[aEN h]
 refine cZ (fun k=>((k:Int),an k (fun i=>(dK (a.getD i 0) (b.getD i 0)).2),mp k fun i=>(dK (a.getD i 0) (b.getD i 0)).1)) a.length rfl fun I μ k hk _ go=>?_
 dsimp only
 simp only[nS,fR]
 (repeat' first|intro _|(refine go _ ?_ ?_ ?_)|(refine go _ ?_ ?_)|(with_reducible apply And.intro))
 all_goals first|omega|(unfold maxLen;omega)|(rw[gH,lI];first|exact Prod.ext rfl (Prod.ext (iC (by assumption)) rfl)|exact Prod.ext rfl (Prod.ext (lL (by assumption)) rfl))|(have e:k=a.length:=(by omega);subst e;rfl)
theorem aJ8:Con.Holds Tryz.prog kX:=aS aW (aH wQ (aH yB aR)) aWE bAA
def kH:Con:=⟨119,aM,(.bNT aB .bool),[.val ⟨false,aB,[]⟩,.val ⟨false,aB,[]⟩],[⟨false,aB,[2]⟩,⟨false,.bool,[0]⟩],false,none,
 ((fun _=>True):(bP)→Prop),
 ((fun x=>kD eP x.1 x.2):(bP)→(bK × Bool))⟩
def aD5:T:=.call 0 (.Z 0) <|
 .bNU .not (.Z 1) <|
 .ite (.Z 2) (
  .ret (.bNV aB .bool (.nl 3 tI) (.cb false))) (
  .bNU (.bNX 3 tI) (.p1 aB aB (.Z 0)) <|
  .loop (.bNT tI (.bNT .bool aB)) (bB (.bNT tI (.bNT .bool aB)) [(.ci .i64 0),(.cb false),(.nl 3 tI)]) <|
   .bNU (.cmp .lss .i64) (.bNV tI tI (.p1 tI (.bNT .bool aB) (.Z 4)) (.Z 3)) <|
   .ite (.Z 5) (
    .bNU (.bNY 3 tI) (.bNV aB tI (.p1 aB aB (.Z 0)) (.p1 tI (.bNT .bool aB) (.Z 4))) <|
    .bNU (.bNY 3 tI) (.bNV aB tI (aO aM 1 (.Z 0)) (.p1 tI (.bNT .bool aB) (.Z 4))) <|
    .call 1 (.bNV tI tI (.Z 6) (.Z 7)) <|
    .bNU (.lit 3 tI 1) (.p1 tI .bool (.Z 8)) <|
    .bNU (.bO0 3 tI 8) (.bNV aB aB (aO (.bNT tI (.bNT .bool aB)) 2 (.Z 4)) (.Z 9)) <|
    .ite (aJ (.bNT tI (.bNT .bool aB)) 1 (.Z 4)) (
     .bNU (.ar .add .i64) (.bNV tI tI (.p1 tI (.bNT .bool aB) (.Z 4)) (.ci .i64 1)) <|
     .bNW 0 (bB (.bNT tI (.bNT .bool aB)) [(.Z 11),(.cb true),(.Z 10)])) (
     .bNU (.ar .add .i64) (.bNV tI tI (.p1 tI (.bNT .bool aB) (.Z 4)) (.ci .i64 1)) <|
     .bNW 0 (bB (.bNT tI (.bNT .bool aB)) [(.Z 11),(aO (.bNT tI .bool) 1 (.Z 8)),(.Z 10)]))) (
    .ret (.bNV aB .bool (aO (.bNT tI (.bNT .bool aB)) 2 (.Z 4)) (aJ (.bNT tI (.bNT .bool aB)) 1 (.Z 4)))))
theorem bA7:bM Tryz.prog [eX,rF] kH false 3000 ⟨[(2984,2004,iT 16 11++[.tm 18 0,.tm 7 0,.on 6,.sl 1])],[]⟩ = .ok aD5:=by kernel_rfl
theorem aY9 (x:bP) (hx:okD aM x) (hp:(fun _=>True) x):aD5.wp [eX,rF] [⟨aM,x⟩] [] (fun v=>v.as (.bNT aB .bool)=(fun x=>kD eP x.1 x.2) x):=by
 obtain ⟨a,b⟩:=x
 delta aD5 eX rF;refine dB ?_
 simp only[Bool.not_eq_true',Bool.not_eq_false']
 refine ⟨aIO,fun h _=>?_⟩
 have hl:=jU h
 rw[aEN h]
 refine cZ (fun k=>((k:Int),an k (fun i=>(eP (a.getD i 0) (b.getD i 0)).2),mp k fun i=>(eP (a.getD i 0) (b.getD i 0)).1)) a.length rfl fun I μ k hk _ go=>?_
 dsimp only
 simp only[nS,fR]
 (repeat' first|intro _|(refine go _ ?_ ?_ ?_)|(refine go _ ?_ ?_)|(with_reducible apply And.intro))
 all_goals first|omega|(unfold maxLen;omega)|(rw[gH,lI];first|exact Prod.ext rfl (Prod.ext (iC (by assumption)) rfl)|exact Prod.ext rfl (Prod.ext (lL (by assumption)) rfl))|(have e:k=a.length:=(by omega);subst e;rfl)
theorem aLR:Con.Holds Tryz.prog kH:=aS aW (aH wQ (aH bAJ aR)) bA7 aY9
def iF:Con:=⟨175,aF,(.bNT aB .bool),[.val ⟨false,tI,[]⟩,.val ⟨false,aB,[]⟩],[⟨false,aB,[2]⟩,⟨false,.bool,[0]⟩],false,none,
 ((fun _=>True):(cC)→Prop),
 ((fun x=>sR x.1 x.2):(cC)→(bK × Bool))⟩
def xX:T:=.call 0 (.p1 tI aB (.Z 0)) <|
 .bNU .not (.Z 1) <|
 .ite (.Z 2) (
  .ret (.bNV aB .bool (.nl 3 tI) (.cb false))) (
  .call 1 (aO aF 1 (.Z 0)) <|
  .bNU .not (.Z 3) <|
  .ite (.Z 4) (
   .ret (.bNV aB .bool (.nl 3 tI) (.cb false))) (
   .bNU (.bNX 3 tI) (aO aF 1 (.Z 0)) <|
   .loop (.bNT tI (.bNT .bool aB)) (bB (.bNT tI (.bNT .bool aB)) [(.ci .i64 0),(.cb false),(.nl 3 tI)]) <|
    .bNU (.cmp .lss .i64) (.bNV tI tI (.p1 tI (.bNT .bool aB) (.Z 6)) (.Z 5)) <|
    .ite (.Z 7) (
     .bNU (.bNY 3 tI) (.bNV aB tI (aO aF 1 (.Z 0)) (.p1 tI (.bNT .bool aB) (.Z 6))) <|
     .call 2 (.bNV tI tI (.p1 tI aB (.Z 0)) (.Z 8)) <|
     .bNU (.lit 3 tI 1) (.p1 tI .bool (.Z 9)) <|
     .bNU (.bO0 3 tI 8) (.bNV aB aB (aO (.bNT tI (.bNT .bool aB)) 2 (.Z 6)) (.Z 10)) <|
     .ite (aJ (.bNT tI (.bNT .bool aB)) 1 (.Z 6)) (
      .bNU (.ar .add .i64) (.bNV tI tI (.p1 tI (.bNT .bool aB) (.Z 6)) (.ci .i64 1)) <|
      .bNW 0 (bB (.bNT tI (.bNT .bool aB)) [(.Z 12),(.cb true),(.Z 11)])) (
      .bNU (.ar .add .i64) (.bNV tI tI (.p1 tI (.bNT .bool aB) (.Z 6)) (.ci .i64 1)) <|
      .bNW 0 (bB (.bNT tI (.bNT .bool aB)) [(.Z 12),(aO (.bNT tI .bool) 1 (.Z 9)),(.Z 11)]))) (
     .ret (.bNV aB .bool (aO (.bNT tI (.bNT .bool aB)) 2 (.Z 6)) (aJ (.bNT tI (.bNT .bool aB)) 1 (.Z 6))))))
theorem aQ1:bM Tryz.prog [iW,cX,gY] iF false 3000 ⟨[(2984,4006,iT 20 11++[.tm 22 0,.tm 7 0,.on 6,.sl 1])],[]⟩ = .ok xX:=by kernel_rfl
theorem aQU (x:cC) (hx:okD aF x) (hp:(fun _=>True) x):xX.wp [iW,cX,gY] [⟨aF,x⟩] [] (fun v=>v.as (.bNT aB .bool)=(fun x=>sR x.1 x.2) x):=by
 obtain ⟨c,a⟩:=x
 delta xX iW cX gY;refine dB ?_
 simp only[Bool.not_eq_true',Bool.not_eq_false']
 refine ⟨fun h=>?_,fun h1=>⟨fun h=>?_,fun h2 _=>?_⟩⟩
 ·unfold sR;rw[if_neg (by rw[h];simp)]
 ·unfold sR;rw[if_neg (by rw[h];simp)]
 have hl:=(cL a).1 h2
 rw[show sR c a=_ from if_pos ⟨h1,h2⟩]
 refine cZ (fun k=>((k:Int),an k (fun i=>(fA c (a.getD i 0)).2),mp k fun i=>(fA c (a.getD i 0)).1)) a.length rfl fun I μ k hk _ go=>?_
 dsimp only
 simp only[nS,fR]
 (repeat' first|intro _|(refine go _ ?_ ?_ ?_)|(refine go _ ?_ ?_)|(with_reducible apply And.intro))
 all_goals first|omega|(unfold maxLen;omega)|(rw[gH,lI];first|exact Prod.ext rfl (Prod.ext (iC (by assumption)) rfl)|exact Prod.ext rfl (Prod.ext (lL (by assumption)) rfl))|(have e:k=a.length:=(by omega);subst e;rfl)
theorem aFK:Con.Holds Tryz.prog iF:=aS aW (aH aFW (aH oD (aH aDM aR))) aQ1 aQU
def gS:Con:=⟨151,aM,(.bNT tI .bool),[.val ⟨false,aB,[]⟩,.val ⟨false,aB,[]⟩],[⟨false,tI,[0]⟩,⟨false,.bool,[0]⟩],false,none,
 ((fun _=>True):(bP)→Prop),
 ((fun x=>fL x.1 x.2):(bP)→(Int × Bool))⟩
def aDS:T:=.call 0 (.Z 0) <|
 .bNU .not (.Z 1) <|
 .ite (.Z 2) (
  .ret (.bNV tI .bool (.ci .i64 0) (.cb false))) (
  .bNU (.bNX 3 tI) (.p1 aB aB (.Z 0)) <|
  .loop (.bNT tI (.bNT .bool tI)) (bB (.bNT tI (.bNT .bool tI)) [(.ci .i64 0),(.cb false),(.ci .i64 0)]) <|
   .bNU (.cmp .lss .i64) (.bNV tI tI (.p1 tI (.bNT .bool tI) (.Z 4)) (.Z 3)) <|
   .ite (.Z 5) (
    .bNU (.bNY 3 tI) (.bNV aB tI (.p1 aB aB (.Z 0)) (.p1 tI (.bNT .bool tI) (.Z 4))) <|
    .bNU (.bNY 3 tI) (.bNV aB tI (aO aM 1 (.Z 0)) (.p1 tI (.bNT .bool tI) (.Z 4))) <|
    .call 1 (.bNV tI tI (.Z 6) (.Z 7)) <|
    .call 2 (.bNV tI tI (aO (.bNT tI (.bNT .bool tI)) 2 (.Z 4)) (.p1 tI .bool (.Z 8))) <|
    .ite (aJ (.bNT tI (.bNT .bool tI)) 1 (.Z 4)) (
     .bNU (.ar .add .i64) (.bNV tI tI (.p1 tI (.bNT .bool tI) (.Z 4)) (.ci .i64 1)) <|
     .bNW 0 (bB (.bNT tI (.bNT .bool tI)) [(.Z 10),(.cb true),(.p1 tI .bool (.Z 9))])) (
     .ite (aO (.bNT tI .bool) 1 (.Z 8)) (
      .bNU (.ar .add .i64) (.bNV tI tI (.p1 tI (.bNT .bool tI) (.Z 4)) (.ci .i64 1)) <|
      .bNW 0 (bB (.bNT tI (.bNT .bool tI)) [(.Z 10),(.cb true),(.p1 tI .bool (.Z 9))])) (
      .bNU (.ar .add .i64) (.bNV tI tI (.p1 tI (.bNT .bool tI) (.Z 4)) (.ci .i64 1)) <|
      .bNW 0 (bB (.bNT tI (.bNT .bool tI)) [(.Z 10),(aO (.bNT tI .bool) 1 (.Z 9)),(.p1 tI .bool (.Z 9))])))) (
    .ret (.bNV tI .bool (aO (.bNT tI (.bNT .bool tI)) 2 (.Z 4)) (aJ (.bNT tI (.bNT .bool tI)) 1 (.Z 4)))))
theorem aXU:bM Tryz.prog [eX,gY,fB] gS false 3000 ⟨[(2984,2004,iT 17 13++[.tm 19 0,.tm 7 0,.tm 6 0])],[]⟩ = .ok aDS:=by kernel_rfl
theorem aWW (x:bP) (hx:okD aM x) (hp:(fun _=>True) x):aDS.wp [eX,gY,fB] [⟨aM,x⟩] [] (fun v=>v.as (.bNT tI .bool)=(fun x=>fL x.1 x.2) x):=by
 obtain ⟨a,b⟩:=x
 delta aDS eX gY fB;refine dB ?_
 simp only[Bool.not_eq_true',Bool.not_eq_false']
 refine ⟨fun h=>by unfold fL;rw[if_neg (by rw[h];exact Bool.false_ne_true)],fun h _=>?_⟩
 have hl:=jU h
 rw[show fL a b=_ from if_pos h]
 refine cZ (fun k=>((k:Int),(aGJ a b k).2,(aGJ a b k).1)) a.length rfl fun I μ k hk _ go=>?_
 dsimp only
 (refine dT ?_;try with_reducible exact True.intro)
 (repeat' first|intro _|(refine go _ ?_ ?_ ?_)|(refine go _ ?_ ?_)|(with_reducible apply And.intro))
 all_goals first|omega|(rw[aOJ];first|exact Prod.ext rfl (Prod.ext (bLE (by assumption)) rfl)|exact Prod.ext rfl (Prod.ext (bLM (by assumption) (by assumption)) rfl)|exact Prod.ext rfl (Prod.ext (bLF (by assumption) (by assumption)) rfl))|(have e:k=a.length:=(by omega);subst e;rfl)
theorem aE4:Con.Holds Tryz.prog gS:=aS aW (aH wQ (aH aDM (aH yB aR))) aXU aWW
def pK:Con:=⟨176,aB,aB,[.val ⟨false,aB,[]⟩],[⟨false,aB,[2]⟩],false,none,
 ((fun _=>True):(List Int)→Prop),
 ((fun x=>nI x):(List Int)→(List Int))⟩
def aBB:T:=.call 0 (.Z 0) <|
 .bNU .not (.Z 1) <|
 .ite (.Z 2) (
  .ret (.nl 3 tI)) (
  .bNU (.bNX 3 tI) (.Z 0) <|
  .loop aF (.bNV tI aB (.ci .i64 0) (.nl 3 tI)) <|
   .bNU (.cmp .lss .i64) (.bNV tI tI (.p1 tI aB (.Z 4)) (.Z 3)) <|
   .ite (.Z 5) (
    .bNU (.bNY 3 tI) (.bNV aB tI (.Z 0) (.p1 tI aB (.Z 4))) <|
    .call 1 (.Z 6) <|
    .bNU (.lit 3 tI 1) (.Z 7) <|
    .bNU (.bO0 3 tI 8) (.bNV aB aB (aO aF 1 (.Z 4)) (.Z 8)) <|
    .bNU (.ar .add .i64) (.bNV tI tI (.p1 tI aB (.Z 4)) (.ci .i64 1)) <|
    .bNW 0 (.bNV tI aB (.Z 10) (.Z 9))) (
    .ret (aO aF 1 (.Z 4))))
theorem aUO:bM Tryz.prog [cX,aA3] pK false 3000 ⟨[(2986,2004,iT 9 6++[.dr 0,.tm 12 0,.on 3,.sl 1])],[]⟩ = .ok aBB:=by kernel_rfl
theorem aW1 (x:List Int) (hx:okD aB x) (hp:(fun _=>True) x):aBB.wp [cX,aA3] [⟨aB,x⟩] [] (fun v=>v.as aB=(fun x=>nI x) x):=by
 obtain ⟨a,rfl⟩:∃ a,a=x:=⟨_,rfl⟩
 delta aBB cX aA3;refine dB ?_
 simp only[Bool.not_eq_true',Bool.not_eq_false']
 refine ⟨fun h=>by unfold nI;rw[if_neg (by rw[h];exact Bool.false_ne_true)],fun h _=>?_⟩
 have hl:=(cL a).1 h
 rw[show nI a=_ from if_pos h]
 refine cZ (fun k=>((k:Int),mp k fun i=>aLS (a.getD i 0))) a.length rfl fun I μ k hk _ go=>?_
 dsimp only
 simp only[nS,fR]
 (repeat' first|intro _|(refine go _ ?_ ?_ ?_)|(refine go _ ?_ ?_)|(with_reducible apply And.intro))
 all_goals first|omega|(unfold maxLen;omega)|(rw[gH];rfl)|(have e:k=a.length:=(by omega);subst e;rfl)
theorem aUG:Con.Holds Tryz.prog pK:=aS aW (aH oD (aH bHH aR)) aUO aW1
def pI:Con:=⟨180,aM,aB,[.val ⟨false,aB,[]⟩,.val ⟨false,aB,[]⟩],[⟨false,aB,[2]⟩],false,none,
 ((fun _=>True):(bP)→Prop),
 ((fun x=>nO x.1 x.2):(bP)→(List Int))⟩
def zZ:T:=.call 0 (.Z 0) <|
 .bNU .not (.Z 1) <|
 .ite (.Z 2) (
  .ret (.nl 3 tI)) (
  .bNU (.bNX 3 tI) (.p1 aB aB (.Z 0)) <|
  .loop aF (.bNV tI aB (.ci .i64 0) (.nl 3 tI)) <|
   .bNU (.cmp .lss .i64) (.bNV tI tI (.p1 tI aB (.Z 4)) (.Z 3)) <|
   .ite (.Z 5) (
    .bNU (.bNY 3 tI) (.bNV aB tI (.p1 aB aB (.Z 0)) (.p1 tI aB (.Z 4))) <|
    .bNU (.cmp .gtr .i64) (.bNV tI tI (.Z 6) (.ci .i64 0)) <|
    .ite (.Z 7) (
     .bNU (.bNY 3 tI) (.bNV aB tI (aO aM 1 (.Z 0)) (.p1 tI aB (.Z 4))) <|
     .bNU (.lit 3 tI 1) (.Z 8) <|
     .bNU (.bO0 3 tI 8) (.bNV aB aB (aO aF 1 (.Z 4)) (.Z 9)) <|
     .bNU (.ar .add .i64) (.bNV tI tI (.p1 tI aB (.Z 4)) (.ci .i64 1)) <|
     .bNW 0 (.bNV tI aB (.Z 11) (.Z 10))) (
     .bNU (.lit 3 tI 1) (.ci .i64 0) <|
     .bNU (.bO0 3 tI 8) (.bNV aB aB (aO aF 1 (.Z 4)) (.Z 8)) <|
     .bNU (.ar .add .i64) (.bNV tI tI (.p1 tI aB (.Z 4)) (.ci .i64 1)) <|
     .bNW 0 (.bNV tI aB (.Z 10) (.Z 9)))) (
    .ret (aO aF 1 (.Z 4))))
theorem aVZ:bM Tryz.prog [eX] pI false 3000 ⟨[(2986,2004,iT 12 7++[.tm 14 0,.on 5,.sl 1])],[]⟩ = .ok zZ:=by kernel_rfl
theorem aV7 (x:bP) (hx:okD aM x) (hp:(fun _=>True) x):zZ.wp [eX] [⟨aM,x⟩] [] (fun v=>v.as aB=(fun x=>nO x.1 x.2) x):=by
 obtain ⟨a,b⟩:=x
 delta zZ eX;refine dB ?_
 simp only[Bool.not_eq_true',Bool.not_eq_false']
 refine ⟨fun h=>by unfold nO;rw[if_neg (by rw[h];exact Bool.false_ne_true)],fun h _=>?_⟩
 have hl:=jU h
 rw[show nO a b=_ from if_pos h]
 refine cZ (fun k=>((k:Int),mp k fun i=>if 0<a.getD i 0 then b.getD i 0 else 0)) a.length rfl fun I μ k hk _ go=>?_
 dsimp only
 simp only[nS,fR]
 have e1:0<a.getD k 0→b.getD k 0=if 0<a.getD k 0 then b.getD k 0 else 0:=fun h=>(if_pos h).symm
 have e2:a.getD k 0≤0→0=if 0<a.getD k 0 then b.getD k 0 else 0:=fun h=>(if_neg (by omega)).symm
 (repeat' first|intro _|(refine go _ ?_ ?_ ?_)|(refine go _ ?_ ?_)|(with_reducible apply And.intro))
 all_goals first|omega|(unfold maxLen;omega)|(rw[gH];first|exact Prod.ext rfl (congrArg (mp k _++[·]) (e1 (by assumption)))|exact Prod.ext rfl (congrArg (mp k _++[·]) (e2 (by assumption))))|(have e:k=a.length:=(by omega);subst e;rfl)
theorem aT2:Con.Holds Tryz.prog pI:=aS aW (aH wQ aR) aVZ aV7
def sB:Con:=⟨163,aE,(.bNT tI .bool),[.val ⟨false,tI,[]⟩,.val ⟨false,tI,[]⟩],[⟨false,tI,[0]⟩,⟨false,.bool,[0]⟩],false,none,
 ((fun _=>True):(Int × Int)→Prop),
 ((fun x=>eP x.1 x.2):(Int × Int)→(Int × Bool))⟩
def aDB:T:=.call 0 (.p1 tI tI (.Z 0)) <|.call 0 (aO aE 1 (.Z 0)) <|
 .bNU (.ar .sub .i64) (.bNV tI tI (.Z 1) (.Z 2)) <|
 .call 1 (.Z 3) <|
 .ret (.Z 4)
theorem aZJ:bM Tryz.prog [iE,fZ] sB false 3000 ⟨[],[]⟩ = .ok aDB:=by kernel_rfl
theorem aX0 (x:Int × Int) (hx:okD aE x) (hp:(fun _=>True) x):aDB.wp [iE,fZ] [⟨aE,x⟩] [] (fun v=>v.as (.bNT tI .bool)=(fun x=>eP x.1 x.2) x):=by
 delta aDB iE fZ;refine dB ?_
 intro _ _
 have h1:=jQ x.1
 have h2:=jQ x.2
 exact ⟨by omega,fun _ _=>rfl⟩
theorem aZ8:Con.Holds Tryz.prog sB:=aS aW (aH aEM (aH aBY aR)) aZJ aX0
def pQ:Con:=⟨196,aE,tI,[.val ⟨false,tI,[]⟩,.val ⟨false,tI,[]⟩],[⟨false,tI,[0]⟩],false,none,
 ((fun x=>x.2=65536):(Int × Int)→Prop),
 ((fun x=>x.1.fdiv 65536):(Int × Int)→(Int))⟩
def aAB:T :=
 .bNU (.quo .i64) (.bNV tI tI (.p1 tI tI (.Z 0)) (aO aE 1 (.Z 0))) <|
 .bNU (.rem .i64) (.bNV tI tI (.p1 tI tI (.Z 0)) (aO aE 1 (.Z 0))) <|
 .bNU (.cmp .neq .i64) (.bNV tI tI (.Z 2) (.ci .i64 0)) <|
 .ite (.Z 3) (
  .bNU (.cmp .lss .i64) (.bNV tI tI (.p1 tI tI (.Z 0)) (.ci .i64 0)) <|
  .bNU (.cmp .lss .i64) (.bNV tI tI (aO aE 1 (.Z 0)) (.ci .i64 0)) <|
  .bNU (.eqv true .bool) (.bNV .bool .bool (.Z 4) (.Z 5)) <|
  .ite (.Z 6) (
   .bNU (.ar .sub .i64) (.bNV tI tI (.Z 1) (.ci .i64 1)) <|
   .ret (.Z 7)) (
   .ret (.Z 1))) (
  .ret (.Z 1))
theorem aSH:bM Tryz.prog [] pQ false 3000 ⟨[],[]⟩ = .ok aAB:=by kernel_rfl
theorem aTS (x:Int × Int) (hx:okD aE x) (hp:(fun x=>x.2=65536) x):aAB.wp [] [⟨aE,x⟩] [] (fun v=>v.as tI=(fun x=>x.1.fdiv 65536) x):=by
 obtain ⟨a,b⟩:=x
 obtain rfl:b=65536:=hp
 have e:=bFW a
 have ha:-9223372036854775808≤a∧a≤9223372036854775807:=hx.1
 have hd:=bN6 ha
 delta aAB;refine dB ?_
 simp only[aYP,aZZ,qF,qI,show decide ((65536:Int)<0)=false from rfl,decide_eq_false_iff_not,Classical.not_not]
 rw[e]
 (repeat' first|intro _|(with_reducible apply And.intro))
 all_goals first|omega|(rw[if_pos ⟨by assumption,by assumption⟩])|(rw[if_neg (fun h=>by have:=h.2;omega)])|(rw[if_neg (fun h=>h.1 (by assumption))])
theorem aS4:Con.Holds Tryz.prog pQ:=aS aW aR aSH aTS
def gR:Con:=⟨186,aE,(.bNT tI .bool),[.val ⟨false,tI,[]⟩,.val ⟨false,tI,[]⟩],[⟨false,tI,[0]⟩,⟨false,.bool,[0]⟩],false,none,
 ((fun _=>True):(Int × Int)→Prop),
 ((fun x=>fA x.1 x.2):(Int × Int)→(Int × Bool))⟩
def aDQ:T:=.call 0 (.p1 tI tI (.Z 0)) <|.call 0 (aO aE 1 (.Z 0)) <|
 .bNU (.ar .mul .i64) (.bNV tI tI (.Z 1) (.Z 2)) <|
 .call 1 (.bNV tI tI (.Z 3) (.ci .i64 65536)) <|
 .call 2 (.Z 4) <|
 .ret (.Z 5)
theorem bA9:bM Tryz.prog [iE,pQ,fZ] gR false 3000 ⟨[],[]⟩ = .ok aDQ:=by kernel_rfl
theorem aZY (x:Int × Int) (hx:okD aE x) (hp:(fun _=>True) x):aDQ.wp [iE,pQ,fZ] [⟨aE,x⟩] [] (fun v=>v.as (.bNT tI .bool)=(fun x=>fA x.1 x.2) x):=by
 delta aDQ iE pQ fZ;refine dB ?_
 have h:=bNA (jQ x.1) (jQ x.2)
 exact fun _ _=>⟨by omega,fun _ _ _=>rfl⟩
theorem aCW:Con.Holds Tryz.prog gR:=aS aW (aH aEM (aH aS4 (aH aBY aR))) bA9 aZY
def zC:Con:=⟨195,tI,tI,[.val ⟨false,tI,[]⟩],[⟨false,tI,[0]⟩],false,none,
 ((fun _=>True):(Int)→Prop),
 ((fun x=>aLS x):(Int)→(Int))⟩
def aJN:T:=.call 0 (.Z 0) <|
 .bNU (.mx .i64) (.bNV tI tI (.ci .i64 0) (.Z 1)) <|
 .ret (.Z 2)
theorem bIE:bM Tryz.prog [iE] zC false 3000 ⟨[],[]⟩ = .ok aJN:=by kernel_rfl
theorem bIJ (x:Int) (hx:okD tI x) (hp:(fun _=>True) x):aJN.wp [iE] [⟨tI,x⟩] [] (fun v=>v.as tI=(fun x=>aLS x) x):=by
 delta aJN iE;refine dB ?_
 exact fun _ _=>rfl
theorem bHQ:Con.Holds Tryz.prog zC:=aS aW (aH aEM aR) bIE bIJ
def kJ:Con:=⟨183,aM,(.bNT aB .bool),[.val ⟨false,aB,[]⟩,.val ⟨false,aB,[]⟩],[⟨false,aB,[2]⟩,⟨false,.bool,[0]⟩],false,none,
 ((fun _=>True):(bP)→Prop),
 ((fun x=>kD dK x.1 x.2):(bP)→(bK × Bool))⟩
def aCT:T:=.loop (.bNT tI (.bNT .bool aB)) (bB (.bNT tI (.bNT .bool aB)) [(.ci .i64 0),(.cb false),(.nl 3 tI)]) <|
 .bNU (.bNX 3 tI) (.p1 aB aB (.Z 0)) <|
 .bNU (.cmp .lss .i64) (.bNV tI tI (.p1 tI (.bNT .bool aB) (.Z 1)) (.Z 2)) <|
 .ite (.Z 3) (
  .call 0 (.Z 0) <|
  .ite (.Z 4) (
   .bNU (.bNY 3 tI) (.bNV aB tI (.p1 aB aB (.Z 0)) (.p1 tI (.bNT .bool aB) (.Z 1))) <|
   .bNU (.bNY 3 tI) (.bNV aB tI (aO aM 1 (.Z 0)) (.p1 tI (.bNT .bool aB) (.Z 1))) <|
   .call 1 (.bNV tI tI (.Z 5) (.Z 6)) <|
   .bNU (.lit 3 tI 1) (.p1 tI .bool (.Z 7)) <|
   .bNU (.bO0 3 tI 8) (.bNV aB aB (aO (.bNT tI (.bNT .bool aB)) 2 (.Z 1)) (.Z 8)) <|
   .ite (aJ (.bNT tI (.bNT .bool aB)) 1 (.Z 1)) (
    .bNU (.ar .add .i64) (.bNV tI tI (.p1 tI (.bNT .bool aB) (.Z 1)) (.ci .i64 1)) <|
    .bNW 0 (bB (.bNT tI (.bNT .bool aB)) [(.Z 10),(.cb true),(.Z 9)])) (
    .bNU (.ar .add .i64) (.bNV tI tI (.p1 tI (.bNT .bool aB) (.Z 1)) (.ci .i64 1)) <|
    .bNW 0 (bB (.bNT tI (.bNT .bool aB)) [(.Z 10),(aO (.bNT tI .bool) 1 (.Z 7)),(.Z 9)]))) (
   .ret (.bNV aB .bool (aO (.bNT tI (.bNT .bool aB)) 2 (.Z 1)) (aJ (.bNT tI (.bNT .bool aB)) 1 (.Z 1))))) (
  .ret (.bNV aB .bool (aO (.bNT tI (.bNT .bool aB)) 2 (.Z 1)) (aJ (.bNT tI (.bNT .bool aB)) 1 (.Z 1))))
theorem aZ7:bM Tryz.prog [eZ,dN] kJ false 3000 ⟨[(2989,1001,[.dr 11,.tm 8 0,.tm 7 0,.on 6,.sl 1])],[]⟩ = .ok aCT:=by kernel_rfl
theorem aY3 (x:bP) (hx:okD aM x) (hp:(fun _=>True) x):aCT.wp [eZ,dN] [⟨aM,x⟩] [] (fun v=>v.as (.bNT aB .bool)=(fun x=>kD dK x.1 x.2) x):=by
 obtain ⟨a,b⟩:=x
 delta aCT eZ dN;refine dB ?_
 simp only[bAV]
 cases h:nV a b
 ·refine cZ (fun _=>((0:Int),false,([]:List Int))) 0 rfl fun I μ k hk _ go=>?_
  dsimp only
  simp only[reduceCtorEq,false_implies,true_implies,forall_const,and_true,true_and,implies_true,nS]
  (repeat' first|intro _|(refine go _ ?_ ?_ ?_)|(refine go _ ?_ ?_)|(with_reducible apply And.intro))
  all_goals first|omega|exact aIO h
 ·have hl:=jU h
  rw[aEN h]
  refine cZ (fun k=>((k:Int),an k (fun i=>(dK (a.getD i 0) (b.getD i 0)).2),mp k fun i=>(dK (a.getD i 0) (b.getD i 0)).1)) a.length rfl fun I μ k hk _ go=>?_
  dsimp only
  simp only[reduceCtorEq,false_implies,true_implies,forall_const,and_true,true_and,implies_true,nS,fR]
  (repeat' first|intro _|(refine go _ ?_ ?_ ?_)|(refine go _ ?_ ?_)|(with_reducible apply And.intro))
  all_goals first|omega|(unfold maxLen;omega)|(rw[gH,lI];first|exact Prod.ext rfl (Prod.ext (iC (by assumption)) rfl)|exact Prod.ext rfl (Prod.ext (lL (by assumption)) rfl))|(have e:k=a.length:=(by omega);subst e;rfl)
theorem aK1:Con.Holds Tryz.prog kJ:=aS aW (aH xF (aH rM aR)) aZ7 aY3
def kL:Con:=⟨134,aM,(.bNT aB .bool),[.val ⟨false,aB,[]⟩,.val ⟨false,aB,[]⟩],[⟨false,aB,[2]⟩,⟨false,.bool,[0]⟩],false,none,
 ((fun _=>True):(bP)→Prop),
 ((fun x=>kD eP x.1 x.2):(bP)→(bK × Bool))⟩
def aE2:T:=.loop (.bNT tI (.bNT .bool aB)) (bB (.bNT tI (.bNT .bool aB)) [(.ci .i64 0),(.cb false),(.nl 3 tI)]) <|
 .bNU (.bNX 3 tI) (.p1 aB aB (.Z 0)) <|
 .bNU (.cmp .lss .i64) (.bNV tI tI (.p1 tI (.bNT .bool aB) (.Z 1)) (.Z 2)) <|
 .ite (.Z 3) (
  .call 0 (.Z 0) <|
  .ite (.Z 4) (
   .bNU (.bNY 3 tI) (.bNV aB tI (.p1 aB aB (.Z 0)) (.p1 tI (.bNT .bool aB) (.Z 1))) <|
   .bNU (.bNY 3 tI) (.bNV aB tI (aO aM 1 (.Z 0)) (.p1 tI (.bNT .bool aB) (.Z 1))) <|
   .call 1 (.bNV tI tI (.Z 5) (.Z 6)) <|
   .bNU (.lit 3 tI 1) (.p1 tI .bool (.Z 7)) <|
   .bNU (.bO0 3 tI 8) (.bNV aB aB (aO (.bNT tI (.bNT .bool aB)) 2 (.Z 1)) (.Z 8)) <|
   .ite (aJ (.bNT tI (.bNT .bool aB)) 1 (.Z 1)) (
    .bNU (.ar .add .i64) (.bNV tI tI (.p1 tI (.bNT .bool aB) (.Z 1)) (.ci .i64 1)) <|
    .bNW 0 (bB (.bNT tI (.bNT .bool aB)) [(.Z 10),(.cb true),(.Z 9)])) (
    .bNU (.ar .add .i64) (.bNV tI tI (.p1 tI (.bNT .bool aB) (.Z 1)) (.ci .i64 1)) <|
    .bNW 0 (bB (.bNT tI (.bNT .bool aB)) [(.Z 10),(aO (.bNT tI .bool) 1 (.Z 7)),(.Z 9)]))) (
   .ret (.bNV aB .bool (aO (.bNT tI (.bNT .bool aB)) 2 (.Z 1)) (aJ (.bNT tI (.bNT .bool aB)) 1 (.Z 1))))) (
  .ret (.bNV aB .bool (aO (.bNT tI (.bNT .bool aB)) 2 (.Z 1)) (aJ (.bNT tI (.bNT .bool aB)) 1 (.Z 1))))
theorem aYT:bM Tryz.prog [eZ,sB] kL false 3000 ⟨[(2989,1001,[.dr 11,.tm 8 0,.tm 7 0,.on 6,.sl 1])],[]⟩ = .ok aE2:=by kernel_rfl
theorem aZB (x:bP) (hx:okD aM x) (hp:(fun _=>True) x):aE2.wp [eZ,sB] [⟨aM,x⟩] [] (fun v=>v.as (.bNT aB .bool)=(fun x=>kD eP x.1 x.2) x):=by
 obtain ⟨a,b⟩:=x
 delta aE2 eZ sB;refine dB ?_
 simp only[bAV]
 cases h:nV a b
 ·refine cZ (fun _=>((0:Int),false,([]:List Int))) 0 rfl fun I μ k hk _ go=>?_
  dsimp only
  simp only[reduceCtorEq,false_implies,true_implies,forall_const,and_true,true_and,implies_true,nS]
  (repeat' first|intro _|(refine go _ ?_ ?_ ?_)|(refine go _ ?_ ?_)|(with_reducible apply And.intro))
  all_goals first|omega|exact aIO h
 ·have hl:=jU h
  rw[aEN h]
  refine cZ (fun k=>((k:Int),an k (fun i=>(eP (a.getD i 0) (b.getD i 0)).2),mp k fun i=>(eP (a.getD i 0) (b.getD i 0)).1)) a.length rfl fun I μ k hk _ go=>?_
  dsimp only
  simp only[reduceCtorEq,false_implies,true_implies,forall_const,and_true,true_and,implies_true,nS,fR]
  (repeat' first|intro _|(refine go _ ?_ ?_ ?_)|(refine go _ ?_ ?_)|(with_reducible apply And.intro))
  all_goals first|omega|(unfold maxLen;omega)|(rw[gH,lI];first|exact Prod.ext rfl (Prod.ext (iC (by assumption)) rfl)|exact Prod.ext rfl (Prod.ext (lL (by assumption)) rfl))|(have e:k=a.length:=(by omega);subst e;rfl)
theorem aLN:Con.Holds Tryz.prog kL:=aS aW (aH xF (aH aZ8 aR)) aYT aZB
def iH:Con:=⟨185,aF,(.bNT aB .bool),[.val ⟨false,tI,[]⟩,.val ⟨false,aB,[]⟩],[⟨false,aB,[2]⟩,⟨false,.bool,[0]⟩],false,none,
 ((fun _=>True):(cC)→Prop),
 ((fun x=>sR x.1 x.2):(cC)→(bK × Bool))⟩
def xZ:T:=.loop (.bNT tI (.bNT .bool aB)) (bB (.bNT tI (.bNT .bool aB)) [(.ci .i64 0),(.cb false),(.nl 3 tI)]) <|
 .bNU (.bNX 3 tI) (aO aF 1 (.Z 0)) <|
 .bNU (.cmp .lss .i64) (.bNV tI tI (.p1 tI (.bNT .bool aB) (.Z 1)) (.Z 2)) <|
 .ite (.Z 3) (
  .call 0 (aO aF 1 (.Z 0)) <|
  .ite (.Z 4) (
   .call 1 (.p1 tI aB (.Z 0)) <|
   .ite (.Z 5) (
    .bNU (.bNY 3 tI) (.bNV aB tI (aO aF 1 (.Z 0)) (.p1 tI (.bNT .bool aB) (.Z 1))) <|
    .call 2 (.bNV tI tI (.p1 tI aB (.Z 0)) (.Z 6)) <|
    .bNU (.lit 3 tI 1) (.p1 tI .bool (.Z 7)) <|
    .bNU (.bO0 3 tI 8) (.bNV aB aB (aO (.bNT tI (.bNT .bool aB)) 2 (.Z 1)) (.Z 8)) <|
    .ite (aJ (.bNT tI (.bNT .bool aB)) 1 (.Z 1)) (
     .bNU (.ar .add .i64) (.bNV tI tI (.p1 tI (.bNT .bool aB) (.Z 1)) (.ci .i64 1)) <|
     .bNW 0 (bB (.bNT tI (.bNT .bool aB)) [(.Z 10),(.cb true),(.Z 9)])) (
     .bNU (.ar .add .i64) (.bNV tI tI (.p1 tI (.bNT .bool aB) (.Z 1)) (.ci .i64 1)) <|
     .bNW 0 (bB (.bNT tI (.bNT .bool aB)) [(.Z 10),(aO (.bNT tI .bool) 1 (.Z 7)),(.Z 9)]))) (
    .ret (.bNV aB .bool (aO (.bNT tI (.bNT .bool aB)) 2 (.Z 1)) (aJ (.bNT tI (.bNT .bool aB)) 1 (.Z 1))))) (
   .ret (.bNV aB .bool (aO (.bNT tI (.bNT .bool aB)) 2 (.Z 1)) (aJ (.bNT tI (.bNT .bool aB)) 1 (.Z 1))))) (
  .ret (.bNV aB .bool (aO (.bNT tI (.bNT .bool aB)) 2 (.Z 1)) (aJ (.bNT tI (.bNT .bool aB)) 1 (.Z 1))))
theorem aRM:bM Tryz.prog [bJ,fY,gR] iH false 3000 ⟨[(2989,1001,[.dr 11,.tm 8 0,.tm 7 0,.on 6,.sl 1])],[]⟩ = .ok xZ:=by kernel_rfl
theorem aQI (x:cC) (hx:okD aF x) (hp:(fun _=>True) x):xZ.wp [bJ,fY,gR] [⟨aF,x⟩] [] (fun v=>v.as (.bNT aB .bool)=(fun x=>sR x.1 x.2) x):=by
 obtain ⟨c,a⟩:=x
 delta xZ bJ fY gR;refine dB ?_
 cases h:iA a
 ·refine cZ (fun _=>((0:Int),false,([]:List Int))) 0 rfl fun I μ k hk _ go=>?_
  dsimp only
  simp only[reduceCtorEq,false_implies,true_implies,forall_const,and_true,true_and,implies_true,nS]
  (repeat' first|intro _|(refine go _ ?_ ?_ ?_)|(refine go _ ?_ ?_)|(with_reducible apply And.intro))
  all_goals first|omega|(unfold sR;rw[if_neg (by rw[h];simp)])
 cases h2:iP c
 ·refine cZ (fun _=>((0:Int),false,([]:List Int))) 0 rfl fun I μ k hk _ go=>?_
  dsimp only
  simp only[reduceCtorEq,false_implies,true_implies,forall_const,and_true,true_and,implies_true,nS]
  (repeat' first|intro _|(refine go _ ?_ ?_ ?_)|(refine go _ ?_ ?_)|(with_reducible apply And.intro))
  all_goals first|omega|(unfold sR;rw[if_neg (by rw[h2];simp)])
 ·have hl:=(cL a).1 h
  rw[show sR c a=_ from if_pos ⟨h2,h⟩]
  refine cZ (fun k=>((k:Int),an k (fun i=>(fA c (a.getD i 0)).2),mp k fun i=>(fA c (a.getD i 0)).1)) a.length rfl fun I μ k hk _ go=>?_
  dsimp only
  simp only[reduceCtorEq,false_implies,true_implies,forall_const,and_true,true_and,implies_true,nS,fR]
  (repeat' first|intro _|(refine go _ ?_ ?_ ?_)|(refine go _ ?_ ?_)|(with_reducible apply And.intro))
  all_goals first|omega|(unfold maxLen;omega)|(rw[gH,lI];first|exact Prod.ext rfl (Prod.ext (iC (by assumption)) rfl)|exact Prod.ext rfl (Prod.ext (lL (by assumption)) rfl))|(have e:k=a.length:=(by omega);subst e;rfl)
theorem aFB:Con.Holds Tryz.prog iH:=aS aW (aH fD (aH aBM (aH aCW aR))) aRM aQI
def eV:Con:=⟨159,aM,(.bNT tI .bool),[.val ⟨false,aB,[]⟩,.val ⟨false,aB,[]⟩],[⟨false,tI,[0]⟩,⟨false,.bool,[0]⟩],false,none,
 ((fun _=>True):(bP)→Prop),
 ((fun x=>fL x.1 x.2):(bP)→(Int × Bool))⟩
def aCV:T:=.loop (.bNT tI (.bNT .bool tI)) (bB (.bNT tI (.bNT .bool tI)) [(.ci .i64 0),(.cb false),(.ci .i64 0)]) <|
 .bNU (.bNX 3 tI) (.p1 aB aB (.Z 0)) <|
 .bNU (.cmp .lss .i64) (.bNV tI tI (.p1 tI (.bNT .bool tI) (.Z 1)) (.Z 2)) <|
 .ite (.Z 3) (
  .call 0 (.Z 0) <|
  .ite (.Z 4) (
   .bNU (.bNY 3 tI) (.bNV aB tI (.p1 aB aB (.Z 0)) (.p1 tI (.bNT .bool tI) (.Z 1))) <|
   .bNU (.bNY 3 tI) (.bNV aB tI (aO aM 1 (.Z 0)) (.p1 tI (.bNT .bool tI) (.Z 1))) <|
   .call 1 (.bNV tI tI (.Z 5) (.Z 6)) <|
   .call 2 (.bNV tI tI (aO (.bNT tI (.bNT .bool tI)) 2 (.Z 1)) (.p1 tI .bool (.Z 7))) <|
   .ite (aJ (.bNT tI (.bNT .bool tI)) 1 (.Z 1)) (
    .bNU (.ar .add .i64) (.bNV tI tI (.p1 tI (.bNT .bool tI) (.Z 1)) (.ci .i64 1)) <|
    .bNW 0 (bB (.bNT tI (.bNT .bool tI)) [(.Z 9),(.cb true),(.p1 tI .bool (.Z 8))])) (
    .ite (aO (.bNT tI .bool) 1 (.Z 7)) (
     .bNU (.ar .add .i64) (.bNV tI tI (.p1 tI (.bNT .bool tI) (.Z 1)) (.ci .i64 1)) <|
     .bNW 0 (bB (.bNT tI (.bNT .bool tI)) [(.Z 9),(.cb true),(.p1 tI .bool (.Z 8))])) (
     .bNU (.ar .add .i64) (.bNV tI tI (.p1 tI (.bNT .bool tI) (.Z 1)) (.ci .i64 1)) <|
     .bNW 0 (bB (.bNT tI (.bNT .bool tI)) [(.Z 9),(aO (.bNT tI .bool) 1 (.Z 8)),(.p1 tI .bool (.Z 8))])))) (
   .ret (.bNV tI .bool (aO (.bNT tI (.bNT .bool tI)) 2 (.Z 1)) (aJ (.bNT tI (.bNT .bool tI)) 1 (.Z 1))))) (
  .ret (.bNV tI .bool (aO (.bNT tI (.bNT .bool tI)) 2 (.Z 1)) (aJ (.bNT tI (.bNT .bool tI)) 1 (.Z 1))))
theorem aZD:bM Tryz.prog [eZ,gR,dN] eV false 3000 ⟨[(2989,1001,[.tm 8 0,.tm 7 0,.tm 6 0])],[]⟩ = .ok aCV:=by kernel_rfl
theorem aZ0 (x:bP) (hx:okD aM x) (hp:(fun _=>True) x):aCV.wp [eZ,gR,dN] [⟨aM,x⟩] [] (fun v=>v.as (.bNT tI .bool)=(fun x=>fL x.1 x.2) x):=by
 obtain ⟨a,b⟩:=x
 delta aCV eZ gR dN;refine dB ?_
 simp only[bAV]
 cases h:nV a b
 ·refine cZ (fun _=>((0:Int),false,(0:Int))) 0 rfl fun I μ k hk _ go=>?_
  dsimp only
  simp only[reduceCtorEq,false_implies,true_implies,forall_const,and_true,true_and,implies_true,nS]
  (repeat' first|intro _|(refine go _ ?_ ?_ ?_)|(refine go _ ?_ ?_)|(with_reducible apply And.intro))
  all_goals first|omega|(unfold fL;rw[if_neg (by rw[h];exact Bool.false_ne_true)])
 ·have hl:=jU h
  rw[show fL a b=_ from if_pos h]
  refine cZ (fun k=>((k:Int),(aGJ a b k).2,(aGJ a b k).1)) a.length rfl fun I μ k hk _ go=>?_
  dsimp only
  simp only[reduceCtorEq,false_implies,true_implies,forall_const,and_true,true_and,implies_true,nS]
  (repeat' first|intro _|(refine go _ ?_ ?_ ?_)|(refine go _ ?_ ?_)|(with_reducible apply And.intro))
  all_goals first|omega|(rw[aOJ];first|exact Prod.ext rfl (Prod.ext (bLE (by assumption)) rfl)|exact Prod.ext rfl (Prod.ext (bLM (by assumption) (by assumption)) rfl)|exact Prod.ext rfl (Prod.ext (bLF (by assumption) (by assumption)) rfl))|(have e:k=a.length:=(by omega);subst e;rfl)
theorem xG:Con.Holds Tryz.prog eV:=aS aW (aH xF (aH aCW (aH rM aR))) aZD aZ0
def oS:Con:=⟨184,aB,aB,[.val ⟨false,aB,[]⟩],[⟨false,aB,[2]⟩],false,none,
 ((fun _=>True):(List Int)→Prop),
 ((fun x=>nI x):(List Int)→(List Int))⟩
def aA6:T:=.loop aF (.bNV tI aB (.ci .i64 0) (.nl 3 tI)) <|
 .bNU (.bNX 3 tI) (.Z 0) <|
 .bNU (.cmp .lss .i64) (.bNV tI tI (.p1 tI aB (.Z 1)) (.Z 2)) <|
 .ite (.Z 3) (
  .call 0 (.Z 0) <|
  .ite (.Z 4) (
   .bNU (.bNY 3 tI) (.bNV aB tI (.Z 0) (.p1 tI aB (.Z 1))) <|
   .call 1 (.Z 5) <|
   .bNU (.lit 3 tI 1) (.Z 6) <|
   .bNU (.bO0 3 tI 8) (.bNV aB aB (aO aF 1 (.Z 1)) (.Z 7)) <|
   .bNU (.ar .add .i64) (.bNV tI tI (.p1 tI aB (.Z 1)) (.ci .i64 1)) <|
   .bNW 0 (.bNV tI aB (.Z 9) (.Z 8))) (
   .ret (aO aF 1 (.Z 1)))) (
  .ret (aO aF 1 (.Z 1)))
theorem aTO:bM Tryz.prog [bJ,zC] oS false 3000 ⟨[(2991,1001,[.dr 5,.tm 4 0,.on 3,.sl 1])],[]⟩ = .ok aA6:=by kernel_rfl
theorem aUC (x:List Int) (hx:okD aB x) (hp:(fun _=>True) x):aA6.wp [bJ,zC] [⟨aB,x⟩] [] (fun v=>v.as aB=(fun x=>nI x) x):=by
 obtain ⟨a,rfl⟩:∃ a,a=x:=⟨_,rfl⟩
 delta aA6 bJ zC;refine dB ?_
 cases h:iA a
 ·refine cZ (fun _=>((0:Int),([]:List Int))) 0 rfl fun I μ k hk _ go=>?_
  dsimp only
  simp only[reduceCtorEq,false_implies,true_implies,forall_const,and_true,true_and,implies_true,nS]
  (repeat' first|intro _|(refine go _ ?_ ?_ ?_)|(refine go _ ?_ ?_)|(with_reducible apply And.intro))
  all_goals first|omega|(unfold nI;rw[if_neg (by rw[h];exact Bool.false_ne_true)])
 ·have hl:=(cL a).1 h
  rw[show nI a=_ from if_pos h]
  refine cZ (fun k=>((k:Int),mp k fun i=>aLS (a.getD i 0))) a.length rfl fun I μ k hk _ go=>?_
  dsimp only
  simp only[reduceCtorEq,false_implies,true_implies,forall_const,and_true,true_and,implies_true,nS,fR]
  (repeat' first|intro _|(refine go _ ?_ ?_ ?_)|(refine go _ ?_ ?_)|(with_reducible apply And.intro))
  all_goals first|omega|(unfold maxLen;omega)|(rw[gH];rfl)|(have e:k=a.length:=(by omega);subst e;rfl)
theorem aT5:Con.Holds Tryz.prog oS:=aS aW (aH fD (aH bHQ aR)) aTO aUC
def pN:Con:=⟨187,aM,aB,[.val ⟨false,aB,[]⟩,.val ⟨false,aB,[]⟩],[⟨false,aB,[2]⟩],false,none,
 ((fun _=>True):(bP)→Prop),
 ((fun x=>nO x.1 x.2):(bP)→(List Int))⟩
def zE:T:=.loop aF (.bNV tI aB (.ci .i64 0) (.nl 3 tI)) <|
 .bNU (.bNX 3 tI) (.p1 aB aB (.Z 0)) <|
 .bNU (.cmp .lss .i64) (.bNV tI tI (.p1 tI aB (.Z 1)) (.Z 2)) <|
 .ite (.Z 3) (
  .call 0 (.Z 0) <|
  .ite (.Z 4) (
   .bNU (.bNY 3 tI) (.bNV aB tI (.p1 aB aB (.Z 0)) (.p1 tI aB (.Z 1))) <|
   .bNU (.cmp .gtr .i64) (.bNV tI tI (.Z 5) (.ci .i64 0)) <|
   .ite (.Z 6) (
    .bNU (.bNY 3 tI) (.bNV aB tI (aO aM 1 (.Z 0)) (.p1 tI aB (.Z 1))) <|
    .bNU (.lit 3 tI 1) (.Z 7) <|
    .bNU (.bO0 3 tI 8) (.bNV aB aB (aO aF 1 (.Z 1)) (.Z 8)) <|
    .bNU (.ar .add .i64) (.bNV tI tI (.p1 tI aB (.Z 1)) (.ci .i64 1)) <|
    .bNW 0 (.bNV tI aB (.Z 10) (.Z 9))) (
    .bNU (.lit 3 tI 1) (.ci .i64 0) <|
    .bNU (.bO0 3 tI 8) (.bNV aB aB (aO aF 1 (.Z 1)) (.Z 7)) <|
    .bNU (.ar .add .i64) (.bNV tI tI (.p1 tI aB (.Z 1)) (.ci .i64 1)) <|
    .bNW 0 (.bNV tI aB (.Z 9) (.Z 8)))) (
   .ret (aO aF 1 (.Z 1)))) (
  .ret (aO aF 1 (.Z 1)))
theorem aW5:bM Tryz.prog [eZ] pN false 3000 ⟨[(2991,1001,[.dr 7,.tm 6 0,.on 5,.sl 1])],[]⟩ = .ok zE:=by kernel_rfl
theorem aS7 (x:bP) (hx:okD aM x) (hp:(fun _=>True) x):zE.wp [eZ] [⟨aM,x⟩] [] (fun v=>v.as aB=(fun x=>nO x.1 x.2) x):=by
 obtain ⟨a,b⟩:=x
 delta zE eZ;refine dB ?_
 simp only[bAV]
 cases h:nV a b
 ·refine cZ (fun _=>((0:Int),([]:List Int))) 0 rfl fun I μ k hk _ go=>?_
  dsimp only
  simp only[reduceCtorEq,false_implies,true_implies,forall_const,and_true,true_and,implies_true,nS]
  (repeat' first|intro _|(refine go _ ?_ ?_ ?_)|(refine go _ ?_ ?_)|(with_reducible apply And.intro))
  all_goals first|omega|(unfold nO;rw[if_neg (by rw[h];exact Bool.false_ne_true)])
 ·have hl:=jU h
  rw[show nO a b=_ from if_pos h]
  refine cZ (fun k=>((k:Int),mp k fun i=>if 0<a.getD i 0 then b.getD i 0 else 0)) a.length rfl fun I μ k hk _ go=>?_
  dsimp only
  simp only[reduceCtorEq,false_implies,true_implies,forall_const,and_true,true_and,implies_true,nS,fR]
  have e1:0<a.getD k 0→b.getD k 0=if 0<a.getD k 0 then b.getD k 0 else 0:=fun h=>(if_pos h).symm
  have e2:a.getD k 0≤0→0=if 0<a.getD k 0 then b.getD k 0 else 0:=fun h=>(if_neg (by omega)).symm
  (repeat' first|intro _|(refine go _ ?_ ?_ ?_)|(refine go _ ?_ ?_)|(with_reducible apply And.intro))
  all_goals first|omega|(unfold maxLen;omega)|(rw[gH];first|exact Prod.ext rfl (congrArg (mp k _++[·]) (e1 (by assumption)))|exact Prod.ext rfl (congrArg (mp k _++[·]) (e2 (by assumption))))|(have e:k=a.length:=(by omega);subst e;rfl)
theorem aW8:Con.Holds Tryz.prog pN:=aS aW (aH xF aR) aW5 aS7
end
end Go.Proofs.YtdeobhdbmehpgaaGreat
