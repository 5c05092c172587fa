/- Lin2: lemmas. No conditions. -/
import Derived.Test.YtpafjioccjpmfaaGreatLoop
import Derived.Test.YtpafjioccjpmfaaGreatStage3
namespace Go.Proofs.YtpafjioccjpmfaaGreat
noncomputable section
set_option maxRecDepth 100000
open Go.ChangeShapes Go.WideShapes Go.ChangeAt Go.RowKit Go.Deep
set_option linter.unusedVariables false
set_option linter.unusedSimpArgs false
def mp {α:Type} (n:Nat) (g:Nat→α):List α:=(List.range n).map g
def an (n:Nat) (h:Nat→Bool):Bool:=(List.range n).any h
theorem bC7 {α:Type} (g:Nat→α):mp 0 g=[]:=rfl
theorem bKQ (h:Nat→Bool):an 0 h=false:=rfl
theorem oE {α:Type} (n:Nat) (g:Nat→α):mp (n+1) g=mp n g++[g n]:=by unfold mp;rw[List.range_succ,List.map_append];rfl
theorem aCB (n:Nat) (h:Nat→Bool):an (n+1) h=(an n h || h n):=by unfold an;rw[List.range_succ,List.any_append];simp
theorem fL {α:Type} (n:Nat) (g:Nat→α):(mp n g).length=n:=by unfold mp;simp
theorem aG7 {α:Type} (n:Nat) (g:Nat→α) (d:α) {i:Nat} (h:i<n):(mp n g).getD i d=g i:=by unfold mp;simp[h]
theorem bKV {α:Type} {n:Nat} {g h:Nat→α} (e:∀ i,i<n→g i=h i):mp n g=mp n h:=List.map_congr_left fun i hi=>e i (List.mem_range.1 hi)
theorem bKS {n:Nat} {g h:Nat→Bool} (e:∀ i,i<n→g i=h i):an n g=an n h:=by
 rw[Bool.eq_iff_iff];unfold an;simp only[List.any_eq_true,List.mem_range]
 exact ⟨fun ⟨i,h1,h2⟩=>⟨i,h1,by rw[← e i h1];exact h2⟩,fun ⟨i,h1,h2⟩=>⟨i,h1,by rw[e i h1];exact h2⟩⟩
theorem uY {a b:Bool} (h:a=true):true=(a || b):=by rw[h];rfl
theorem aD0 {a b:Bool} (h:a=false):b=(a || b):=by rw[h];rfl
theorem bPB {a b c:Bool} (h:a=true):true=((a || b) || c):=by rw[h];rfl
theorem bPJ {a b c:Bool} (h:a=false) (h2:b=true):true=((a || b) || c):=by rw[h,h2];rfl
theorem bPE {a b c:Bool} (h:a=false) (h2:b=false):c=((a || b) || c):=by rw[h,h2];rfl
def nD (a b:Int):Int × Bool:=aWO (iK a - iK b)
def kB (a b:Int):Int × Bool:=aWO ((iK a * iK b).fdiv 65536)
def aPR (x:Int):Int:=max 0 (iK x)
theorem bPM {x y:Int} (h1:-2147483647≤x∧x≤2147483647) (h2:-2147483647≤y∧y≤2147483647):-4611686014132420609≤x * y∧x * y≤4611686014132420609:=by
 have h:(x * y).natAbs≤2147483647 * 2147483647:=by
  rw[Int.natAbs_mul];exact Nat.mul_le_mul (by omega) (by omega)
 omega
def zG (a b:List Int):Bool:=nE a&&cN b (a.length:Int)
def vz (f:Int→Int→Int × Bool) (a b:List Int) (n:Nat):List Int × Bool:=(mp n fun i=>(f (a.getD i 0) (b.getD i 0)).1,an n fun i=>(f (a.getD i 0) (b.getD i 0)).2)
def oT (f:Int→Int→Int × Bool) (a b:List Int):List Int × Bool:=if zG a b=true then vz f a b a.length else ([],false)
def zK (c:Int) (a:List Int):List Int × Bool:=if gM c=true∧nE a=true then (mp a.length fun i=>(kB c (a.getD i 0)).1,an a.length fun i=>(kB c (a.getD i 0)).2) else ([],false)
def aMH (a b:List Int):Nat→Int × Bool
 | 0=>(0,false)
 | k+1=>((fD (aMH a b k).1 (kB (a.getD k 0) (b.getD k 0)).1).1,(aMH a b k).2 || (kB (a.getD k 0) (b.getD k 0)).2 || (fD (aMH a b k).1 (kB (a.getD k 0) (b.getD k 0)).1).2)
def mI (a b:List Int):Int × Bool:=if zG a b=true then aMH a b a.length else (0,false)
def uV (a:List Int):List Int:=if nE a=true then mp a.length fun i=>aPR (a.getD i 0) else []
def uZ (x d:List Int):List Int:=if zG x d=true then mp x.length fun i=>if 0<x.getD i 0 then d.getD i 0 else 0 else []
theorem aC4 (a b:List Int):zG a b=true↔nE a=true∧cN b (a.length:Int)=true:=by unfold zG;rw[Bool.and_eq_true]
theorem rP {a b:List Int} (h:zG a b=true):a.length≤6∧b.length=a.length:=by
 obtain ⟨h1,h2⟩:=(aC4 a b).1 h
 have:=(dB a).1 h1
 have:=(fF _ _).1 h2
 omega
theorem bB1 {f:Int→Int→Int × Bool} {a b:List Int} (h:zG a b=false):([],false)=oT f a b:=by unfold oT;rw[if_neg (by rw[h];exact Bool.false_ne_true)]
theorem aTS {f:Int→Int→Int × Bool} {a b:List Int} (h:zG a b=true):oT f a b=vz f a b a.length:=if_pos h
theorem bEA (a b:List Int) (k:Nat):aMH a b (k+1)=((fD (aMH a b k).1 (kB (a.getD k 0) (b.getD k 0)).1).1,(aMH a b k).2 || (kB (a.getD k 0) (b.getD k 0)).2 || (fD (aMH a b k).1 (kB (a.getD k 0) (b.getD k 0)).1).2):=rfl
def tN:Con:=⟨129,aD,(.bPW tI .bool),[.val ⟨false,tI,[]⟩,.val ⟨false,tI,[]⟩],[⟨false,tI,[0]⟩,⟨false,.bool,[0]⟩],false,none,
 ((fun _=>True):(Int × Int)→Prop),
 ((fun x=>nD x.1 x.2):(Int × Int)→(Int × Bool))⟩
def aEL:T:=.call 0 (.p1 tI tI (.Z 0)) <|.call 0 (aS aD 1 (.Z 0)) <|
 .bPX (.ar .sub .i64) (.bPY tI tI (.Z 1) (.Z 2)) <|
 .call 1 (.Z 3) <|
 .ret (.Z 4)
theorem aYL:bW Tryz.prog [eP,iE] tN false 3000 ⟨[],[]⟩ = .ok aEL:=by kernel_rfl
theorem aY7 (x:Int × Int) (hx:okD aD x) (hp:(fun _=>True) x):aEL.wp [eP,iE] [⟨aD,x⟩] [] (fun v=>v.as (.bPW tI .bool)=(fun x=>nD x.1 x.2) x):=by
 delta aEL eP iE;refine dY ?_
 intro _ _
 have h1:=qP x.1
 have h2:=qP x.2
 exact ⟨by omega,fun _ _=>rfl⟩
theorem aXP:Con.Holds Tryz.prog tN:=aX aZ (aG xH (aG aDY aT)) aYL aY7
def iF:Con:=⟨138,aD,(.bPW tI .bool),[.val ⟨false,tI,[]⟩,.val ⟨false,tI,[]⟩],[⟨false,tI,[0]⟩,⟨false,.bool,[0]⟩],false,none,
 ((fun _=>True):(Int × Int)→Prop),
 ((fun x=>kB x.1 x.2):(Int × Int)→(Int × Bool))⟩
def aDF:T:=.call 0 (.p1 tI tI (.Z 0)) <|.call 0 (aS aD 1 (.Z 0)) <|
 .bPX (.ar .mul .i64) (.bPY tI tI (.Z 1) (.Z 2)) <|
 .bPX (.shr .i64 .u64) (.bPY tI (.int .u64) (.Z 3) (.ci .u64 16)) <|
 .call 1 (.Z 4) <|
 .ret (.Z 5)
theorem aY8:bW Tryz.prog [eP,iE] iF false 3000 ⟨[],[]⟩ = .ok aDF:=by kernel_rfl
theorem aZD (x:Int × Int) (hx:okD aD x) (hp:(fun _=>True) x):aDF.wp [eP,iE] [⟨aD,x⟩] [] (fun v=>v.as (.bPW tI .bool)=(fun x=>kB x.1 x.2) x):=by
 delta aDF eP iE;refine dY ?_
 have h:=bPM (qP x.1) (qP x.2)
 exact fun _ _=>⟨by omega,fun _=>⟨by omega,fun _ _=>rfl⟩⟩
theorem aEI:Con.Holds Tryz.prog iF:=aX aZ (aG xH (aG aDY aT)) aY8 aZD
def aBB:Con:=⟨143,tI,tI,[.val ⟨false,tI,[]⟩],[⟨false,tI,[0]⟩],false,none,
 ((fun _=>True):(Int)→Prop),
 ((fun x=>aPR x):(Int)→(Int))⟩
def aM1:T:=.call 0 (.Z 0) <|
 .bPX (.mx .i64) (.bPY tI tI (.ci .i64 0) (.Z 1)) <|
 .ret (.Z 2)
theorem bIF:bW Tryz.prog [eP] aBB false 3000 ⟨[],[]⟩ = .ok aM1:=by kernel_rfl
theorem bJ6 (x:Int) (hx:okD tI x) (hp:(fun _=>True) x):aM1.wp [eP] [⟨tI,x⟩] [] (fun v=>v.as tI=(fun x=>aPR x) x):=by
 delta aM1 eP;refine dY ?_
 exact fun _ _=>rfl
theorem bGX:Con.Holds Tryz.prog aBB:=aX aZ (aG xH aT) bIF bJ6
def fA:Con:=⟨128,aQ,.bool,[.val ⟨false,aB,[]⟩,.val ⟨false,aB,[]⟩],[⟨false,.bool,[0]⟩],false,none,
 ((fun _=>True):(cB)→Prop),
 ((fun x=>zG x.1 x.2):(cB)→(Bool))⟩
def aEU:T:=.call 0 (.p1 aB aB (.Z 0)) <|.ite (.Z 1) (
 .bPX (.bQ0 3 tI) (.p1 aB aB (.Z 0)) <|
 .call 1 (.bPY aB tI (aS aQ 1 (.Z 0)) (.Z 2)) <|
 .ret (.Z 3)) (
 .ret (.cb false))
theorem bAG:bW Tryz.prog [dH,cG] fA false 3000 ⟨[],[]⟩ = .ok aEU:=by kernel_rfl
theorem aXW (x:cB) (hx:okD aQ x) (hp:(fun _=>True) x):aEU.wp [dH,cG] [⟨aQ,x⟩] [] (fun v=>v.as .bool=(fun x=>zG x.1 x.2) x):=by
 delta aEU dH cG;refine dY ?_
 refine ⟨fun h _=>?_,fun h=>?_⟩
 ·unfold zG;rw[h,Bool.true_and]
 ·unfold zG;rw[h,Bool.false_and]
theorem xU:Con.Holds Tryz.prog fA:=aX aZ (aG pJ (aG jN aT)) bAG aXW
def lS:Con:=⟨135,aQ,(.bPW aB .bool),[.val ⟨false,aB,[]⟩,.val ⟨false,aB,[]⟩],[⟨false,aB,[2]⟩,⟨false,.bool,[0]⟩],false,none,
 ((fun _=>True):(cB)→Prop),
 ((fun x=>oT fD x.1 x.2):(cB)→(bK × Bool))⟩
def aDH:T:=.call 0 (.Z 0) <|
 .bPX .not (.Z 1) <|
 .ite (.Z 2) (
  .ret (.bPY aB .bool (.nl 3 tI) (.cb false))) (
  .bPX (.bQ0 3 tI) (.p1 aB aB (.Z 0)) <|
  .loop (.bPW tI (.bPW .bool aB)) (bP (.bPW tI (.bPW .bool aB)) [(.ci .i64 0),(.cb false),(.nl 3 tI)]) <|
   .bPX (.cmp .lss .i64) (.bPY tI tI (.p1 tI (.bPW .bool aB) (.Z 4)) (.Z 3)) <|
   .ite (.Z 5) (
    .bPX (.bQ1 3 tI) (.bPY aB tI (.p1 aB aB (.Z 0)) (.p1 tI (.bPW .bool aB) (.Z 4))) <|
    .bPX (.bQ1 3 tI) (.bPY aB tI (aS aQ 1 (.Z 0)) (.p1 tI (.bPW .bool aB) (.Z 4))) <|
    .call 1 (.bPY tI tI (.Z 6) (.Z 7)) <|
    .bPX (.lit 3 tI 1) (.p1 tI .bool (.Z 8)) <|
    .bPX (.bQ3 3 tI 8) (.bPY aB aB (aS (.bPW tI (.bPW .bool aB)) 2 (.Z 4)) (.Z 9)) <|
    .ite (aH (.bPW tI (.bPW .bool aB)) 1 (.Z 4)) (
     .bPX (.ar .add .i64) (.bPY tI tI (.p1 tI (.bPW .bool aB) (.Z 4)) (.ci .i64 1)) <|
     .bPZ 0 (bP (.bPW tI (.bPW .bool aB)) [(.Z 11),(.cb true),(.Z 10)])) (
     .bPX (.ar .add .i64) (.bPY tI tI (.p1 tI (.bPW .bool aB) (.Z 4)) (.ci .i64 1)) <|
     .bPZ 0 (bP (.bPW tI (.bPW .bool aB)) [(.Z 11),(aS (.bPW tI .bool) 1 (.Z 8)),(.Z 10)]))) (
    .ret (.bPY aB .bool (aS (.bPW tI (.bPW .bool aB)) 2 (.Z 4)) (aH (.bPW tI (.bPW .bool aB)) 1 (.Z 4)))))
theorem aXT:bW Tryz.prog [fA,fC] lS false 3000 ⟨[(2984,2004,jV 16 11++[.tm 18 0,.tm 7 0,.on 6,.sl 1])],[]⟩ = .ok aDH:=by kernel_rfl
theorem aZJ (x:cB) (hx:okD aQ x) (hp:(fun _=>True) x):aDH.wp [fA,fC] [⟨aQ,x⟩] [] (fun v=>v.as (.bPW aB .bool)=(fun x=>oT fD x.1 x.2) x):=by
 obtain ⟨a,b⟩:=x
 delta aDH fA fC;refine dY ?_
 simp only[Bool.not_eq_true',Bool.not_eq_false']
 refine ⟨bB1,fun h _=>?_⟩
 have hl:=rP h
 rw[aTS h]
 refine eW (fun k=>((k:Int),an k (fun i=>(fD (a.getD i 0) (b.getD i 0)).2),mp k fun i=>(fD (a.getD i 0) (b.getD i 0)).1)) a.length rfl fun I μ k hk _ go=>?_
 dsimp only
 simp only[uP,fL]
 (repeat' first|intro _|(refine go _ ?_ ?_ ?_)|(refine go _ ?_ ?_)|(with_reducible apply And.intro))
 all_goals first|omega|(unfold maxLen;omega)|(rw[oE,aCB];first|exact Prod.ext rfl (Prod.ext (uY (by assumption)) rfl)|exact Prod.ext rfl (Prod.ext (aD0 (by assumption)) rfl))|(have e:k=a.length:=(by omega);subst e;rfl)
theorem aMB:Con.Holds Tryz.prog lS:=aX aZ (aG xU (aG yQ aT)) aXT aZJ
def lN:Con:=⟨109,aQ,(.bPW aB .bool),[.val ⟨false,aB,[]⟩,.val ⟨false,aB,[]⟩],[⟨false,aB,[2]⟩,⟨false,.bool,[0]⟩],false,none,
 ((fun _=>True):(cB)→Prop),
 ((fun x=>oT nD x.1 x.2):(cB)→(bK × Bool))⟩
def aEE:T:=.call 0 (.Z 0) <|
 .bPX .not (.Z 1) <|
 .ite (.Z 2) (
  .ret (.bPY aB .bool (.nl 3 tI) (.cb false))) (
  .bPX (.bQ0 3 tI) (.p1 aB aB (.Z 0)) <|
  .loop (.bPW tI (.bPW .bool aB)) (bP (.bPW tI (.bPW .bool aB)) [(.ci .i64 0),(.cb false),(.nl 3 tI)]) <|
   .bPX (.cmp .lss .i64) (.bPY tI tI (.p1 tI (.bPW .bool aB) (.Z 4)) (.Z 3)) <|
   .ite (.Z 5) (
    .bPX (.bQ1 3 tI) (.bPY aB tI (.p1 aB aB (.Z 0)) (.p1 tI (.bPW .bool aB) (.Z 4))) <|
    .bPX (.bQ1 3 tI) (.bPY aB tI (aS aQ 1 (.Z 0)) (.p1 tI (.bPW .bool aB) (.Z 4))) <|
    .call 1 (.bPY tI tI (.Z 6) (.Z 7)) <|
    .bPX (.lit 3 tI 1) (.p1 tI .bool (.Z 8)) <|
    .bPX (.bQ3 3 tI 8) (.bPY aB aB (aS (.bPW tI (.bPW .bool aB)) 2 (.Z 4)) (.Z 9)) <|
    .ite (aH (.bPW tI (.bPW .bool aB)) 1 (.Z 4)) (
     .bPX (.ar .add .i64) (.bPY tI tI (.p1 tI (.bPW .bool aB) (.Z 4)) (.ci .i64 1)) <|
     .bPZ 0 (bP (.bPW tI (.bPW .bool aB)) [(.Z 11),(.cb true),(.Z 10)])) (
     .bPX (.ar .add .i64) (.bPY tI tI (.p1 tI (.bPW .bool aB) (.Z 4)) (.ci .i64 1)) <|
     .bPZ 0 (bP (.bPW tI (.bPW .bool aB)) [(.Z 11),(aS (.bPW tI .bool) 1 (.Z 8)),(.Z 10)]))) (
    .ret (.bPY aB .bool (aS (.bPW tI (.bPW .bool aB)) 2 (.Z 4)) (aH (.bPW tI (.bPW .bool aB)) 1 (.Z 4)))))
theorem bAO:bW Tryz.prog [fA,tN] lN false 3000 ⟨[(2984,2004,jV 16 11++[.tm 18 0,.tm 7 0,.on 6,.sl 1])],[]⟩ = .ok aEE:=by kernel_rfl
theorem aZB (x:cB) (hx:okD aQ x) (hp:(fun _=>True) x):aEE.wp [fA,tN] [⟨aQ,x⟩] [] (fun v=>v.as (.bPW aB .bool)=(fun x=>oT nD x.1 x.2) x):=by
 obtain ⟨a,b⟩:=x
 delta aEE fA tN;refine dY ?_
 simp only[Bool.not_eq_true',Bool.not_eq_false']
 refine ⟨bB1,fun h _=>?_⟩
 have hl:=rP h
 rw[aTS h]
 refine eW (fun k=>((k:Int),an k (fun i=>(nD (a.getD i 0) (b.getD i 0)).2),mp k fun i=>(nD (a.getD i 0) (b.getD i 0)).1)) a.length rfl fun I μ k hk _ go=>?_
 dsimp only
 simp only[uP,fL]
 (repeat' first|intro _|(refine go _ ?_ ?_ ?_)|(refine go _ ?_ ?_)|(with_reducible apply And.intro))
 all_goals first|omega|(unfold maxLen;omega)|(rw[oE,aCB];first|exact Prod.ext rfl (Prod.ext (uY (by assumption)) rfl)|exact Prod.ext rfl (Prod.ext (aD0 (by assumption)) rfl))|(have e:k=a.length:=(by omega);subst e;rfl)
theorem aKV:Con.Holds Tryz.prog lN:=aX aZ (aG xU (aG aXP aT)) bAO aZB
def iN:Con:=⟨136,aI,(.bPW aB .bool),[.val ⟨false,tI,[]⟩,.val ⟨false,aB,[]⟩],[⟨false,aB,[2]⟩,⟨false,.bool,[0]⟩],false,none,
 ((fun _=>True):(eS)→Prop),
 ((fun x=>zK x.1 x.2):(eS)→(bK × Bool))⟩
def xO:T:=.call 0 (.p1 tI aB (.Z 0)) <|
 .bPX .not (.Z 1) <|
 .ite (.Z 2) (
  .ret (.bPY aB .bool (.nl 3 tI) (.cb false))) (
  .call 1 (aS aI 1 (.Z 0)) <|
  .bPX .not (.Z 3) <|
  .ite (.Z 4) (
   .ret (.bPY aB .bool (.nl 3 tI) (.cb false))) (
   .bPX (.bQ0 3 tI) (aS aI 1 (.Z 0)) <|
   .loop (.bPW tI (.bPW .bool aB)) (bP (.bPW tI (.bPW .bool aB)) [(.ci .i64 0),(.cb false),(.nl 3 tI)]) <|
    .bPX (.cmp .lss .i64) (.bPY tI tI (.p1 tI (.bPW .bool aB) (.Z 6)) (.Z 5)) <|
    .ite (.Z 7) (
     .bPX (.bQ1 3 tI) (.bPY aB tI (aS aI 1 (.Z 0)) (.p1 tI (.bPW .bool aB) (.Z 6))) <|
     .call 2 (.bPY tI tI (.p1 tI aB (.Z 0)) (.Z 8)) <|
     .bPX (.lit 3 tI 1) (.p1 tI .bool (.Z 9)) <|
     .bPX (.bQ3 3 tI 8) (.bPY aB aB (aS (.bPW tI (.bPW .bool aB)) 2 (.Z 6)) (.Z 10)) <|
     .ite (aH (.bPW tI (.bPW .bool aB)) 1 (.Z 6)) (
      .bPX (.ar .add .i64) (.bPY tI tI (.p1 tI (.bPW .bool aB) (.Z 6)) (.ci .i64 1)) <|
      .bPZ 0 (bP (.bPW tI (.bPW .bool aB)) [(.Z 12),(.cb true),(.Z 11)])) (
      .bPX (.ar .add .i64) (.bPY tI tI (.p1 tI (.bPW .bool aB) (.Z 6)) (.ci .i64 1)) <|
      .bPZ 0 (bP (.bPW tI (.bPW .bool aB)) [(.Z 12),(aS (.bPW tI .bool) 1 (.Z 9)),(.Z 11)]))) (
     .ret (.bPY aB .bool (aS (.bPW tI (.bPW .bool aB)) 2 (.Z 6)) (aH (.bPW tI (.bPW .bool aB)) 1 (.Z 6))))))
theorem aR1:bW Tryz.prog [jS,dH,iF] iN false 3000 ⟨[(2984,4006,jV 20 11++[.tm 22 0,.tm 7 0,.on 6,.sl 1])],[]⟩ = .ok xO:=by kernel_rfl
theorem aS1 (x:eS) (hx:okD aI x) (hp:(fun _=>True) x):xO.wp [jS,dH,iF] [⟨aI,x⟩] [] (fun v=>v.as (.bPW aB .bool)=(fun x=>zK x.1 x.2) x):=by
 obtain ⟨c,a⟩:=x
 delta xO jS dH iF;refine dY ?_
 simp only[Bool.not_eq_true',Bool.not_eq_false']
 refine ⟨fun h=>?_,fun h1=>⟨fun h=>?_,fun h2 _=>?_⟩⟩
 ·unfold zK;rw[if_neg (by rw[h];simp)]
 ·unfold zK;rw[if_neg (by rw[h];simp)]
 have hl:=(dB a).1 h2
 rw[show zK c a=_ from if_pos ⟨h1,h2⟩]
 refine eW (fun k=>((k:Int),an k (fun i=>(kB c (a.getD i 0)).2),mp k fun i=>(kB c (a.getD i 0)).1)) a.length rfl fun I μ k hk _ go=>?_
 dsimp only
 simp only[uP,fL]
 (repeat' first|intro _|(refine go _ ?_ ?_ ?_)|(refine go _ ?_ ?_)|(with_reducible apply And.intro))
 all_goals first|omega|(unfold maxLen;omega)|(rw[oE,aCB];first|exact Prod.ext rfl (Prod.ext (uY (by assumption)) rfl)|exact Prod.ext rfl (Prod.ext (aD0 (by assumption)) rfl))|(have e:k=a.length:=(by omega);subst e;rfl)
theorem aFX:Con.Holds Tryz.prog iN:=aX aZ (aG aHX (aG pJ (aG aEI aT))) aR1 aS1
def iC:Con:=⟨125,aQ,(.bPW tI .bool),[.val ⟨false,aB,[]⟩,.val ⟨false,aB,[]⟩],[⟨false,tI,[0]⟩,⟨false,.bool,[0]⟩],false,none,
 ((fun _=>True):(cB)→Prop),
 ((fun x=>mI x.1 x.2):(cB)→(Int × Bool))⟩
def aD5:T:=.call 0 (.Z 0) <|
 .bPX .not (.Z 1) <|
 .ite (.Z 2) (
  .ret (.bPY tI .bool (.ci .i64 0) (.cb false))) (
  .bPX (.bQ0 3 tI) (.p1 aB aB (.Z 0)) <|
  .loop (.bPW tI (.bPW .bool tI)) (bP (.bPW tI (.bPW .bool tI)) [(.ci .i64 0),(.cb false),(.ci .i64 0)]) <|
   .bPX (.cmp .lss .i64) (.bPY tI tI (.p1 tI (.bPW .bool tI) (.Z 4)) (.Z 3)) <|
   .ite (.Z 5) (
    .bPX (.bQ1 3 tI) (.bPY aB tI (.p1 aB aB (.Z 0)) (.p1 tI (.bPW .bool tI) (.Z 4))) <|
    .bPX (.bQ1 3 tI) (.bPY aB tI (aS aQ 1 (.Z 0)) (.p1 tI (.bPW .bool tI) (.Z 4))) <|
    .call 1 (.bPY tI tI (.Z 6) (.Z 7)) <|
    .call 2 (.bPY tI tI (aS (.bPW tI (.bPW .bool tI)) 2 (.Z 4)) (.p1 tI .bool (.Z 8))) <|
    .ite (aH (.bPW tI (.bPW .bool tI)) 1 (.Z 4)) (
     .bPX (.ar .add .i64) (.bPY tI tI (.p1 tI (.bPW .bool tI) (.Z 4)) (.ci .i64 1)) <|
     .bPZ 0 (bP (.bPW tI (.bPW .bool tI)) [(.Z 10),(.cb true),(.p1 tI .bool (.Z 9))])) (
     .ite (aS (.bPW tI .bool) 1 (.Z 8)) (
      .bPX (.ar .add .i64) (.bPY tI tI (.p1 tI (.bPW .bool tI) (.Z 4)) (.ci .i64 1)) <|
      .bPZ 0 (bP (.bPW tI (.bPW .bool tI)) [(.Z 10),(.cb true),(.p1 tI .bool (.Z 9))])) (
      .bPX (.ar .add .i64) (.bPY tI tI (.p1 tI (.bPW .bool tI) (.Z 4)) (.ci .i64 1)) <|
      .bPZ 0 (bP (.bPW tI (.bPW .bool tI)) [(.Z 10),(aS (.bPW tI .bool) 1 (.Z 9)),(.p1 tI .bool (.Z 9))])))) (
    .ret (.bPY tI .bool (aS (.bPW tI (.bPW .bool tI)) 2 (.Z 4)) (aH (.bPW tI (.bPW .bool tI)) 1 (.Z 4)))))
theorem aZW:bW Tryz.prog [fA,iF,fC] iC false 3000 ⟨[(2984,2004,jV 17 13++[.tm 19 0,.tm 7 0,.tm 6 0])],[]⟩ = .ok aD5:=by kernel_rfl
theorem aXX (x:cB) (hx:okD aQ x) (hp:(fun _=>True) x):aD5.wp [fA,iF,fC] [⟨aQ,x⟩] [] (fun v=>v.as (.bPW tI .bool)=(fun x=>mI x.1 x.2) x):=by
 obtain ⟨a,b⟩:=x
 delta aD5 fA iF fC;refine dY ?_
 simp only[Bool.not_eq_true',Bool.not_eq_false']
 refine ⟨fun h=>by unfold mI;rw[if_neg (by rw[h];exact Bool.false_ne_true)],fun h _=>?_⟩
 have hl:=rP h
 rw[show mI a b=_ from if_pos h]
 refine eW (fun k=>((k:Int),(aMH a b k).2,(aMH a b k).1)) a.length rfl fun I μ k hk _ go=>?_
 dsimp only
 (refine eD ?_;try with_reducible exact True.intro)
 (repeat' first|intro _|(refine go _ ?_ ?_ ?_)|(refine go _ ?_ ?_)|(with_reducible apply And.intro))
 all_goals first|omega|(rw[bEA];first|exact Prod.ext rfl (Prod.ext (bPB (by assumption)) rfl)|exact Prod.ext rfl (Prod.ext (bPJ (by assumption) (by assumption)) rfl)|exact Prod.ext rfl (Prod.ext (bPE (by assumption) (by assumption)) rfl))|(have e:k=a.length:=(by omega);subst e;rfl)
theorem aDD:Con.Holds Tryz.prog iC:=aX aZ (aG xU (aG aEI (aG yQ aT))) aZW aXX
def pY:Con:=⟨137,aB,aB,[.val ⟨false,aB,[]⟩],[⟨false,aB,[2]⟩],false,none,
 ((fun _=>True):(List Int)→Prop),
 ((fun x=>uV x):(List Int)→(List Int))⟩
def aAB:T:=.call 0 (.Z 0) <|
 .bPX .not (.Z 1) <|
 .ite (.Z 2) (
  .ret (.nl 3 tI)) (
  .bPX (.bQ0 3 tI) (.Z 0) <|
  .loop aI (.bPY tI aB (.ci .i64 0) (.nl 3 tI)) <|
   .bPX (.cmp .lss .i64) (.bPY tI tI (.p1 tI aB (.Z 4)) (.Z 3)) <|
   .ite (.Z 5) (
    .bPX (.bQ1 3 tI) (.bPY aB tI (.Z 0) (.p1 tI aB (.Z 4))) <|
    .call 1 (.Z 6) <|
    .bPX (.lit 3 tI 1) (.Z 7) <|
    .bPX (.bQ3 3 tI 8) (.bPY aB aB (aS aI 1 (.Z 4)) (.Z 8)) <|
    .bPX (.ar .add .i64) (.bPY tI tI (.p1 tI aB (.Z 4)) (.ci .i64 1)) <|
    .bPZ 0 (.bPY tI aB (.Z 10) (.Z 9))) (
    .ret (aS aI 1 (.Z 4))))
theorem aVP:bW Tryz.prog [dH,aBB] pY false 3000 ⟨[(2986,2004,jV 9 6++[.dr 0,.tm 12 0,.on 3,.sl 1])],[]⟩ = .ok aAB:=by kernel_rfl
theorem aVM (x:List Int) (hx:okD aB x) (hp:(fun _=>True) x):aAB.wp [dH,aBB] [⟨aB,x⟩] [] (fun v=>v.as aB=(fun x=>uV x) x):=by
 obtain ⟨a,rfl⟩:∃ a,a=x:=⟨_,rfl⟩
 delta aAB dH aBB;refine dY ?_
 simp only[Bool.not_eq_true',Bool.not_eq_false']
 refine ⟨fun h=>by unfold uV;rw[if_neg (by rw[h];exact Bool.false_ne_true)],fun h _=>?_⟩
 have hl:=(dB a).1 h
 rw[show uV a=_ from if_pos h]
 refine eW (fun k=>((k:Int),mp k fun i=>aPR (a.getD i 0))) a.length rfl fun I μ k hk _ go=>?_
 dsimp only
 simp only[uP,fL]
 (repeat' first|intro _|(refine go _ ?_ ?_ ?_)|(refine go _ ?_ ?_)|(with_reducible apply And.intro))
 all_goals first|omega|(unfold maxLen;omega)|(rw[oE];rfl)|(have e:k=a.length:=(by omega);subst e;rfl)
theorem aTK:Con.Holds Tryz.prog pY:=aX aZ (aG pJ (aG bGX aT)) aVP aVM
def qD:Con:=⟨141,aQ,aB,[.val ⟨false,aB,[]⟩,.val ⟨false,aB,[]⟩],[⟨false,aB,[2]⟩],false,none,
 ((fun _=>True):(cB)→Prop),
 ((fun x=>uZ x.1 x.2):(cB)→(List Int))⟩
def aB1:T:=.call 0 (.Z 0) <|
 .bPX .not (.Z 1) <|
 .ite (.Z 2) (
  .ret (.nl 3 tI)) (
  .bPX (.bQ0 3 tI) (.p1 aB aB (.Z 0)) <|
  .loop aI (.bPY tI aB (.ci .i64 0) (.nl 3 tI)) <|
   .bPX (.cmp .lss .i64) (.bPY tI tI (.p1 tI aB (.Z 4)) (.Z 3)) <|
   .ite (.Z 5) (
    .bPX (.bQ1 3 tI) (.bPY aB tI (.p1 aB aB (.Z 0)) (.p1 tI aB (.Z 4))) <|
    .bPX (.cmp .gtr .i64) (.bPY tI tI (.Z 6) (.ci .i64 0)) <|
    .ite (.Z 7) (
     .bPX (.bQ1 3 tI) (.bPY aB tI (aS aQ 1 (.Z 0)) (.p1 tI aB (.Z 4))) <|
     .bPX (.lit 3 tI 1) (.Z 8) <|
     .bPX (.bQ3 3 tI 8) (.bPY aB aB (aS aI 1 (.Z 4)) (.Z 9)) <|
     .bPX (.ar .add .i64) (.bPY tI tI (.p1 tI aB (.Z 4)) (.ci .i64 1)) <|
     .bPZ 0 (.bPY tI aB (.Z 11) (.Z 10))) (
     .bPX (.lit 3 tI 1) (.ci .i64 0) <|
     .bPX (.bQ3 3 tI 8) (.bPY aB aB (aS aI 1 (.Z 4)) (.Z 8)) <|
     .bPX (.ar .add .i64) (.bPY tI tI (.p1 tI aB (.Z 4)) (.ci .i64 1)) <|
     .bPZ 0 (.bPY tI aB (.Z 10) (.Z 9)))) (
    .ret (aS aI 1 (.Z 4))))
theorem aUD:bW Tryz.prog [fA] qD false 3000 ⟨[(2986,2004,jV 12 7++[.tm 14 0,.on 5,.sl 1])],[]⟩ = .ok aB1:=by kernel_rfl
theorem aV2 (x:cB) (hx:okD aQ x) (hp:(fun _=>True) x):aB1.wp [fA] [⟨aQ,x⟩] [] (fun v=>v.as aB=(fun x=>uZ x.1 x.2) x):=by
 obtain ⟨a,b⟩:=x
 delta aB1 fA;refine dY ?_
 simp only[Bool.not_eq_true',Bool.not_eq_false']
 refine ⟨fun h=>by unfold uZ;rw[if_neg (by rw[h];exact Bool.false_ne_true)],fun h _=>?_⟩
 have hl:=rP h
 rw[show uZ a b=_ from if_pos h]
 refine eW (fun k=>((k:Int),mp k fun i=>if 0<a.getD i 0 then b.getD i 0 else 0)) a.length rfl fun I μ k hk _ go=>?_
 dsimp only
 simp only[uP,fL]
 have e1:0<a.getD k 0→b.getD k 0=if 0<a.getD k 0 then b.getD k 0 else 0:=fun h=>(if_pos h).symm
 have e2:a.getD k 0≤0→0=if 0<a.getD k 0 then b.getD k 0 else 0:=fun h=>(if_neg (by omega)).symm
 (repeat' first|intro _|(refine go _ ?_ ?_ ?_)|(refine go _ ?_ ?_)|(with_reducible apply And.intro))
 all_goals first|omega|(unfold maxLen;omega)|(rw[oE];first|exact Prod.ext rfl (congrArg (mp k _++[·]) (e1 (by assumption)))|exact Prod.ext rfl (congrArg (mp k _++[·]) (e2 (by assumption))))|(have e:k=a.length:=(by omega);subst e;rfl)
theorem aU0:Con.Holds Tryz.prog qD:=aX aZ (aG xU aT) aUD aV2
end
end Go.Proofs.YtpafjioccjpmfaaGreat
