/- Lin2: lemmas. No conditions. -/
import Derived.Test.YtiihghfoeinbbaaGreatStage3
namespace Go.Proofs.YtiihghfoeinbbaaGreat
noncomputable section
set_option maxRecDepth 100000
open Go.ChangeShapes Go.WideShapes Go.ChangeAt Go.RowKit Go.Deep
set_option linter.unusedVariables false
set_option linter.unusedSimpArgs false
def aKG (P:Nat→Prop):Nat→Nat
 | 0=>0
 | n+1=>@ite _ (P (n+1)) (Classical.propDecidable _) (n+1) (aKG P n)
theorem aPE (P:Nat→Prop):(n:Nat)→aKG P n≤n
 | 0=>Nat.le_refl _
 | n+1=>by
  unfold aKG;split
  ·exact Nat.le_refl _
  ·exact Nat.le_succ_of_le (aPE P n)
theorem bB6 (P:Nat→Prop):(n k:Nat)→k≤n→P k→k≤aKG P n
 | 0,k,h,_=>h
 | n+1,k,h,hp=>by
  unfold aKG;split
  ·exact h
  ·rename_i hn
   rcases Nat.lt_or_eq_of_le h with h'|rfl
   ·exact bB6 P n k (Nat.le_of_lt_succ h') hp
   ·exact absurd hp hn
theorem bB2 (P : Nat → Prop) : (n k : Nat) → k ≤ n → P k → P (aKG P n)
  | 0, k, h, hp => by have : k = 0 := by omega
                      subst this; exact hp
  | n + 1, k, h, hp => by
    unfold aKG; split
    · assumption
    · rename_i hn
      rcases Nat.lt_or_eq_of_le h with h' | rfl
      · exact bB2 P n k (Nat.le_of_lt_succ h') hp
      · exact absurd hp hn
theorem uK {α:Type} {ok:α→Prop} {s0:α} {B:(α→Prop)→(α→Nat)→α→Prop} (F:Nat→α) (G:Nat→Prop) (n:Nat) (h0:s0=F 0) (g0:G 0)
  (hs:∀ (I:α→Prop) (μ:α→Nat) (k:Nat),k≤n→G k→ok (F k)→(∀ y,k<n→G (k+1)→y=F (k+1)→I y∧μ y<μ (F k))→B I μ (F k)) :
  ∃ (I:α→Prop) (μ:α→Nat),I s0∧∀ x,ok x→I x→B I μ x:=by
 refine ⟨fun x=>∃ k,k≤n∧(x=F k∧G k),fun x=>n - aKG (fun k=>x=F k∧G k) n,⟨0,Nat.zero_le _,h0,g0⟩,fun x hok hI=>?_⟩
 obtain ⟨j,hj,hx⟩:=hI
 have e:=bB2 (fun k=>x=F k∧G k) n j hj hx
 have l:=aPE (fun k=>x=F k∧G k) n
 generalize hk:aKG (fun k=>x=F k∧G k) n=k at e l
 obtain ⟨e1,e2⟩:=e
 subst e1
 refine hs _ _ k l e2 hok fun y hkn hg hy=>⟨⟨k+1,hkn,hy,hg⟩,?_⟩
 have h1:=bB6 (fun k=>y=F k∧G k) n (k+1) hkn ⟨hy,hg⟩
 have h2:=aPE (fun k=>y=F k∧G k) n
 show n - aKG (fun k=>y=F k∧G k) n<n - aKG (fun k'=>F k=F k'∧G k') n
 rw[hk]
 omega
theorem cS {α:Type} {ok:α→Prop} {s0:α} {B:(α→Prop)→(α→Nat)→α→Prop} (F:Nat→α) (n:Nat) (h0:s0=F 0)
  (hs:∀ (I:α→Prop) (μ:α→Nat) (k:Nat),k≤n→ok (F k)→(∀ y,k<n→y=F (k+1)→I y∧μ y<μ (F k))→B I μ (F k)) :
  ∃ (I:α→Prop) (μ:α→Nat),I s0∧∀ x,ok x→I x→B I μ x :=
 uK F (fun _=>True) n h0 trivial fun I μ k hk _ hok go=>hs I μ k hk hok fun y h1 h2=>go y h1 trivial h2
def mp {α:Type} (n:Nat) (g:Nat→α):List α:=(List.range n).map g
def an (n:Nat) (h:Nat→Bool):Bool:=(List.range n).any h
theorem aR8 {α:Type} (g:Nat→α):mp 0 g=[]:=rfl
theorem aZZ (h:Nat→Bool):an 0 h=false:=rfl
theorem fU {α:Type} (n:Nat) (g:Nat→α):mp (n+1) g=mp n g++[g n]:=by unfold mp;rw[List.range_succ,List.map_append];rfl
theorem lO (n:Nat) (h:Nat→Bool):an (n+1) h=(an n h || h n):=by unfold an;rw[List.range_succ,List.any_append];simp
theorem fJ {α:Type} (n:Nat) (g:Nat→α):(mp n g).length=n:=by unfold mp;simp
theorem bJR {α:Type} {n:Nat} {g h:Nat→α} (e:∀ i,i<n→g i=h i):mp n g=mp n h:=List.map_congr_left fun i hi=>e i (List.mem_range.1 hi)
theorem bIP {n:Nat} {g h:Nat→Bool} (e:∀ i,i<n→g i=h i):an n g=an n h:=by
 rw[Bool.eq_iff_iff];unfold an;simp only[List.any_eq_true,List.mem_range]
 exact ⟨fun ⟨i,h1,h2⟩=>⟨i,h1,by rw[← e i h1];exact h2⟩,fun ⟨i,h1,h2⟩=>⟨i,h1,by rw[e i h1];exact h2⟩⟩
theorem iO {a b:Bool} (h:a=true):true=(a || b):=by rw[h];rfl
theorem lT {a b:Bool} (h:a=false):b=(a || b):=by rw[h];rfl
theorem bKD {a b c:Bool} (h:a=true):true=((a || b) || c):=by rw[h];rfl
theorem bKF {a b c:Bool} (h:a=false) (h2:b=true):true=((a || b) || c):=by rw[h,h2];rfl
theorem bKN {a b c:Bool} (h:a=false) (h2:b=false):c=((a || b) || c):=by rw[h,h2];rfl
def eP (a b:Int):Int × Bool:=aLE (eI a - eI b)
def fA (a b:Int):Int × Bool:=aLE ((eI a * eI b).fdiv 65536)
def aJ0 (x:Int):Int:=max 0 (eI x)
theorem bM5 {x y:Int} (h1:-2147483647≤x∧x≤2147483647) (h2:-2147483647≤y∧y≤2147483647):-4611686014132420609≤x * y∧x * y≤4611686014132420609:=by
 have h:(x * y).natAbs≤2147483647 * 2147483647:=by
  rw[Int.natAbs_mul];exact Nat.mul_le_mul (by omega) (by omega)
 omega
theorem bM2 {a:Int} (h:-9223372036854775808≤a∧a≤9223372036854775807):-140737488355328≤a.tdiv 65536∧a.tdiv 65536≤140737488355328:=by
 rcases Int.le_total 0 a with h1|h1
 ·rw[Int.tdiv_eq_ediv_of_nonneg h1];omega
 ·have e1:a.tdiv 65536 = -((-a) / 65536):=by
   rw[← Int.neg_neg a,Int.neg_tdiv,Int.tdiv_eq_ediv_of_nonneg (by omega),Int.neg_neg]
  omega
theorem bIB (x:Int):x.fdiv 65536=(if x.tmod 65536≠0∧x<0 then x.tdiv 65536 - 1 else x.tdiv 65536):=by
 rw[Int.fdiv_eq_ediv_of_nonneg _ (by decide)]
 rcases Int.le_total 0 x with h|h
 ·rw[Int.tdiv_eq_ediv_of_nonneg h,if_neg (by omega)]
 ·have e1:x.tdiv 65536 = -((-x) / 65536):=by
   rw[← Int.neg_neg x,Int.neg_tdiv,Int.tdiv_eq_ediv_of_nonneg (by omega),Int.neg_neg]
  have e2:x.tmod 65536 = -((-x) % 65536):=by
   rw[← Int.neg_neg x,Int.neg_tmod,Int.tmod_eq_emod_of_nonneg (by omega),Int.neg_neg]
  rw[e1,e2]
  split <;> omega
def oA (a b:List Int):Bool:=iK a&&eQ b (a.length:Int)
def vz (f:Int→Int→Int × Bool) (a b:List Int) (n:Nat):List Int × Bool:=(mp n fun i=>(f (a.getD i 0) (b.getD i 0)).1,an n fun i=>(f (a.getD i 0) (b.getD i 0)).2)
def kM (f:Int→Int→Int × Bool) (a b:List Int):List Int × Bool:=if oA a b=true then vz f a b a.length else ([],false)
def sQ (c:Int) (a:List Int):List Int × Bool:=if nU c=true∧iK a=true then (mp a.length fun i=>(fA c (a.getD i 0)).1,an a.length fun i=>(fA c (a.getD i 0)).2) else ([],false)
def aGZ (a b:List Int):Nat→Int × Bool
 | 0=>(0,false)
 | k+1=>((dI (aGZ a b k).1 (fA (a.getD k 0) (b.getD k 0)).1).1,(aGZ a b k).2 || (fA (a.getD k 0) (b.getD k 0)).2 || (dI (aGZ a b k).1 (fA (a.getD k 0) (b.getD k 0)).1).2)
def fM (a b:List Int):Int × Bool:=if oA a b=true then aGZ a b a.length else (0,false)
def nT (a:List Int):List Int:=if iK a=true then mp a.length fun i=>aJ0 (a.getD i 0) else []
def nL (x d:List Int):List Int:=if oA x d=true then mp x.length fun i=>if 0<x.getD i 0 then d.getD i 0 else 0 else []
theorem bEC (a b:List Int):oA a b=true↔iK a=true∧eQ b (a.length:Int)=true:=by unfold oA;rw[Bool.and_eq_true]
theorem kG {a b:List Int} (h:oA a b=true):a.length≤6∧b.length=a.length:=by
 obtain ⟨h1,h2⟩:=(bEC a b).1 h
 have:=(cP a).1 h1
 have:=(cF _ _).1 h2
 omega
theorem aIB {f:Int→Int→Int × Bool} {a b:List Int} (h:oA a b=false):([],false)=kM f a b:=by unfold kM;rw[if_neg (by rw[h];exact Bool.false_ne_true)]
theorem aER {f:Int→Int→Int × Bool} {a b:List Int} (h:oA a b=true):kM f a b=vz f a b a.length:=if_pos h
theorem aNL (a b:List Int) (k:Nat):aGZ a b (k+1)=((dI (aGZ a b k).1 (fA (a.getD k 0) (b.getD k 0)).1).1,(aGZ a b k).2 || (fA (a.getD k 0) (b.getD k 0)).2 || (dI (aGZ a b k).1 (fA (a.getD k 0) (b.getD k 0)).1).2):=rfl
theorem bAB (a b:List Int):(iK a&&(iK b&&decide (a.length=b.length)))=oA a b:=by
 unfold oA eQ
 congr 2
 rw[Bool.eq_iff_iff,decide_eq_true_eq,decide_eq_true_eq];omega
def sT:Con:=⟨130,aO,(.bMC tI .bool),[.val ⟨false,tI,[]⟩,.val ⟨false,tI,[]⟩],[⟨false,tI,[0]⟩,⟨false,.bool,[0]⟩],false,none,
 ((fun _=>True):(Int × Int)→Prop),
 ((fun x=>eP x.1 x.2):(Int × Int)→(Int × Bool))⟩
def aEI:T:=.call 0 (.p1 tI tI (.Z 0)) <|.call 0 (aQ aO 1 (.Z 0)) <|
 .bMD (.ar .sub .i64) (.bME tI tI (.Z 1) (.Z 2)) <|
 .call 1 (.Z 3) <|
 .ret (.Z 4)
theorem aWE:bL Tryz.prog [eM,iH] sT false 3000 ⟨[],[]⟩ = .ok aEI:=by kernel_rfl
theorem aVY (x:Int × Int) (hx:okD aO x) (hp:(fun _=>True) x):aEI.wp [eM,iH] [⟨aO,x⟩] [] (fun v=>v.as (.bMC tI .bool)=(fun x=>eP x.1 x.2) x):=by
 delta aEI eM iH;refine dD ?_
 intro _ _
 have h1:=kD x.1
 have h2:=kD x.2
 exact ⟨by omega,fun _ _=>rfl⟩
theorem aZH:Con.Holds Tryz.prog sT:=aR aW (aG vX (aG aDK aS)) aWE aVY
def hZ:Con:=⟨129,aO,(.bMC tI .bool),[.val ⟨false,tI,[]⟩,.val ⟨false,tI,[]⟩],[⟨false,tI,[0]⟩,⟨false,.bool,[0]⟩],false,none,
 ((fun _=>True):(Int × Int)→Prop),
 ((fun x=>fA x.1 x.2):(Int × Int)→(Int × Bool))⟩
def aDM:T:=.call 0 (.p1 tI tI (.Z 0)) <|.call 0 (aQ aO 1 (.Z 0)) <|
 .bMD (.ar .mul .i64) (.bME tI tI (.Z 1) (.Z 2)) <|
 .bMD (.shr .i64 .u64) (.bME tI (.int .u64) (.Z 3) (.ci .u64 16)) <|
 .call 1 (.Z 4) <|
 .ret (.Z 5)
theorem aYO:bL Tryz.prog [eM,iH] hZ false 3000 ⟨[],[]⟩ = .ok aDM:=by kernel_rfl
theorem aXL (x:Int × Int) (hx:okD aO x) (hp:(fun _=>True) x):aDM.wp [eM,iH] [⟨aO,x⟩] [] (fun v=>v.as (.bMC tI .bool)=(fun x=>fA x.1 x.2) x):=by
 delta aDM eM iH;refine dD ?_
 have h:=bM5 (kD x.1) (kD x.2)
 exact fun _ _=>⟨by omega,fun _=>⟨by omega,fun _ _=>rfl⟩⟩
theorem aE2:Con.Holds Tryz.prog hZ:=aR aW (aG vX (aG aDK aS)) aYO aXL
def aB1:Con:=⟨323,tI,tI,[.val ⟨false,tI,[]⟩],[⟨false,tI,[0]⟩],false,none,
 ((fun _=>True):(Int)→Prop),
 ((fun x=>aJ0 x):(Int)→(Int))⟩
def aLF:T:=.call 0 (.Z 0) <|
 .bMD (.mx .i64) (.bME tI tI (.ci .i64 0) (.Z 1)) <|
 .ret (.Z 2)
theorem bGZ:bL Tryz.prog [eM] aB1 false 3000 ⟨[],[]⟩ = .ok aLF:=by kernel_rfl
theorem bFL (x:Int) (hx:okD tI x) (hp:(fun _=>True) x):aLF.wp [eM] [⟨tI,x⟩] [] (fun v=>v.as tI=(fun x=>aJ0 x) x):=by
 delta aLF eM;refine dD ?_
 exact fun _ _=>rfl
theorem bGY:Con.Holds Tryz.prog aB1:=aR aW (aG vX aS) bGZ bFL
def eT:Con:=⟨277,aI,.bool,[.val ⟨false,aB,[]⟩,.val ⟨false,aB,[]⟩],[⟨false,.bool,[0]⟩],false,none,
 ((fun _=>True):(bW)→Prop),
 ((fun x=>oA x.1 x.2):(bW)→(Bool))⟩
def aCR:T:=.call 0 (.p1 aB aB (.Z 0)) <|.ite (.Z 1) (
 .bMD (.bMG 3 tI) (.p1 aB aB (.Z 0)) <|
 .call 1 (.bME aB tI (aQ aI 1 (.Z 0)) (.Z 2)) <|
 .ret (.Z 3)) (
 .ret (.cb false))
theorem aZ7:bL Tryz.prog [cZ,cA] eT false 3000 ⟨[],[]⟩ = .ok aCR:=by kernel_rfl
theorem aXM (x:bW) (hx:okD aI x) (hp:(fun _=>True) x):aCR.wp [cZ,cA] [⟨aI,x⟩] [] (fun v=>v.as .bool=(fun x=>oA x.1 x.2) x):=by
 delta aCR cZ cA;refine dD ?_
 refine ⟨fun h _=>?_,fun h=>?_⟩
 ·unfold oA;rw[h,Bool.true_and]
 ·unfold oA;rw[h,Bool.false_and]
theorem xH:Con.Holds Tryz.prog eT:=aR aW (aG oF (aG jI aS)) aZ7 aXM
def kP:Con:=⟨308,aI,(.bMC aB .bool),[.val ⟨false,aB,[]⟩,.val ⟨false,aB,[]⟩],[⟨false,aB,[2]⟩,⟨false,.bool,[0]⟩],false,none,
 ((fun _=>True):(bW)→Prop),
 ((fun x=>kM dI x.1 x.2):(bW)→(cD × Bool))⟩
def aDL:T:=.call 0 (.Z 0) <|
 .bMD .not (.Z 1) <|
 .ite (.Z 2) (
  .ret (.bME aB .bool (.nl 3 tI) (.cb false))) (
  .bMD (.bMG 3 tI) (.p1 aB aB (.Z 0)) <|
  .loop (.bMC tI (.bMC .bool aB)) (bE (.bMC tI (.bMC .bool aB)) [(.ci .i64 0),(.cb false),(.nl 3 tI)]) <|
   .bMD (.cmp .lss .i64) (.bME tI tI (.p1 tI (.bMC .bool aB) (.Z 4)) (.Z 3)) <|
   .ite (.Z 5) (
    .bMD (.bMH 3 tI) (.bME aB tI (.p1 aB aB (.Z 0)) (.p1 tI (.bMC .bool aB) (.Z 4))) <|
    .bMD (.bMH 3 tI) (.bME aB tI (aQ aI 1 (.Z 0)) (.p1 tI (.bMC .bool aB) (.Z 4))) <|
    .call 1 (.bME tI tI (.Z 6) (.Z 7)) <|
    .bMD (.lit 3 tI 1) (.p1 tI .bool (.Z 8)) <|
    .bMD (.bMJ 3 tI 8) (.bME aB aB (aQ (.bMC tI (.bMC .bool aB)) 2 (.Z 4)) (.Z 9)) <|
    .ite (aJ (.bMC tI (.bMC .bool aB)) 1 (.Z 4)) (
     .bMD (.ar .add .i64) (.bME tI tI (.p1 tI (.bMC .bool aB) (.Z 4)) (.ci .i64 1)) <|
     .bMF 0 (bE (.bMC tI (.bMC .bool aB)) [(.Z 11),(.cb true),(.Z 10)])) (
     .bMD (.ar .add .i64) (.bME tI tI (.p1 tI (.bMC .bool aB) (.Z 4)) (.ci .i64 1)) <|
     .bMF 0 (bE (.bMC tI (.bMC .bool aB)) [(.Z 11),(aQ (.bMC tI .bool) 1 (.Z 8)),(.Z 10)]))) (
    .ret (.bME aB .bool (aQ (.bMC tI (.bMC .bool aB)) 2 (.Z 4)) (aJ (.bMC tI (.bMC .bool aB)) 1 (.Z 4)))))
theorem aZX:bL Tryz.prog [eT,fB] kP false 3000 ⟨[(2984,2004,iQ 16 11++[.tm 18 0,.tm 7 0,.on 6,.sl 1])],[]⟩ = .ok aDL:=by kernel_rfl
theorem aY8 (x:bW) (hx:okD aI x) (hp:(fun _=>True) x):aDL.wp [eT,fB] [⟨aI,x⟩] [] (fun v=>v.as (.bMC aB .bool)=(fun x=>kM dI x.1 x.2) x):=by
 obtain ⟨a,b⟩:=x
 delta aDL eT fB;refine dD ?_
 simp only[Bool.not_eq_true',Bool.not_eq_false']
 refine ⟨aIB,fun h _=>?_⟩
 have hl:=kG h
 rw[aER h]
 refine cS (fun k=>((k:Int),an k (fun i=>(dI (a.getD i 0) (b.getD i 0)).2),mp k fun i=>(dI (a.getD i 0) (b.getD i 0)).1)) a.length rfl fun I μ k hk _ go=>?_
 dsimp only
 simp only[lU,fJ]
 (repeat' first|intro _|(refine go _ ?_ ?_ ?_)|(refine go _ ?_ ?_)|(with_reducible apply And.intro))
 all_goals first|omega|(unfold maxLen;omega)|(rw[fU,lO];first|exact Prod.ext rfl (Prod.ext (iO (by assumption)) rfl)|exact Prod.ext rfl (Prod.ext (lT (by assumption)) rfl))|(have e:k=a.length:=(by omega);subst e;rfl)
theorem aL9:Con.Holds Tryz.prog kP:=aR aW (aG xH (aG xR aS)) aZX aY8
def lB:Con:=⟨215,aI,(.bMC aB .bool),[.val ⟨false,aB,[]⟩,.val ⟨false,aB,[]⟩],[⟨false,aB,[2]⟩,⟨false,.bool,[0]⟩],false,none,
 ((fun _=>True):(bW)→Prop),
 ((fun x=>kM eP x.1 x.2):(bW)→(cD × Bool))⟩
def aD7:T:=.call 0 (.Z 0) <|
 .bMD .not (.Z 1) <|
 .ite (.Z 2) (
  .ret (.bME aB .bool (.nl 3 tI) (.cb false))) (
  .bMD (.bMG 3 tI) (.p1 aB aB (.Z 0)) <|
  .loop (.bMC tI (.bMC .bool aB)) (bE (.bMC tI (.bMC .bool aB)) [(.ci .i64 0),(.cb false),(.nl 3 tI)]) <|
   .bMD (.cmp .lss .i64) (.bME tI tI (.p1 tI (.bMC .bool aB) (.Z 4)) (.Z 3)) <|
   .ite (.Z 5) (
    .bMD (.bMH 3 tI) (.bME aB tI (.p1 aB aB (.Z 0)) (.p1 tI (.bMC .bool aB) (.Z 4))) <|
    .bMD (.bMH 3 tI) (.bME aB tI (aQ aI 1 (.Z 0)) (.p1 tI (.bMC .bool aB) (.Z 4))) <|
    .call 1 (.bME tI tI (.Z 6) (.Z 7)) <|
    .bMD (.lit 3 tI 1) (.p1 tI .bool (.Z 8)) <|
    .bMD (.bMJ 3 tI 8) (.bME aB aB (aQ (.bMC tI (.bMC .bool aB)) 2 (.Z 4)) (.Z 9)) <|
    .ite (aJ (.bMC tI (.bMC .bool aB)) 1 (.Z 4)) (
     .bMD (.ar .add .i64) (.bME tI tI (.p1 tI (.bMC .bool aB) (.Z 4)) (.ci .i64 1)) <|
     .bMF 0 (bE (.bMC tI (.bMC .bool aB)) [(.Z 11),(.cb true),(.Z 10)])) (
     .bMD (.ar .add .i64) (.bME tI tI (.p1 tI (.bMC .bool aB) (.Z 4)) (.ci .i64 1)) <|
     .bMF 0 (bE (.bMC tI (.bMC .bool aB)) [(.Z 11),(aQ (.bMC tI .bool) 1 (.Z 8)),(.Z 10)]))) (
    .ret (.bME aB .bool (aQ (.bMC tI (.bMC .bool aB)) 2 (.Z 4)) (aJ (.bMC tI (.bMC .bool aB)) 1 (.Z 4)))))
theorem aVZ:bL Tryz.prog [eT,sT] lB false 3000 ⟨[(2984,2004,iQ 16 11++[.tm 18 0,.tm 7 0,.on 6,.sl 1])],[]⟩ = .ok aD7:=by kernel_rfl
theorem aXP (x:bW) (hx:okD aI x) (hp:(fun _=>True) x):aD7.wp [eT,sT] [⟨aI,x⟩] [] (fun v=>v.as (.bMC aB .bool)=(fun x=>kM eP x.1 x.2) x):=by
 obtain ⟨a,b⟩:=x
 delta aD7 eT sT;refine dD ?_
 simp only[Bool.not_eq_true',Bool.not_eq_false']
 refine ⟨aIB,fun h _=>?_⟩
 have hl:=kG h
 rw[aER h]
 refine cS (fun k=>((k:Int),an k (fun i=>(eP (a.getD i 0) (b.getD i 0)).2),mp k fun i=>(eP (a.getD i 0) (b.getD i 0)).1)) a.length rfl fun I μ k hk _ go=>?_
 dsimp only
 simp only[lU,fJ]
 (repeat' first|intro _|(refine go _ ?_ ?_ ?_)|(refine go _ ?_ ?_)|(with_reducible apply And.intro))
 all_goals first|omega|(unfold maxLen;omega)|(rw[fU,lO];first|exact Prod.ext rfl (Prod.ext (iO (by assumption)) rfl)|exact Prod.ext rfl (Prod.ext (lT (by assumption)) rfl))|(have e:k=a.length:=(by omega);subst e;rfl)
theorem aJ8:Con.Holds Tryz.prog lB:=aR aW (aG xH (aG aZH aS)) aVZ aXP
def iV:Con:=⟨309,aF,(.bMC aB .bool),[.val ⟨false,tI,[]⟩,.val ⟨false,aB,[]⟩],[⟨false,aB,[2]⟩,⟨false,.bool,[0]⟩],false,none,
 ((fun _=>True):(cL)→Prop),
 ((fun x=>sQ x.1 x.2):(cL)→(cD × Bool))⟩
def xP:T:=.call 0 (.p1 tI aB (.Z 0)) <|
 .bMD .not (.Z 1) <|
 .ite (.Z 2) (
  .ret (.bME aB .bool (.nl 3 tI) (.cb false))) (
  .call 1 (aQ aF 1 (.Z 0)) <|
  .bMD .not (.Z 3) <|
  .ite (.Z 4) (
   .ret (.bME aB .bool (.nl 3 tI) (.cb false))) (
   .bMD (.bMG 3 tI) (aQ aF 1 (.Z 0)) <|
   .loop (.bMC tI (.bMC .bool aB)) (bE (.bMC tI (.bMC .bool aB)) [(.ci .i64 0),(.cb false),(.nl 3 tI)]) <|
    .bMD (.cmp .lss .i64) (.bME tI tI (.p1 tI (.bMC .bool aB) (.Z 6)) (.Z 5)) <|
    .ite (.Z 7) (
     .bMD (.bMH 3 tI) (.bME aB tI (aQ aF 1 (.Z 0)) (.p1 tI (.bMC .bool aB) (.Z 6))) <|
     .call 2 (.bME tI tI (.p1 tI aB (.Z 0)) (.Z 8)) <|
     .bMD (.lit 3 tI 1) (.p1 tI .bool (.Z 9)) <|
     .bMD (.bMJ 3 tI 8) (.bME aB aB (aQ (.bMC tI (.bMC .bool aB)) 2 (.Z 6)) (.Z 10)) <|
     .ite (aJ (.bMC tI (.bMC .bool aB)) 1 (.Z 6)) (
      .bMD (.ar .add .i64) (.bME tI tI (.p1 tI (.bMC .bool aB) (.Z 6)) (.ci .i64 1)) <|
      .bMF 0 (bE (.bMC tI (.bMC .bool aB)) [(.Z 12),(.cb true),(.Z 11)])) (
      .bMD (.ar .add .i64) (.bME tI tI (.p1 tI (.bMC .bool aB) (.Z 6)) (.ci .i64 1)) <|
      .bMF 0 (bE (.bMC tI (.bMC .bool aB)) [(.Z 12),(aQ (.bMC tI .bool) 1 (.Z 9)),(.Z 11)]))) (
     .ret (.bME aB .bool (aQ (.bMC tI (.bMC .bool aB)) 2 (.Z 6)) (aJ (.bMC tI (.bMC .bool aB)) 1 (.Z 6))))))
theorem aQ3:bL Tryz.prog [jE,cZ,hZ] iV false 3000 ⟨[(2984,4006,iQ 20 11++[.tm 22 0,.tm 7 0,.on 6,.sl 1])],[]⟩ = .ok xP:=by kernel_rfl
theorem aQD (x:cL) (hx:okD aF x) (hp:(fun _=>True) x):xP.wp [jE,cZ,hZ] [⟨aF,x⟩] [] (fun v=>v.as (.bMC aB .bool)=(fun x=>sQ x.1 x.2) x):=by
 obtain ⟨c,a⟩:=x
 delta xP jE cZ hZ;refine dD ?_
 simp only[Bool.not_eq_true',Bool.not_eq_false']
 refine ⟨fun h=>?_,fun h1=>⟨fun h=>?_,fun h2 _=>?_⟩⟩
 ·unfold sQ;rw[if_neg (by rw[h];simp)]
 ·unfold sQ;rw[if_neg (by rw[h];simp)]
 have hl:=(cP a).1 h2
 rw[show sQ c a=_ from if_pos ⟨h1,h2⟩]
 refine cS (fun k=>((k:Int),an k (fun i=>(fA c (a.getD i 0)).2),mp k fun i=>(fA c (a.getD i 0)).1)) a.length rfl fun I μ k hk _ go=>?_
 dsimp only
 simp only[lU,fJ]
 (repeat' first|intro _|(refine go _ ?_ ?_ ?_)|(refine go _ ?_ ?_)|(with_reducible apply And.intro))
 all_goals first|omega|(unfold maxLen;omega)|(rw[fU,lO];first|exact Prod.ext rfl (Prod.ext (iO (by assumption)) rfl)|exact Prod.ext rfl (Prod.ext (lT (by assumption)) rfl))|(have e:k=a.length:=(by omega);subst e;rfl)
theorem aFP:Con.Holds Tryz.prog iV:=aR aW (aG aGE (aG oF (aG aE2 aS))) aQ3 aQD
def iJ:Con:=⟨276,aI,(.bMC tI .bool),[.val ⟨false,aB,[]⟩,.val ⟨false,aB,[]⟩],[⟨false,tI,[0]⟩,⟨false,.bool,[0]⟩],false,none,
 ((fun _=>True):(bW)→Prop),
 ((fun x=>fM x.1 x.2):(bW)→(Int × Bool))⟩
def aDB:T:=.call 0 (.Z 0) <|
 .bMD .not (.Z 1) <|
 .ite (.Z 2) (
  .ret (.bME tI .bool (.ci .i64 0) (.cb false))) (
  .bMD (.bMG 3 tI) (.p1 aB aB (.Z 0)) <|
  .loop (.bMC tI (.bMC .bool tI)) (bE (.bMC tI (.bMC .bool tI)) [(.ci .i64 0),(.cb false),(.ci .i64 0)]) <|
   .bMD (.cmp .lss .i64) (.bME tI tI (.p1 tI (.bMC .bool tI) (.Z 4)) (.Z 3)) <|
   .ite (.Z 5) (
    .bMD (.bMH 3 tI) (.bME aB tI (.p1 aB aB (.Z 0)) (.p1 tI (.bMC .bool tI) (.Z 4))) <|
    .bMD (.bMH 3 tI) (.bME aB tI (aQ aI 1 (.Z 0)) (.p1 tI (.bMC .bool tI) (.Z 4))) <|
    .call 1 (.bME tI tI (.Z 6) (.Z 7)) <|
    .call 2 (.bME tI tI (aQ (.bMC tI (.bMC .bool tI)) 2 (.Z 4)) (.p1 tI .bool (.Z 8))) <|
    .ite (aJ (.bMC tI (.bMC .bool tI)) 1 (.Z 4)) (
     .bMD (.ar .add .i64) (.bME tI tI (.p1 tI (.bMC .bool tI) (.Z 4)) (.ci .i64 1)) <|
     .bMF 0 (bE (.bMC tI (.bMC .bool tI)) [(.Z 10),(.cb true),(.p1 tI .bool (.Z 9))])) (
     .ite (aQ (.bMC tI .bool) 1 (.Z 8)) (
      .bMD (.ar .add .i64) (.bME tI tI (.p1 tI (.bMC .bool tI) (.Z 4)) (.ci .i64 1)) <|
      .bMF 0 (bE (.bMC tI (.bMC .bool tI)) [(.Z 10),(.cb true),(.p1 tI .bool (.Z 9))])) (
      .bMD (.ar .add .i64) (.bME tI tI (.p1 tI (.bMC .bool tI) (.Z 4)) (.ci .i64 1)) <|
      .bMF 0 (bE (.bMC tI (.bMC .bool tI)) [(.Z 10),(aQ (.bMC tI .bool) 1 (.Z 9)),(.p1 tI .bool (.Z 9))])))) (
    .ret (.bME tI .bool (aQ (.bMC tI (.bMC .bool tI)) 2 (.Z 4)) (aJ (.bMC tI (.bMC .bool tI)) 1 (.Z 4)))))
theorem aZ2:bL Tryz.prog [eT,hZ,fB] iJ false 3000 ⟨[(2984,2004,iQ 17 13++[.tm 19 0,.tm 7 0,.tm 6 0])],[]⟩ = .ok aDB:=by kernel_rfl
theorem aYF (x:bW) (hx:okD aI x) (hp:(fun _=>True) x):aDB.wp [eT,hZ,fB] [⟨aI,x⟩] [] (fun v=>v.as (.bMC tI .bool)=(fun x=>fM x.1 x.2) x):=by
 obtain ⟨a,b⟩:=x
 delta aDB eT hZ fB;refine dD ?_
 simp only[Bool.not_eq_true',Bool.not_eq_false']
 refine ⟨fun h=>by unfold fM;rw[if_neg (by rw[h];exact Bool.false_ne_true)],fun h _=>?_⟩
 have hl:=kG h
 rw[show fM a b=_ from if_pos h]
 refine cS (fun k=>((k:Int),(aGZ a b k).2,(aGZ a b k).1)) a.length rfl fun I μ k hk _ go=>?_
 dsimp only
 (refine eE ?_;try with_reducible exact True.intro)
 (repeat' first|intro _|(refine go _ ?_ ?_ ?_)|(refine go _ ?_ ?_)|(with_reducible apply And.intro))
 all_goals first|omega|(rw[aNL];first|exact Prod.ext rfl (Prod.ext (bKD (by assumption)) rfl)|exact Prod.ext rfl (Prod.ext (bKF (by assumption) (by assumption)) rfl)|exact Prod.ext rfl (Prod.ext (bKN (by assumption) (by assumption)) rfl))|(have e:k=a.length:=(by omega);subst e;rfl)
theorem aDN:Con.Holds Tryz.prog iJ:=aR aW (aG xH (aG aE2 (aG xR aS))) aZ2 aYF
def qD:Con:=⟨310,aB,aB,[.val ⟨false,aB,[]⟩],[⟨false,aB,[2]⟩],false,none,
 ((fun _=>True):(List Int)→Prop),
 ((fun x=>nT x):(List Int)→(List Int))⟩
def zM:T:=.call 0 (.Z 0) <|
 .bMD .not (.Z 1) <|
 .ite (.Z 2) (
  .ret (.nl 3 tI)) (
  .bMD (.bMG 3 tI) (.Z 0) <|
  .loop aF (.bME tI aB (.ci .i64 0) (.nl 3 tI)) <|
   .bMD (.cmp .lss .i64) (.bME tI tI (.p1 tI aB (.Z 4)) (.Z 3)) <|
   .ite (.Z 5) (
    .bMD (.bMH 3 tI) (.bME aB tI (.Z 0) (.p1 tI aB (.Z 4))) <|
    .call 1 (.Z 6) <|
    .bMD (.lit 3 tI 1) (.Z 7) <|
    .bMD (.bMJ 3 tI 8) (.bME aB aB (aQ aF 1 (.Z 4)) (.Z 8)) <|
    .bMD (.ar .add .i64) (.bME tI tI (.p1 tI aB (.Z 4)) (.ci .i64 1)) <|
    .bMF 0 (.bME tI aB (.Z 10) (.Z 9))) (
    .ret (aQ aF 1 (.Z 4))))
theorem aRV:bL Tryz.prog [cZ,aB1] qD false 3000 ⟨[(2986,2004,iQ 9 6++[.dr 0,.tm 12 0,.on 3,.sl 1])],[]⟩ = .ok zM:=by kernel_rfl
theorem aTA (x:List Int) (hx:okD aB x) (hp:(fun _=>True) x):zM.wp [cZ,aB1] [⟨aB,x⟩] [] (fun v=>v.as aB=(fun x=>nT x) x):=by
 obtain ⟨a,rfl⟩:∃ a,a=x:=⟨_,rfl⟩
 delta zM cZ aB1;refine dD ?_
 simp only[Bool.not_eq_true',Bool.not_eq_false']
 refine ⟨fun h=>by unfold nT;rw[if_neg (by rw[h];exact Bool.false_ne_true)],fun h _=>?_⟩
 have hl:=(cP a).1 h
 rw[show nT a=_ from if_pos h]
 refine cS (fun k=>((k:Int),mp k fun i=>aJ0 (a.getD i 0))) a.length rfl fun I μ k hk _ go=>?_
 dsimp only
 simp only[lU,fJ]
 (repeat' first|intro _|(refine go _ ?_ ?_ ?_)|(refine go _ ?_ ?_)|(with_reducible apply And.intro))
 all_goals first|omega|(unfold maxLen;omega)|(rw[fU];rfl)|(have e:k=a.length:=(by omega);subst e;rfl)
theorem aRR:Con.Holds Tryz.prog qD:=aR aW (aG oF (aG bGY aS)) aRV aTA
def oY:Con:=⟨313,aI,aB,[.val ⟨false,aB,[]⟩,.val ⟨false,aB,[]⟩],[⟨false,aB,[2]⟩],false,none,
 ((fun _=>True):(bW)→Prop),
 ((fun x=>nL x.1 x.2):(bW)→(List Int))⟩
def zZ:T:=.call 0 (.Z 0) <|
 .bMD .not (.Z 1) <|
 .ite (.Z 2) (
  .ret (.nl 3 tI)) (
  .bMD (.bMG 3 tI) (.p1 aB aB (.Z 0)) <|
  .loop aF (.bME tI aB (.ci .i64 0) (.nl 3 tI)) <|
   .bMD (.cmp .lss .i64) (.bME tI tI (.p1 tI aB (.Z 4)) (.Z 3)) <|
   .ite (.Z 5) (
    .bMD (.bMH 3 tI) (.bME aB tI (.p1 aB aB (.Z 0)) (.p1 tI aB (.Z 4))) <|
    .bMD (.cmp .gtr .i64) (.bME tI tI (.Z 6) (.ci .i64 0)) <|
    .ite (.Z 7) (
     .bMD (.bMH 3 tI) (.bME aB tI (aQ aI 1 (.Z 0)) (.p1 tI aB (.Z 4))) <|
     .bMD (.lit 3 tI 1) (.Z 8) <|
     .bMD (.bMJ 3 tI 8) (.bME aB aB (aQ aF 1 (.Z 4)) (.Z 9)) <|
     .bMD (.ar .add .i64) (.bME tI tI (.p1 tI aB (.Z 4)) (.ci .i64 1)) <|
     .bMF 0 (.bME tI aB (.Z 11) (.Z 10))) (
     .bMD (.lit 3 tI 1) (.ci .i64 0) <|
     .bMD (.bMJ 3 tI 8) (.bME aB aB (aQ aF 1 (.Z 4)) (.Z 8)) <|
     .bMD (.ar .add .i64) (.bME tI tI (.p1 tI aB (.Z 4)) (.ci .i64 1)) <|
     .bMF 0 (.bME tI aB (.Z 10) (.Z 9)))) (
    .ret (aQ aF 1 (.Z 4))))
theorem aUR:bL Tryz.prog [eT] oY false 3000 ⟨[(2986,2004,iQ 12 7++[.tm 14 0,.on 5,.sl 1])],[]⟩ = .ok zZ:=by kernel_rfl
theorem aUN (x:bW) (hx:okD aI x) (hp:(fun _=>True) x):zZ.wp [eT] [⟨aI,x⟩] [] (fun v=>v.as aB=(fun x=>nL x.1 x.2) x):=by
 obtain ⟨a,b⟩:=x
 delta zZ eT;refine dD ?_
 simp only[Bool.not_eq_true',Bool.not_eq_false']
 refine ⟨fun h=>by unfold nL;rw[if_neg (by rw[h];exact Bool.false_ne_true)],fun h _=>?_⟩
 have hl:=kG h
 rw[show nL a b=_ from if_pos h]
 refine cS (fun k=>((k:Int),mp k fun i=>if 0<a.getD i 0 then b.getD i 0 else 0)) a.length rfl fun I μ k hk _ go=>?_
 dsimp only
 simp only[lU,fJ]
 have e1:0<a.getD k 0→b.getD k 0=if 0<a.getD k 0 then b.getD k 0 else 0:=fun h=>(if_pos h).symm
 have e2:a.getD k 0≤0→0=if 0<a.getD k 0 then b.getD k 0 else 0:=fun h=>(if_neg (by omega)).symm
 (repeat' first|intro _|(refine go _ ?_ ?_ ?_)|(refine go _ ?_ ?_)|(with_reducible apply And.intro))
 all_goals first|omega|(unfold maxLen;omega)|(rw[fU];first|exact Prod.ext rfl (congrArg (mp k _++[·]) (e1 (by assumption)))|exact Prod.ext rfl (congrArg (mp k _++[·]) (e2 (by assumption))))|(have e:k=a.length:=(by omega);subst e;rfl)
theorem aU7:Con.Holds Tryz.prog oY:=aR aW (aG xH aS) aUR aUN
def tO:Con:=⟨119,aO,(.bMC tI .bool),[.val ⟨false,tI,[]⟩,.val ⟨false,tI,[]⟩],[⟨false,tI,[0]⟩,⟨false,.bool,[0]⟩],false,none,
 ((fun _=>True):(Int × Int)→Prop),
 ((fun x=>eP x.1 x.2):(Int × Int)→(Int × Bool))⟩
def aEK:T:=.call 0 (.p1 tI tI (.Z 0)) <|.call 0 (aQ aO 1 (.Z 0)) <|
 .bMD (.ar .sub .i64) (.bME tI tI (.Z 1) (.Z 2)) <|
 .call 1 (.Z 3) <|
 .ret (.Z 4)
theorem aX6:bL Tryz.prog [iX,gH] tO false 3000 ⟨[],[]⟩ = .ok aEK:=by kernel_rfl
theorem aXA (x:Int × Int) (hx:okD aO x) (hp:(fun _=>True) x):aEK.wp [iX,gH] [⟨aO,x⟩] [] (fun v=>v.as (.bMC tI .bool)=(fun x=>eP x.1 x.2) x):=by
 delta aEK iX gH;refine dD ?_
 intro _ _
 have h1:=kD x.1
 have h2:=kD x.2
 exact ⟨by omega,fun _ _=>rfl⟩
theorem aYG:Con.Holds Tryz.prog tO:=aR aW (aG aET (aG aC6 aS)) aX6 aXA
def qB:Con:=⟨205,aO,tI,[.val ⟨false,tI,[]⟩,.val ⟨false,tI,[]⟩],[⟨false,tI,[0]⟩],false,none,
 ((fun x=>x.2=65536):(Int × Int)→Prop),
 ((fun x=>x.1.fdiv 65536):(Int × Int)→(Int))⟩
def zE:T :=
 .bMD (.quo .i64) (.bME tI tI (.p1 tI tI (.Z 0)) (aQ aO 1 (.Z 0))) <|
 .bMD (.rem .i64) (.bME tI tI (.p1 tI tI (.Z 0)) (aQ aO 1 (.Z 0))) <|
 .bMD (.cmp .neq .i64) (.bME tI tI (.Z 2) (.ci .i64 0)) <|
 .ite (.Z 3) (
  .bMD (.cmp .lss .i64) (.bME tI tI (.p1 tI tI (.Z 0)) (.ci .i64 0)) <|
  .bMD (.cmp .lss .i64) (.bME tI tI (aQ aO 1 (.Z 0)) (.ci .i64 0)) <|
  .bMD (.eqv true .bool) (.bME .bool .bool (.Z 4) (.Z 5)) <|
  .ite (.Z 6) (
   .bMD (.ar .sub .i64) (.bME tI tI (.Z 1) (.ci .i64 1)) <|
   .ret (.Z 7)) (
   .ret (.Z 1))) (
  .ret (.Z 1))
theorem aSE:bL Tryz.prog [] qB false 3000 ⟨[],[]⟩ = .ok zE:=by kernel_rfl
theorem aUK (x:Int × Int) (hx:okD aO x) (hp:(fun x=>x.2=65536) x):zE.wp [] [⟨aO,x⟩] [] (fun v=>v.as tI=(fun x=>x.1.fdiv 65536) x):=by
 obtain ⟨a,b⟩:=x
 obtain rfl:b=65536:=hp
 have e:=bIB a
 have ha:-9223372036854775808≤a∧a≤9223372036854775807:=hx.1
 have hd:=bM2 ha
 delta zE;refine dD ?_
 simp only[bLL,bL2,aE7,aED,show decide ((65536:Int)<0)=false from rfl,decide_eq_false_iff_not,Classical.not_not]
 rw[e]
 (repeat' first|intro _|(with_reducible apply And.intro))
 all_goals first|omega|(rw[if_pos ⟨by assumption,by assumption⟩])|(rw[if_neg (fun h=>by have:=h.2;omega)])|(rw[if_neg (fun h=>h.1 (by assumption))])
theorem aVL:Con.Holds Tryz.prog qB:=aR aW aS aSE aUK
def hN:Con:=⟨118,aO,(.bMC tI .bool),[.val ⟨false,tI,[]⟩,.val ⟨false,tI,[]⟩],[⟨false,tI,[0]⟩,⟨false,.bool,[0]⟩],false,none,
 ((fun _=>True):(Int × Int)→Prop),
 ((fun x=>fA x.1 x.2):(Int × Int)→(Int × Bool))⟩
def aDT:T:=.call 0 (.p1 tI tI (.Z 0)) <|.call 0 (aQ aO 1 (.Z 0)) <|
 .bMD (.ar .mul .i64) (.bME tI tI (.Z 1) (.Z 2)) <|
 .call 1 (.bME tI tI (.Z 3) (.ci .i64 65536)) <|
 .call 2 (.Z 4) <|
 .ret (.Z 5)
theorem aYI:bL Tryz.prog [iX,qB,gH] hN false 3000 ⟨[],[]⟩ = .ok aDT:=by kernel_rfl
theorem aWR (x:Int × Int) (hx:okD aO x) (hp:(fun _=>True) x):aDT.wp [iX,qB,gH] [⟨aO,x⟩] [] (fun v=>v.as (.bMC tI .bool)=(fun x=>fA x.1 x.2) x):=by
 delta aDT iX qB gH;refine dD ?_
 have h:=bM5 (kD x.1) (kD x.2)
 exact fun _ _=>⟨by omega,fun _ _ _=>rfl⟩
theorem aCV:Con.Holds Tryz.prog hN:=aR aW (aG aET (aG aVL (aG aC6 aS))) aYI aWR
def aAF:Con:=⟨320,tI,tI,[.val ⟨false,tI,[]⟩],[⟨false,tI,[0]⟩],false,none,
 ((fun _=>True):(Int)→Prop),
 ((fun x=>aJ0 x):(Int)→(Int))⟩
def aKU:T:=.call 0 (.Z 0) <|
 .bMD (.mx .i64) (.bME tI tI (.ci .i64 0) (.Z 1)) <|
 .ret (.Z 2)
theorem bEL:bL Tryz.prog [iX] aAF false 3000 ⟨[],[]⟩ = .ok aKU:=by kernel_rfl
theorem bI1 (x:Int) (hx:okD tI x) (hp:(fun _=>True) x):aKU.wp [iX] [⟨tI,x⟩] [] (fun v=>v.as tI=(fun x=>aJ0 x) x):=by
 delta aKU iX;refine dD ?_
 exact fun _ _=>rfl
theorem bGW:Con.Holds Tryz.prog aAF:=aR aW (aG aET aS) bEL bI1
def lE:Con:=⟨300,aI,(.bMC aB .bool),[.val ⟨false,aB,[]⟩,.val ⟨false,aB,[]⟩],[⟨false,aB,[2]⟩,⟨false,.bool,[0]⟩],false,none,
 ((fun _=>True):(bW)→Prop),
 ((fun x=>kM dI x.1 x.2):(bW)→(cD × Bool))⟩
def aDG:T:=.loop (.bMC tI (.bMC .bool aB)) (bE (.bMC tI (.bMC .bool aB)) [(.ci .i64 0),(.cb false),(.nl 3 tI)]) <|
 .bMD (.bMG 3 tI) (.p1 aB aB (.Z 0)) <|
 .bMD (.cmp .lss .i64) (.bME tI tI (.p1 tI (.bMC .bool aB) (.Z 1)) (.Z 2)) <|
 .ite (.Z 3) (
  .call 0 (.Z 0) <|
  .ite (.Z 4) (
   .bMD (.bMH 3 tI) (.bME aB tI (.p1 aB aB (.Z 0)) (.p1 tI (.bMC .bool aB) (.Z 1))) <|
   .bMD (.bMH 3 tI) (.bME aB tI (aQ aI 1 (.Z 0)) (.p1 tI (.bMC .bool aB) (.Z 1))) <|
   .call 1 (.bME tI tI (.Z 5) (.Z 6)) <|
   .bMD (.lit 3 tI 1) (.p1 tI .bool (.Z 7)) <|
   .bMD (.bMJ 3 tI 8) (.bME aB aB (aQ (.bMC tI (.bMC .bool aB)) 2 (.Z 1)) (.Z 8)) <|
   .ite (aJ (.bMC tI (.bMC .bool aB)) 1 (.Z 1)) (
    .bMD (.ar .add .i64) (.bME tI tI (.p1 tI (.bMC .bool aB) (.Z 1)) (.ci .i64 1)) <|
    .bMF 0 (bE (.bMC tI (.bMC .bool aB)) [(.Z 10),(.cb true),(.Z 9)])) (
    .bMD (.ar .add .i64) (.bME tI tI (.p1 tI (.bMC .bool aB) (.Z 1)) (.ci .i64 1)) <|
    .bMF 0 (bE (.bMC tI (.bMC .bool aB)) [(.Z 10),(aQ (.bMC tI .bool) 1 (.Z 7)),(.Z 9)]))) (
   .ret (.bME aB .bool (aQ (.bMC tI (.bMC .bool aB)) 2 (.Z 1)) (aJ (.bMC tI (.bMC .bool aB)) 1 (.Z 1))))) (
  .ret (.bME aB .bool (aQ (.bMC tI (.bMC .bool aB)) 2 (.Z 1)) (aJ (.bMC tI (.bMC .bool aB)) 1 (.Z 1))))
theorem aZQ:bL Tryz.prog [eX,dO] lE false 3000 ⟨[(2989,1001,[.dr 11,.tm 8 0,.tm 7 0,.on 6,.sl 1])],[]⟩ = .ok aDG:=by kernel_rfl
theorem aWB (x:bW) (hx:okD aI x) (hp:(fun _=>True) x):aDG.wp [eX,dO] [⟨aI,x⟩] [] (fun v=>v.as (.bMC aB .bool)=(fun x=>kM dI x.1 x.2) x):=by
 obtain ⟨a,b⟩:=x
 delta aDG eX dO;refine dD ?_
 simp only[bAB]
 cases h:oA a b
 ·refine cS (fun _=>((0:Int),false,([]:List Int))) 0 rfl fun I μ k hk _ go=>?_
  dsimp only
  simp only[reduceCtorEq,false_implies,true_implies,forall_const,and_true,true_and,implies_true,lU]
  (repeat' first|intro _|(refine go _ ?_ ?_ ?_)|(refine go _ ?_ ?_)|(with_reducible apply And.intro))
  all_goals first|omega|exact aIB h
 ·have hl:=kG h
  rw[aER h]
  refine cS (fun k=>((k:Int),an k (fun i=>(dI (a.getD i 0) (b.getD i 0)).2),mp k fun i=>(dI (a.getD i 0) (b.getD i 0)).1)) a.length rfl fun I μ k hk _ go=>?_
  dsimp only
  simp only[reduceCtorEq,false_implies,true_implies,forall_const,and_true,true_and,implies_true,lU,fJ]
  (repeat' first|intro _|(refine go _ ?_ ?_ ?_)|(refine go _ ?_ ?_)|(with_reducible apply And.intro))
  all_goals first|omega|(unfold maxLen;omega)|(rw[fU,lO];first|exact Prod.ext rfl (Prod.ext (iO (by assumption)) rfl)|exact Prod.ext rfl (Prod.ext (lT (by assumption)) rfl))|(have e:k=a.length:=(by omega);subst e;rfl)
theorem aL2:Con.Holds Tryz.prog lE:=aR aW (aG xG (aG rH aS)) aZQ aWB
def kR:Con:=⟨202,aI,(.bMC aB .bool),[.val ⟨false,aB,[]⟩,.val ⟨false,aB,[]⟩],[⟨false,aB,[2]⟩,⟨false,.bool,[0]⟩],false,none,
 ((fun _=>True):(bW)→Prop),
 ((fun x=>kM eP x.1 x.2):(bW)→(cD × Bool))⟩
def aD0:T:=.loop (.bMC tI (.bMC .bool aB)) (bE (.bMC tI (.bMC .bool aB)) [(.ci .i64 0),(.cb false),(.nl 3 tI)]) <|
 .bMD (.bMG 3 tI) (.p1 aB aB (.Z 0)) <|
 .bMD (.cmp .lss .i64) (.bME tI tI (.p1 tI (.bMC .bool aB) (.Z 1)) (.Z 2)) <|
 .ite (.Z 3) (
  .call 0 (.Z 0) <|
  .ite (.Z 4) (
   .bMD (.bMH 3 tI) (.bME aB tI (.p1 aB aB (.Z 0)) (.p1 tI (.bMC .bool aB) (.Z 1))) <|
   .bMD (.bMH 3 tI) (.bME aB tI (aQ aI 1 (.Z 0)) (.p1 tI (.bMC .bool aB) (.Z 1))) <|
   .call 1 (.bME tI tI (.Z 5) (.Z 6)) <|
   .bMD (.lit 3 tI 1) (.p1 tI .bool (.Z 7)) <|
   .bMD (.bMJ 3 tI 8) (.bME aB aB (aQ (.bMC tI (.bMC .bool aB)) 2 (.Z 1)) (.Z 8)) <|
   .ite (aJ (.bMC tI (.bMC .bool aB)) 1 (.Z 1)) (
    .bMD (.ar .add .i64) (.bME tI tI (.p1 tI (.bMC .bool aB) (.Z 1)) (.ci .i64 1)) <|
    .bMF 0 (bE (.bMC tI (.bMC .bool aB)) [(.Z 10),(.cb true),(.Z 9)])) (
    .bMD (.ar .add .i64) (.bME tI tI (.p1 tI (.bMC .bool aB) (.Z 1)) (.ci .i64 1)) <|
    .bMF 0 (bE (.bMC tI (.bMC .bool aB)) [(.Z 10),(aQ (.bMC tI .bool) 1 (.Z 7)),(.Z 9)]))) (
   .ret (.bME aB .bool (aQ (.bMC tI (.bMC .bool aB)) 2 (.Z 1)) (aJ (.bMC tI (.bMC .bool aB)) 1 (.Z 1))))) (
  .ret (.bME aB .bool (aQ (.bMC tI (.bMC .bool aB)) 2 (.Z 1)) (aJ (.bMC tI (.bMC .bool aB)) 1 (.Z 1))))
theorem aWD:bL Tryz.prog [eX,tO] kR false 3000 ⟨[(2989,1001,[.dr 11,.tm 8 0,.tm 7 0,.on 6,.sl 1])],[]⟩ = .ok aD0:=by kernel_rfl
theorem aW4 (x:bW) (hx:okD aI x) (hp:(fun _=>True) x):aD0.wp [eX,tO] [⟨aI,x⟩] [] (fun v=>v.as (.bMC aB .bool)=(fun x=>kM eP x.1 x.2) x):=by
 obtain ⟨a,b⟩:=x
 delta aD0 eX tO;refine dD ?_
 simp only[bAB]
 cases h:oA a b
 ·refine cS (fun _=>((0:Int),false,([]:List Int))) 0 rfl fun I μ k hk _ go=>?_
  dsimp only
  simp only[reduceCtorEq,false_implies,true_implies,forall_const,and_true,true_and,implies_true,lU]
  (repeat' first|intro _|(refine go _ ?_ ?_ ?_)|(refine go _ ?_ ?_)|(with_reducible apply And.intro))
  all_goals first|omega|exact aIB h
 ·have hl:=kG h
  rw[aER h]
  refine cS (fun k=>((k:Int),an k (fun i=>(eP (a.getD i 0) (b.getD i 0)).2),mp k fun i=>(eP (a.getD i 0) (b.getD i 0)).1)) a.length rfl fun I μ k hk _ go=>?_
  dsimp only
  simp only[reduceCtorEq,false_implies,true_implies,forall_const,and_true,true_and,implies_true,lU,fJ]
  (repeat' first|intro _|(refine go _ ?_ ?_ ?_)|(refine go _ ?_ ?_)|(with_reducible apply And.intro))
  all_goals first|omega|(unfold maxLen;omega)|(rw[fU,lO];first|exact Prod.ext rfl (Prod.ext (iO (by assumption)) rfl)|exact Prod.ext rfl (Prod.ext (lT (by assumption)) rfl))|(have e:k=a.length:=(by omega);subst e;rfl)
theorem aJK:Con.Holds Tryz.prog kR:=aR aW (aG xG (aG aYG aS)) aWD aW4
def iR:Con:=⟨302,aF,(.bMC aB .bool),[.val ⟨false,tI,[]⟩,.val ⟨false,aB,[]⟩],[⟨false,aB,[2]⟩,⟨false,.bool,[0]⟩],false,none,
 ((fun _=>True):(cL)→Prop),
 ((fun x=>sQ x.1 x.2):(cL)→(cD × Bool))⟩
def yH:T:=.loop (.bMC tI (.bMC .bool aB)) (bE (.bMC tI (.bMC .bool aB)) [(.ci .i64 0),(.cb false),(.nl 3 tI)]) <|
 .bMD (.bMG 3 tI) (aQ aF 1 (.Z 0)) <|
 .bMD (.cmp .lss .i64) (.bME tI tI (.p1 tI (.bMC .bool aB) (.Z 1)) (.Z 2)) <|
 .ite (.Z 3) (
  .call 0 (aQ aF 1 (.Z 0)) <|
  .ite (.Z 4) (
   .call 1 (.p1 tI aB (.Z 0)) <|
   .ite (.Z 5) (
    .bMD (.bMH 3 tI) (.bME aB tI (aQ aF 1 (.Z 0)) (.p1 tI (.bMC .bool aB) (.Z 1))) <|
    .call 2 (.bME tI tI (.p1 tI aB (.Z 0)) (.Z 6)) <|
    .bMD (.lit 3 tI 1) (.p1 tI .bool (.Z 7)) <|
    .bMD (.bMJ 3 tI 8) (.bME aB aB (aQ (.bMC tI (.bMC .bool aB)) 2 (.Z 1)) (.Z 8)) <|
    .ite (aJ (.bMC tI (.bMC .bool aB)) 1 (.Z 1)) (
     .bMD (.ar .add .i64) (.bME tI tI (.p1 tI (.bMC .bool aB) (.Z 1)) (.ci .i64 1)) <|
     .bMF 0 (bE (.bMC tI (.bMC .bool aB)) [(.Z 10),(.cb true),(.Z 9)])) (
     .bMD (.ar .add .i64) (.bME tI tI (.p1 tI (.bMC .bool aB) (.Z 1)) (.ci .i64 1)) <|
     .bMF 0 (bE (.bMC tI (.bMC .bool aB)) [(.Z 10),(aQ (.bMC tI .bool) 1 (.Z 7)),(.Z 9)]))) (
    .ret (.bME aB .bool (aQ (.bMC tI (.bMC .bool aB)) 2 (.Z 1)) (aJ (.bMC tI (.bMC .bool aB)) 1 (.Z 1))))) (
   .ret (.bME aB .bool (aQ (.bMC tI (.bMC .bool aB)) 2 (.Z 1)) (aJ (.bMC tI (.bMC .bool aB)) 1 (.Z 1))))) (
  .ret (.bME aB .bool (aQ (.bMC tI (.bMC .bool aB)) 2 (.Z 1)) (aJ (.bMC tI (.bMC .bool aB)) 1 (.Z 1))))
theorem aQH:bL Tryz.prog [bI,gE,hN] iR false 3000 ⟨[(2989,1001,[.dr 11,.tm 8 0,.tm 7 0,.on 6,.sl 1])],[]⟩ = .ok yH:=by kernel_rfl
theorem aQ7 (x:cL) (hx:okD aF x) (hp:(fun _=>True) x):yH.wp [bI,gE,hN] [⟨aF,x⟩] [] (fun v=>v.as (.bMC aB .bool)=(fun x=>sQ x.1 x.2) x):=by
 obtain ⟨c,a⟩:=x
 delta yH bI gE hN;refine dD ?_
 cases h:iK a
 ·refine cS (fun _=>((0:Int),false,([]:List Int))) 0 rfl fun I μ k hk _ go=>?_
  dsimp only
  simp only[reduceCtorEq,false_implies,true_implies,forall_const,and_true,true_and,implies_true,lU]
  (repeat' first|intro _|(refine go _ ?_ ?_ ?_)|(refine go _ ?_ ?_)|(with_reducible apply And.intro))
  all_goals first|omega|(unfold sQ;rw[if_neg (by rw[h];simp)])
 cases h2:nU c
 ·refine cS (fun _=>((0:Int),false,([]:List Int))) 0 rfl fun I μ k hk _ go=>?_
  dsimp only
  simp only[reduceCtorEq,false_implies,true_implies,forall_const,and_true,true_and,implies_true,lU]
  (repeat' first|intro _|(refine go _ ?_ ?_ ?_)|(refine go _ ?_ ?_)|(with_reducible apply And.intro))
  all_goals first|omega|(unfold sQ;rw[if_neg (by rw[h2];simp)])
 ·have hl:=(cP a).1 h
  rw[show sQ c a=_ from if_pos ⟨h2,h⟩]
  refine cS (fun k=>((k:Int),an k (fun i=>(fA c (a.getD i 0)).2),mp k fun i=>(fA c (a.getD i 0)).1)) a.length rfl fun I μ k hk _ go=>?_
  dsimp only
  simp only[reduceCtorEq,false_implies,true_implies,forall_const,and_true,true_and,implies_true,lU,fJ]
  (repeat' first|intro _|(refine go _ ?_ ?_ ?_)|(refine go _ ?_ ?_)|(with_reducible apply And.intro))
  all_goals first|omega|(unfold maxLen;omega)|(rw[fU,lO];first|exact Prod.ext rfl (Prod.ext (iO (by assumption)) rfl)|exact Prod.ext rfl (Prod.ext (lT (by assumption)) rfl))|(have e:k=a.length:=(by omega);subst e;rfl)
theorem aFN:Con.Holds Tryz.prog iR:=aR aW (aG fD (aG aC3 (aG aCV aS))) aQH aQ7
def eV:Con:=⟨271,aI,(.bMC tI .bool),[.val ⟨false,aB,[]⟩,.val ⟨false,aB,[]⟩],[⟨false,tI,[0]⟩,⟨false,.bool,[0]⟩],false,none,
 ((fun _=>True):(bW)→Prop),
 ((fun x=>fM x.1 x.2):(bW)→(Int × Bool))⟩
def aEA:T:=.loop (.bMC tI (.bMC .bool tI)) (bE (.bMC tI (.bMC .bool tI)) [(.ci .i64 0),(.cb false),(.ci .i64 0)]) <|
 .bMD (.bMG 3 tI) (.p1 aB aB (.Z 0)) <|
 .bMD (.cmp .lss .i64) (.bME tI tI (.p1 tI (.bMC .bool tI) (.Z 1)) (.Z 2)) <|
 .ite (.Z 3) (
  .call 0 (.Z 0) <|
  .ite (.Z 4) (
   .bMD (.bMH 3 tI) (.bME aB tI (.p1 aB aB (.Z 0)) (.p1 tI (.bMC .bool tI) (.Z 1))) <|
   .bMD (.bMH 3 tI) (.bME aB tI (aQ aI 1 (.Z 0)) (.p1 tI (.bMC .bool tI) (.Z 1))) <|
   .call 1 (.bME tI tI (.Z 5) (.Z 6)) <|
   .call 2 (.bME tI tI (aQ (.bMC tI (.bMC .bool tI)) 2 (.Z 1)) (.p1 tI .bool (.Z 7))) <|
   .ite (aJ (.bMC tI (.bMC .bool tI)) 1 (.Z 1)) (
    .bMD (.ar .add .i64) (.bME tI tI (.p1 tI (.bMC .bool tI) (.Z 1)) (.ci .i64 1)) <|
    .bMF 0 (bE (.bMC tI (.bMC .bool tI)) [(.Z 9),(.cb true),(.p1 tI .bool (.Z 8))])) (
    .ite (aQ (.bMC tI .bool) 1 (.Z 7)) (
     .bMD (.ar .add .i64) (.bME tI tI (.p1 tI (.bMC .bool tI) (.Z 1)) (.ci .i64 1)) <|
     .bMF 0 (bE (.bMC tI (.bMC .bool tI)) [(.Z 9),(.cb true),(.p1 tI .bool (.Z 8))])) (
     .bMD (.ar .add .i64) (.bME tI tI (.p1 tI (.bMC .bool tI) (.Z 1)) (.ci .i64 1)) <|
     .bMF 0 (bE (.bMC tI (.bMC .bool tI)) [(.Z 9),(aQ (.bMC tI .bool) 1 (.Z 8)),(.p1 tI .bool (.Z 8))])))) (
   .ret (.bME tI .bool (aQ (.bMC tI (.bMC .bool tI)) 2 (.Z 1)) (aJ (.bMC tI (.bMC .bool tI)) 1 (.Z 1))))) (
  .ret (.bME tI .bool (aQ (.bMC tI (.bMC .bool tI)) 2 (.Z 1)) (aJ (.bMC tI (.bMC .bool tI)) 1 (.Z 1))))
theorem aZB:bL Tryz.prog [eX,hN,dO] eV false 3000 ⟨[(2989,1001,[.tm 8 0,.tm 7 0,.tm 6 0])],[]⟩ = .ok aEA:=by kernel_rfl
theorem aZC (x:bW) (hx:okD aI x) (hp:(fun _=>True) x):aEA.wp [eX,hN,dO] [⟨aI,x⟩] [] (fun v=>v.as (.bMC tI .bool)=(fun x=>fM x.1 x.2) x):=by
 obtain ⟨a,b⟩:=x
 delta aEA eX hN dO;refine dD ?_
 simp only[bAB]
 cases h:oA a b
 ·refine cS (fun _=>((0:Int),false,(0:Int))) 0 rfl fun I μ k hk _ go=>?_
  dsimp only
  simp only[reduceCtorEq,false_implies,true_implies,forall_const,and_true,true_and,implies_true,lU]
  (repeat' first|intro _|(refine go _ ?_ ?_ ?_)|(refine go _ ?_ ?_)|(with_reducible apply And.intro))
  all_goals first|omega|(unfold fM;rw[if_neg (by rw[h];exact Bool.false_ne_true)])
 ·have hl:=kG h
  rw[show fM a b=_ from if_pos h]
  refine cS (fun k=>((k:Int),(aGZ a b k).2,(aGZ a b k).1)) a.length rfl fun I μ k hk _ go=>?_
  dsimp only
  simp only[reduceCtorEq,false_implies,true_implies,forall_const,and_true,true_and,implies_true,lU]
  (repeat' first|intro _|(refine go _ ?_ ?_ ?_)|(refine go _ ?_ ?_)|(with_reducible apply And.intro))
  all_goals first|omega|(rw[aNL];first|exact Prod.ext rfl (Prod.ext (bKD (by assumption)) rfl)|exact Prod.ext rfl (Prod.ext (bKF (by assumption) (by assumption)) rfl)|exact Prod.ext rfl (Prod.ext (bKN (by assumption) (by assumption)) rfl))|(have e:k=a.length:=(by omega);subst e;rfl)
theorem xY:Con.Holds Tryz.prog eV:=aR aW (aG xG (aG aCV (aG rH aS))) aZB aZC
def pK:Con:=⟨301,aB,aB,[.val ⟨false,aB,[]⟩],[⟨false,aB,[2]⟩],false,none,
 ((fun _=>True):(List Int)→Prop),
 ((fun x=>nT x):(List Int)→(List Int))⟩
def zW:T:=.loop aF (.bME tI aB (.ci .i64 0) (.nl 3 tI)) <|
 .bMD (.bMG 3 tI) (.Z 0) <|
 .bMD (.cmp .lss .i64) (.bME tI tI (.p1 tI aB (.Z 1)) (.Z 2)) <|
 .ite (.Z 3) (
  .call 0 (.Z 0) <|
  .ite (.Z 4) (
   .bMD (.bMH 3 tI) (.bME aB tI (.Z 0) (.p1 tI aB (.Z 1))) <|
   .call 1 (.Z 5) <|
   .bMD (.lit 3 tI 1) (.Z 6) <|
   .bMD (.bMJ 3 tI 8) (.bME aB aB (aQ aF 1 (.Z 1)) (.Z 7)) <|
   .bMD (.ar .add .i64) (.bME tI tI (.p1 tI aB (.Z 1)) (.ci .i64 1)) <|
   .bMF 0 (.bME tI aB (.Z 9) (.Z 8))) (
   .ret (aQ aF 1 (.Z 1)))) (
  .ret (aQ aF 1 (.Z 1)))
theorem aTP:bL Tryz.prog [bI,aAF] pK false 3000 ⟨[(2991,1001,[.dr 5,.tm 4 0,.on 3,.sl 1])],[]⟩ = .ok zW:=by kernel_rfl
theorem aUI (x:List Int) (hx:okD aB x) (hp:(fun _=>True) x):zW.wp [bI,aAF] [⟨aB,x⟩] [] (fun v=>v.as aB=(fun x=>nT x) x):=by
 obtain ⟨a,rfl⟩:∃ a,a=x:=⟨_,rfl⟩
 delta zW bI aAF;refine dD ?_
 cases h:iK a
 ·refine cS (fun _=>((0:Int),([]:List Int))) 0 rfl fun I μ k hk _ go=>?_
  dsimp only
  simp only[reduceCtorEq,false_implies,true_implies,forall_const,and_true,true_and,implies_true,lU]
  (repeat' first|intro _|(refine go _ ?_ ?_ ?_)|(refine go _ ?_ ?_)|(with_reducible apply And.intro))
  all_goals first|omega|(unfold nT;rw[if_neg (by rw[h];exact Bool.false_ne_true)])
 ·have hl:=(cP a).1 h
  rw[show nT a=_ from if_pos h]
  refine cS (fun k=>((k:Int),mp k fun i=>aJ0 (a.getD i 0))) a.length rfl fun I μ k hk _ go=>?_
  dsimp only
  simp only[reduceCtorEq,false_implies,true_implies,forall_const,and_true,true_and,implies_true,lU,fJ]
  (repeat' first|intro _|(refine go _ ?_ ?_ ?_)|(refine go _ ?_ ?_)|(with_reducible apply And.intro))
  all_goals first|omega|(unfold maxLen;omega)|(rw[fU];rfl)|(have e:k=a.length:=(by omega);subst e;rfl)
theorem aT8:Con.Holds Tryz.prog pK:=aR aW (aG fD (aG bGW aS)) aTP aUI
def oW:Con:=⟨303,aI,aB,[.val ⟨false,aB,[]⟩,.val ⟨false,aB,[]⟩],[⟨false,aB,[2]⟩],false,none,
 ((fun _=>True):(bW)→Prop),
 ((fun x=>nL x.1 x.2):(bW)→(List Int))⟩
def aBN:T:=.loop aF (.bME tI aB (.ci .i64 0) (.nl 3 tI)) <|
 .bMD (.bMG 3 tI) (.p1 aB aB (.Z 0)) <|
 .bMD (.cmp .lss .i64) (.bME tI tI (.p1 tI aB (.Z 1)) (.Z 2)) <|
 .ite (.Z 3) (
  .call 0 (.Z 0) <|
  .ite (.Z 4) (
   .bMD (.bMH 3 tI) (.bME aB tI (.p1 aB aB (.Z 0)) (.p1 tI aB (.Z 1))) <|
   .bMD (.cmp .gtr .i64) (.bME tI tI (.Z 5) (.ci .i64 0)) <|
   .ite (.Z 6) (
    .bMD (.bMH 3 tI) (.bME aB tI (aQ aI 1 (.Z 0)) (.p1 tI aB (.Z 1))) <|
    .bMD (.lit 3 tI 1) (.Z 7) <|
    .bMD (.bMJ 3 tI 8) (.bME aB aB (aQ aF 1 (.Z 1)) (.Z 8)) <|
    .bMD (.ar .add .i64) (.bME tI tI (.p1 tI aB (.Z 1)) (.ci .i64 1)) <|
    .bMF 0 (.bME tI aB (.Z 10) (.Z 9))) (
    .bMD (.lit 3 tI 1) (.ci .i64 0) <|
    .bMD (.bMJ 3 tI 8) (.bME aB aB (aQ aF 1 (.Z 1)) (.Z 7)) <|
    .bMD (.ar .add .i64) (.bME tI tI (.p1 tI aB (.Z 1)) (.ci .i64 1)) <|
    .bMF 0 (.bME tI aB (.Z 9) (.Z 8)))) (
   .ret (aQ aF 1 (.Z 1)))) (
  .ret (aQ aF 1 (.Z 1)))
theorem aU3:bL Tryz.prog [eX] oW false 3000 ⟨[(2991,1001,[.dr 7,.tm 6 0,.on 5,.sl 1])],[]⟩ = .ok aBN:=by kernel_rfl
theorem aS9 (x:bW) (hx:okD aI x) (hp:(fun _=>True) x):aBN.wp [eX] [⟨aI,x⟩] [] (fun v=>v.as aB=(fun x=>nL x.1 x.2) x):=by
 obtain ⟨a,b⟩:=x
 delta aBN eX;refine dD ?_
 simp only[bAB]
 cases h:oA a b
 ·refine cS (fun _=>((0:Int),([]:List Int))) 0 rfl fun I μ k hk _ go=>?_
  dsimp only
  simp only[reduceCtorEq,false_implies,true_implies,forall_const,and_true,true_and,implies_true,lU]
  (repeat' first|intro _|(refine go _ ?_ ?_ ?_)|(refine go _ ?_ ?_)|(with_reducible apply And.intro))
  all_goals first|omega|(unfold nL;rw[if_neg (by rw[h];exact Bool.false_ne_true)])
 ·have hl:=kG h
  rw[show nL a b=_ from if_pos h]
  refine cS (fun k=>((k:Int),mp k fun i=>if 0<a.getD i 0 then b.getD i 0 else 0)) a.length rfl fun I μ k hk _ go=>?_
  dsimp only
  simp only[reduceCtorEq,false_implies,true_implies,forall_const,and_true,true_and,implies_true,lU,fJ]
  have e1:0<a.getD k 0→b.getD k 0=if 0<a.getD k 0 then b.getD k 0 else 0:=fun h=>(if_pos h).symm
  have e2:a.getD k 0≤0→0=if 0<a.getD k 0 then b.getD k 0 else 0:=fun h=>(if_neg (by omega)).symm
  (repeat' first|intro _|(refine go _ ?_ ?_ ?_)|(refine go _ ?_ ?_)|(with_reducible apply And.intro))
  all_goals first|omega|(unfold maxLen;omega)|(rw[fU];first|exact Prod.ext rfl (congrArg (mp k _++[·]) (e1 (by assumption)))|exact Prod.ext rfl (congrArg (mp k _++[·]) (e2 (by assumption))))|(have e:k=a.length:=(by omega);subst e;rfl)
theorem aS5:Con.Holds Tryz.prog oW:=aR aW (aG xG aS) aU3 aS9
end
end Go.Proofs.YtiihghfoeinbbaaGreat
