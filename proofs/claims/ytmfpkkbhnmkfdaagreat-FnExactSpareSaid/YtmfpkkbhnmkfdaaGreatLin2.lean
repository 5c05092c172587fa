/- Lin2: lemmas. No conditions. -/
import Derived.Test.YtmfpkkbhnmkfdaaGreatStage3
namespace Go.Proofs.YtmfpkkbhnmkfdaaGreat
noncomputable section
set_option maxRecDepth 100000
open Go.ChangeShapes Go.WideShapes Go.ChangeAt Go.RowKit Go.Deep
set_option linter.unusedVariables false
set_option linter.unusedSimpArgs false
def aNG (P:Nat→Prop):Nat→Nat
 | 0=>0
 | n+1=>@ite _ (P (n+1)) (Classical.propDecidable _) (n+1) (aNG P n)
theorem aSC (P:Nat→Prop):(n:Nat)→aNG P n≤n
 | 0=>Nat.le_refl _
 | n+1=>by
  unfold aNG;split
  ·exact Nat.le_refl _
  ·exact Nat.le_succ_of_le (aSC P n)
theorem bCR (P:Nat→Prop):(n k:Nat)→k≤n→P k→k≤aNG P n
 | 0,k,h,_=>h
 | n+1,k,h,hp=>by
  unfold aNG;split
  ·exact h
  ·rename_i hn
   rcases Nat.lt_or_eq_of_le h with h'|rfl
   ·exact bCR P n k (Nat.le_of_lt_succ h') hp
   ·exact absurd hp hn
theorem bCK (P : Nat → Prop) : (n k : Nat) → k ≤ n → P k → P (aNG P n)
  | 0, k, h, hp => by have : k = 0 := by omega
                      subst this; exact hp
  | n + 1, k, h, hp => by
    unfold aNG; split
    · assumption
    · rename_i hn
      rcases Nat.lt_or_eq_of_le h with h' | rfl
      · exact bCK P n k (Nat.le_of_lt_succ h') hp
      · exact absurd hp hn
theorem rL {α:Type} {ok:α→Prop} {s0:α} {B:(α→Prop)→(α→Nat)→α→Prop} (F:Nat→α) (G:Nat→Prop) (n:Nat) (h0:s0=F 0) (g0:G 0)
  (hs:∀ (I:α→Prop) (μ:α→Nat) (k:Nat),k≤n→G k→ok (F k)→(∀ y,k<n→G (k+1)→y=F (k+1)→I y∧μ y<μ (F k))→B I μ (F k)) :
  ∃ (I:α→Prop) (μ:α→Nat),I s0∧∀ x,ok x→I x→B I μ x:=by
 refine ⟨fun x=>∃ k,k≤n∧(x=F k∧G k),fun x=>n - aNG (fun k=>x=F k∧G k) n,⟨0,Nat.zero_le _,h0,g0⟩,fun x hok hI=>?_⟩
 obtain ⟨j,hj,hx⟩:=hI
 have e:=bCK (fun k=>x=F k∧G k) n j hj hx
 have l:=aSC (fun k=>x=F k∧G k) n
 generalize hk:aNG (fun k=>x=F k∧G k) n=k at e l
 obtain ⟨e1,e2⟩:=e
 subst e1
 refine hs _ _ k l e2 hok fun y hkn hg hy=>⟨⟨k+1,hkn,hy,hg⟩,?_⟩
 have h1:=bCR (fun k=>y=F k∧G k) n (k+1) hkn ⟨hy,hg⟩
 have h2:=aSC (fun k=>y=F k∧G k) n
 show n - aNG (fun k=>y=F k∧G k) n<n - aNG (fun k'=>F k=F k'∧G k') n
 rw[hk]
 omega
theorem cJ {α:Type} {ok:α→Prop} {s0:α} {B:(α→Prop)→(α→Nat)→α→Prop} (F:Nat→α) (n:Nat) (h0:s0=F 0)
  (hs:∀ (I:α→Prop) (μ:α→Nat) (k:Nat),k≤n→ok (F k)→(∀ y,k<n→y=F (k+1)→I y∧μ y<μ (F k))→B I μ (F k)) :
  ∃ (I:α→Prop) (μ:α→Nat),I s0∧∀ x,ok x→I x→B I μ x :=
 rL F (fun _=>True) n h0 trivial fun I μ k hk _ hok go=>hs I μ k hk hok fun y h1 h2=>go y h1 trivial h2
def mp {α:Type} (n:Nat) (g:Nat→α):List α:=(List.range n).map g
def an (n:Nat) (h:Nat→Bool):Bool:=(List.range n).any h
theorem aQP {α:Type} (g:Nat→α):mp 0 g=[]:=rfl
theorem bD2 (h:Nat→Bool):an 0 h=false:=rfl
theorem fN {α:Type} (n:Nat) (g:Nat→α):mp (n+1) g=mp n g++[g n]:=by unfold mp;rw[List.range_succ,List.map_append];rfl
theorem mN (n:Nat) (h:Nat→Bool):an (n+1) h=(an n h || h n):=by unfold an;rw[List.range_succ,List.any_append];simp
theorem eM {α:Type} (n:Nat) (g:Nat→α):(mp n g).length=n:=by unfold mp;simp
theorem bMN {α:Type} {n:Nat} {g h:Nat→α} (e:∀ i,i<n→g i=h i):mp n g=mp n h:=List.map_congr_left fun i hi=>e i (List.mem_range.1 hi)
theorem bMP {n:Nat} {g h:Nat→Bool} (e:∀ i,i<n→g i=h i):an n g=an n h:=by
 rw[Bool.eq_iff_iff];unfold an;simp only[List.any_eq_true,List.mem_range]
 exact ⟨fun ⟨i,h1,h2⟩=>⟨i,h1,by rw[← e i h1];exact h2⟩,fun ⟨i,h1,h2⟩=>⟨i,h1,by rw[e i h1];exact h2⟩⟩
theorem jC {a b:Bool} (h:a=true):true=(a || b):=by rw[h];rfl
theorem mR {a b:Bool} (h:a=false):b=(a || b):=by rw[h];rfl
theorem bNP {a b c:Bool} (h:a=true):true=((a || b) || c):=by rw[h];rfl
theorem bNC {a b c:Bool} (h:a=false) (h2:b=true):true=((a || b) || c):=by rw[h,h2];rfl
theorem bNK {a b c:Bool} (h:a=false) (h2:b=false):c=((a || b) || c):=by rw[h,h2];rfl
def fA (a b:Int):Int × Bool:=aLS (eT a - eT b)
def fS (a b:Int):Int × Bool:=aLS ((eT a * eT b).fdiv 65536)
def aL9 (x:Int):Int:=max 0 (eT x)
theorem bP4 {x y:Int} (h1:-2147483647≤x∧x≤2147483647) (h2:-2147483647≤y∧y≤2147483647):-4611686014132420609≤x * y∧x * y≤4611686014132420609:=by
 have h:(x * y).natAbs≤2147483647 * 2147483647:=by
  rw[Int.natAbs_mul];exact Nat.mul_le_mul (by omega) (by omega)
 omega
theorem bOX {a:Int} (h:-9223372036854775808≤a∧a≤9223372036854775807):-140737488355328≤a.tdiv 65536∧a.tdiv 65536≤140737488355328:=by
 rcases Int.le_total 0 a with h1|h1
 ·rw[Int.tdiv_eq_ediv_of_nonneg h1];omega
 ·have e1:a.tdiv 65536 = -((-a) / 65536):=by
   rw[← Int.neg_neg a,Int.neg_tdiv,Int.tdiv_eq_ediv_of_nonneg (by omega),Int.neg_neg]
  omega
theorem bKZ (x:Int):x.fdiv 65536=(if x.tmod 65536≠0∧x<0 then x.tdiv 65536 - 1 else x.tdiv 65536):=by
 rw[Int.fdiv_eq_ediv_of_nonneg _ (by decide)]
 rcases Int.le_total 0 x with h|h
 ·rw[Int.tdiv_eq_ediv_of_nonneg h,if_neg (by omega)]
 ·have e1:x.tdiv 65536 = -((-x) / 65536):=by
   rw[← Int.neg_neg x,Int.neg_tdiv,Int.tdiv_eq_ediv_of_nonneg (by omega),Int.neg_neg]
  have e2:x.tmod 65536 = -((-x) % 65536):=by
   rw[← Int.neg_neg x,Int.neg_tmod,Int.tmod_eq_emod_of_nonneg (by omega),Int.neg_neg]
  rw[e1,e2]
  split <;> omega
def oY (a b:List Int):Bool:=iZ a&&fB b (a.length:Int)
def vz (f:Int→Int→Int × Bool) (a b:List Int) (n:Nat):List Int × Bool:=(mp n fun i=>(f (a.getD i 0) (b.getD i 0)).1,an n fun i=>(f (a.getD i 0) (b.getD i 0)).2)
def lH (f:Int→Int→Int × Bool) (a b:List Int):List Int × Bool:=if oY a b=true then vz f a b a.length else ([],false)
def sY (c:Int) (a:List Int):List Int × Bool:=if oL c=true∧iZ a=true then (mp a.length fun i=>(fS c (a.getD i 0)).1,an a.length fun i=>(fS c (a.getD i 0)).2) else ([],false)
def aHC (a b:List Int):Nat→Int × Bool
 | 0=>(0,false)
 | k+1=>((dR (aHC a b k).1 (fS (a.getD k 0) (b.getD k 0)).1).1,(aHC a b k).2 || (fS (a.getD k 0) (b.getD k 0)).2 || (dR (aHC a b k).1 (fS (a.getD k 0) (b.getD k 0)).1).2)
def gD (a b:List Int):Int × Bool:=if oY a b=true then aHC a b a.length else (0,false)
def oE (a:List Int):List Int:=if iZ a=true then mp a.length fun i=>aL9 (a.getD i 0) else []
def oK (x d:List Int):List Int:=if oY x d=true then mp x.length fun i=>if 0<x.getD i 0 then d.getD i 0 else 0 else []
theorem bGI (a b:List Int):oY a b=true↔iZ a=true∧fB b (a.length:Int)=true:=by unfold oY;rw[Bool.and_eq_true]
theorem lB {a b:List Int} (h:oY a b=true):a.length≤6∧b.length=a.length:=by
 obtain ⟨h1,h2⟩:=(bGI a b).1 h
 have:=(cT a).1 h1
 have:=(cI _ _).1 h2
 omega
theorem aJF {f:Int→Int→Int × Bool} {a b:List Int} (h:oY a b=false):([],false)=lH f a b:=by unfold lH;rw[if_neg (by rw[h];exact Bool.false_ne_true)]
theorem aGK {f:Int→Int→Int × Bool} {a b:List Int} (h:oY a b=true):lH f a b=vz f a b a.length:=if_pos h
theorem aPU (a b:List Int) (k:Nat):aHC a b (k+1)=((dR (aHC a b k).1 (fS (a.getD k 0) (b.getD k 0)).1).1,(aHC a b k).2 || (fS (a.getD k 0) (b.getD k 0)).2 || (dR (aHC a b k).1 (fS (a.getD k 0) (b.getD k 0)).1).2):=rfl
theorem bC4 (a b:List Int):(iZ a&&(iZ b&&decide (a.length=b.length)))=oY a b:=by
 unfold oY fB
 congr 2
 rw[Bool.eq_iff_iff,decide_eq_true_eq,decide_eq_true_eq];omega
def tC:Con:=⟨289,aP,(.bP9 tI .bool),[.val ⟨false,tI,[]⟩,.val ⟨false,tI,[]⟩],[⟨false,tI,[0]⟩,⟨false,.bool,[0]⟩],false,none,
 ((fun _=>True):(Int × Int)→Prop),
 ((fun x=>fA x.1 x.2):(Int × Int)→(Int × Bool))⟩
def aEP:T:=.call 0 (.p1 tI tI (.Z 0)) <|.call 0 (aQ aP 1 (.Z 0)) <|
 .bPA (.ar .sub .i64) (.bPB tI tI (.Z 1) (.Z 2)) <|
 .call 1 (.Z 3) <|
 .ret (.Z 4)
theorem aYG:bN Tryz.prog [eZ,iO] tC false 3000 ⟨[],[]⟩ = .ok aEP:=by kernel_rfl
theorem aYI (x:Int × Int) (hx:okD aP x) (hp:(fun _=>True) x):aEP.wp [eZ,iO] [⟨aP,x⟩] [] (fun v=>v.as (.bP9 tI .bool)=(fun x=>fA x.1 x.2) x):=by
 delta aEP eZ iO;refine dD ?_
 intro _ _
 have h1:=kT x.1
 have h2:=kT x.2
 exact ⟨by omega,fun _ _=>rfl⟩
theorem aZO:Con.Holds Tryz.prog tC:=aS aV (aH xZ (aH aE6 aT)) aYG aYI
def iW:Con:=⟨320,aP,(.bP9 tI .bool),[.val ⟨false,tI,[]⟩,.val ⟨false,tI,[]⟩],[⟨false,tI,[0]⟩,⟨false,.bool,[0]⟩],false,none,
 ((fun _=>True):(Int × Int)→Prop),
 ((fun x=>fS x.1 x.2):(Int × Int)→(Int × Bool))⟩
def aF3:T:=.call 0 (.p1 tI tI (.Z 0)) <|.call 0 (aQ aP 1 (.Z 0)) <|
 .bPA (.ar .mul .i64) (.bPB tI tI (.Z 1) (.Z 2)) <|
 .bPA (.shr .i64 .u64) (.bPB tI (.int .u64) (.Z 3) (.ci .u64 16)) <|
 .call 1 (.Z 4) <|
 .ret (.Z 5)
theorem aYL:bN Tryz.prog [eZ,iO] iW false 3000 ⟨[],[]⟩ = .ok aF3:=by kernel_rfl
theorem bBY (x:Int × Int) (hx:okD aP x) (hp:(fun _=>True) x):aF3.wp [eZ,iO] [⟨aP,x⟩] [] (fun v=>v.as (.bP9 tI .bool)=(fun x=>fS x.1 x.2) x):=by
 delta aF3 eZ iO;refine dD ?_
 have h:=bP4 (kT x.1) (kT x.2)
 exact fun _ _=>⟨by omega,fun _=>⟨by omega,fun _ _=>rfl⟩⟩
theorem aE7:Con.Holds Tryz.prog iW:=aS aV (aH xZ (aH aE6 aT)) aYL bBY
def aBU:Con:=⟨330,tI,tI,[.val ⟨false,tI,[]⟩],[⟨false,tI,[0]⟩],false,none,
 ((fun _=>True):(Int)→Prop),
 ((fun x=>aL9 x):(Int)→(Int))⟩
def aMS:T:=.call 0 (.Z 0) <|
 .bPA (.mx .i64) (.bPB tI tI (.ci .i64 0) (.Z 1)) <|
 .ret (.Z 2)
theorem bHR:bN Tryz.prog [eZ] aBU false 3000 ⟨[],[]⟩ = .ok aMS:=by kernel_rfl
theorem bJY (x:Int) (hx:okD tI x) (hp:(fun _=>True) x):aMS.wp [eZ] [⟨tI,x⟩] [] (fun v=>v.as tI=(fun x=>aL9 x) x):=by
 delta aMS eZ;refine dD ?_
 exact fun _ _=>rfl
theorem bJL:Con.Holds Tryz.prog aBU:=aS aV (aH xZ aT) bHR bJY
def fL:Con:=⟨288,aI,.bool,[.val ⟨false,aB,[]⟩,.val ⟨false,aB,[]⟩],[⟨false,.bool,[0]⟩],false,none,
 ((fun _=>True):(bP)→Prop),
 ((fun x=>oY x.1 x.2):(bP)→(Bool))⟩
def aDX:T:=.call 0 (.p1 aB aB (.Z 0)) <|.ite (.Z 1) (
 .bPA (.bPD 3 tI) (.p1 aB aB (.Z 0)) <|
 .call 1 (.bPB aB tI (aQ aI 1 (.Z 0)) (.Z 2)) <|
 .ret (.Z 3)) (
 .ret (.cb false))
theorem bBC:bN Tryz.prog [dF,cA] fL false 3000 ⟨[],[]⟩ = .ok aDX:=by kernel_rfl
theorem aYC (x:bP) (hx:okD aI x) (hp:(fun _=>True) x):aDX.wp [dF,cA] [⟨aI,x⟩] [] (fun v=>v.as .bool=(fun x=>oY x.1 x.2) x):=by
 delta aDX dF cA;refine dD ?_
 refine ⟨fun h _=>?_,fun h=>?_⟩
 ·unfold oY;rw[h,Bool.true_and]
 ·unfold oY;rw[h,Bool.false_and]
theorem zC:Con.Holds Tryz.prog fL:=aS aV (aH pJ (aH kB aT)) bBC aYC
def lX:Con:=⟨317,aI,(.bP9 aB .bool),[.val ⟨false,aB,[]⟩,.val ⟨false,aB,[]⟩],[⟨false,aB,[2]⟩,⟨false,.bool,[0]⟩],false,none,
 ((fun _=>True):(bP)→Prop),
 ((fun x=>lH dR x.1 x.2):(bP)→(cF × Bool))⟩
def aEO:T:=.call 0 (.Z 0) <|
 .bPA .not (.Z 1) <|
 .ite (.Z 2) (
  .ret (.bPB aB .bool (.nl 3 tI) (.cb false))) (
  .bPA (.bPD 3 tI) (.p1 aB aB (.Z 0)) <|
  .loop (.bP9 tI (.bP9 .bool aB)) (bG (.bP9 tI (.bP9 .bool aB)) [(.ci .i64 0),(.cb false),(.nl 3 tI)]) <|
   .bPA (.cmp .lss .i64) (.bPB tI tI (.p1 tI (.bP9 .bool aB) (.Z 4)) (.Z 3)) <|
   .ite (.Z 5) (
    .bPA (.bPE 3 tI) (.bPB aB tI (.p1 aB aB (.Z 0)) (.p1 tI (.bP9 .bool aB) (.Z 4))) <|
    .bPA (.bPE 3 tI) (.bPB aB tI (aQ aI 1 (.Z 0)) (.p1 tI (.bP9 .bool aB) (.Z 4))) <|
    .call 1 (.bPB tI tI (.Z 6) (.Z 7)) <|
    .bPA (.lit 3 tI 1) (.p1 tI .bool (.Z 8)) <|
    .bPA (.bPG 3 tI 8) (.bPB aB aB (aQ (.bP9 tI (.bP9 .bool aB)) 2 (.Z 4)) (.Z 9)) <|
    .ite (aK (.bP9 tI (.bP9 .bool aB)) 1 (.Z 4)) (
     .bPA (.ar .add .i64) (.bPB tI tI (.p1 tI (.bP9 .bool aB) (.Z 4)) (.ci .i64 1)) <|
     .bPC 0 (bG (.bP9 tI (.bP9 .bool aB)) [(.Z 11),(.cb true),(.Z 10)])) (
     .bPA (.ar .add .i64) (.bPB tI tI (.p1 tI (.bP9 .bool aB) (.Z 4)) (.ci .i64 1)) <|
     .bPC 0 (bG (.bP9 tI (.bP9 .bool aB)) [(.Z 11),(aQ (.bP9 tI .bool) 1 (.Z 8)),(.Z 10)]))) (
    .ret (.bPB aB .bool (aQ (.bP9 tI (.bP9 .bool aB)) 2 (.Z 4)) (aK (.bP9 tI (.bP9 .bool aB)) 1 (.Z 4)))))
theorem bB6:bN Tryz.prog [fL,fK] lX false 3000 ⟨[(2984,2004,iL 16 11++[.tm 18 0,.tm 7 0,.on 6,.sl 1])],[]⟩ = .ok aEO:=by kernel_rfl
theorem aY7 (x:bP) (hx:okD aI x) (hp:(fun _=>True) x):aEO.wp [fL,fK] [⟨aI,x⟩] [] (fun v=>v.as (.bP9 aB .bool)=(fun x=>lH dR x.1 x.2) x):=by
 obtain ⟨a,b⟩:=x
 delta aEO fL fK;refine dD ?_
 simp only[Bool.not_eq_true',Bool.not_eq_false']
 refine ⟨aJF,fun h _=>?_⟩
 have hl:=lB h
 rw[aGK h]
 refine cJ (fun k=>((k:Int),an k (fun i=>(dR (a.getD i 0) (b.getD i 0)).2),mp k fun i=>(dR (a.getD i 0) (b.getD i 0)).1)) a.length rfl fun I μ k hk _ go=>?_
 dsimp only
 simp only[mP,eM]
 (repeat' first|intro _|(refine go _ ?_ ?_ ?_)|(refine go _ ?_ ?_)|(with_reducible apply And.intro))
 all_goals first|omega|(unfold maxLen;omega)|(rw[fN,mN];first|exact Prod.ext rfl (Prod.ext (jC (by assumption)) rfl)|exact Prod.ext rfl (Prod.ext (mR (by assumption)) rfl))|(have e:k=a.length:=(by omega);subst e;rfl)
theorem aMI:Con.Holds Tryz.prog lX:=aS aV (aH zC (aH zK aT)) bB6 aY7
def lZ:Con:=⟨217,aI,(.bP9 aB .bool),[.val ⟨false,aB,[]⟩,.val ⟨false,aB,[]⟩],[⟨false,aB,[2]⟩,⟨false,.bool,[0]⟩],false,none,
 ((fun _=>True):(bP)→Prop),
 ((fun x=>lH fA x.1 x.2):(bP)→(cF × Bool))⟩
def aEZ:T:=.call 0 (.Z 0) <|
 .bPA .not (.Z 1) <|
 .ite (.Z 2) (
  .ret (.bPB aB .bool (.nl 3 tI) (.cb false))) (
  .bPA (.bPD 3 tI) (.p1 aB aB (.Z 0)) <|
  .loop (.bP9 tI (.bP9 .bool aB)) (bG (.bP9 tI (.bP9 .bool aB)) [(.ci .i64 0),(.cb false),(.nl 3 tI)]) <|
   .bPA (.cmp .lss .i64) (.bPB tI tI (.p1 tI (.bP9 .bool aB) (.Z 4)) (.Z 3)) <|
   .ite (.Z 5) (
    .bPA (.bPE 3 tI) (.bPB aB tI (.p1 aB aB (.Z 0)) (.p1 tI (.bP9 .bool aB) (.Z 4))) <|
    .bPA (.bPE 3 tI) (.bPB aB tI (aQ aI 1 (.Z 0)) (.p1 tI (.bP9 .bool aB) (.Z 4))) <|
    .call 1 (.bPB tI tI (.Z 6) (.Z 7)) <|
    .bPA (.lit 3 tI 1) (.p1 tI .bool (.Z 8)) <|
    .bPA (.bPG 3 tI 8) (.bPB aB aB (aQ (.bP9 tI (.bP9 .bool aB)) 2 (.Z 4)) (.Z 9)) <|
    .ite (aK (.bP9 tI (.bP9 .bool aB)) 1 (.Z 4)) (
     .bPA (.ar .add .i64) (.bPB tI tI (.p1 tI (.bP9 .bool aB) (.Z 4)) (.ci .i64 1)) <|
     .bPC 0 (bG (.bP9 tI (.bP9 .bool aB)) [(.Z 11),(.cb true),(.Z 10)])) (
     .bPA (.ar .add .i64) (.bPB tI tI (.p1 tI (.bP9 .bool aB) (.Z 4)) (.ci .i64 1)) <|
     .bPC 0 (bG (.bP9 tI (.bP9 .bool aB)) [(.Z 11),(aQ (.bP9 tI .bool) 1 (.Z 8)),(.Z 10)]))) (
    .ret (.bPB aB .bool (aQ (.bP9 tI (.bP9 .bool aB)) 2 (.Z 4)) (aK (.bP9 tI (.bP9 .bool aB)) 1 (.Z 4)))))
theorem bA1:bN Tryz.prog [fL,tC] lZ false 3000 ⟨[(2984,2004,iL 16 11++[.tm 18 0,.tm 7 0,.on 6,.sl 1])],[]⟩ = .ok aEZ:=by kernel_rfl
theorem aY1 (x:bP) (hx:okD aI x) (hp:(fun _=>True) x):aEZ.wp [fL,tC] [⟨aI,x⟩] [] (fun v=>v.as (.bP9 aB .bool)=(fun x=>lH fA x.1 x.2) x):=by
 obtain ⟨a,b⟩:=x
 delta aEZ fL tC;refine dD ?_
 simp only[Bool.not_eq_true',Bool.not_eq_false']
 refine ⟨aJF,fun h _=>?_⟩
 have hl:=lB h
 rw[aGK h]
 refine cJ (fun k=>((k:Int),an k (fun i=>(fA (a.getD i 0) (b.getD i 0)).2),mp k fun i=>(fA (a.getD i 0) (b.getD i 0)).1)) a.length rfl fun I μ k hk _ go=>?_
 dsimp only
 simp only[mP,eM]
 (repeat' first|intro _|(refine go _ ?_ ?_ ?_)|(refine go _ ?_ ?_)|(with_reducible apply And.intro))
 all_goals first|omega|(unfold maxLen;omega)|(rw[fN,mN];first|exact Prod.ext rfl (Prod.ext (jC (by assumption)) rfl)|exact Prod.ext rfl (Prod.ext (mR (by assumption)) rfl))|(have e:k=a.length:=(by omega);subst e;rfl)
theorem aMQ:Con.Holds Tryz.prog lZ:=aS aV (aH zC (aH aZO aT)) bA1 aY1
def jH:Con:=⟨318,aF,(.bP9 aB .bool),[.val ⟨false,tI,[]⟩,.val ⟨false,aB,[]⟩],[⟨false,aB,[2]⟩,⟨false,.bool,[0]⟩],false,none,
 ((fun _=>True):(cM)→Prop),
 ((fun x=>sY x.1 x.2):(cM)→(cF × Bool))⟩
def yO:T:=.call 0 (.p1 tI aB (.Z 0)) <|
 .bPA .not (.Z 1) <|
 .ite (.Z 2) (
  .ret (.bPB aB .bool (.nl 3 tI) (.cb false))) (
  .call 1 (aQ aF 1 (.Z 0)) <|
  .bPA .not (.Z 3) <|
  .ite (.Z 4) (
   .ret (.bPB aB .bool (.nl 3 tI) (.cb false))) (
   .bPA (.bPD 3 tI) (aQ aF 1 (.Z 0)) <|
   .loop (.bP9 tI (.bP9 .bool aB)) (bG (.bP9 tI (.bP9 .bool aB)) [(.ci .i64 0),(.cb false),(.nl 3 tI)]) <|
    .bPA (.cmp .lss .i64) (.bPB tI tI (.p1 tI (.bP9 .bool aB) (.Z 6)) (.Z 5)) <|
    .ite (.Z 7) (
     .bPA (.bPE 3 tI) (.bPB aB tI (aQ aF 1 (.Z 0)) (.p1 tI (.bP9 .bool aB) (.Z 6))) <|
     .call 2 (.bPB tI tI (.p1 tI aB (.Z 0)) (.Z 8)) <|
     .bPA (.lit 3 tI 1) (.p1 tI .bool (.Z 9)) <|
     .bPA (.bPG 3 tI 8) (.bPB aB aB (aQ (.bP9 tI (.bP9 .bool aB)) 2 (.Z 6)) (.Z 10)) <|
     .ite (aK (.bP9 tI (.bP9 .bool aB)) 1 (.Z 6)) (
      .bPA (.ar .add .i64) (.bPB tI tI (.p1 tI (.bP9 .bool aB) (.Z 6)) (.ci .i64 1)) <|
      .bPC 0 (bG (.bP9 tI (.bP9 .bool aB)) [(.Z 12),(.cb true),(.Z 11)])) (
      .bPA (.ar .add .i64) (.bPB tI tI (.p1 tI (.bP9 .bool aB) (.Z 6)) (.ci .i64 1)) <|
      .bPC 0 (bG (.bP9 tI (.bP9 .bool aB)) [(.Z 12),(aQ (.bP9 tI .bool) 1 (.Z 9)),(.Z 11)]))) (
     .ret (.bPB aB .bool (aQ (.bP9 tI (.bP9 .bool aB)) 2 (.Z 6)) (aK (.bP9 tI (.bP9 .bool aB)) 1 (.Z 6))))))
theorem aR4:bN Tryz.prog [jY,dF,iW] jH false 3000 ⟨[(2984,4006,iL 20 11++[.tm 22 0,.tm 7 0,.on 6,.sl 1])],[]⟩ = .ok yO:=by kernel_rfl
theorem aSU (x:cM) (hx:okD aF x) (hp:(fun _=>True) x):yO.wp [jY,dF,iW] [⟨aF,x⟩] [] (fun v=>v.as (.bP9 aB .bool)=(fun x=>sY x.1 x.2) x):=by
 obtain ⟨c,a⟩:=x
 delta yO jY dF iW;refine dD ?_
 simp only[Bool.not_eq_true',Bool.not_eq_false']
 refine ⟨fun h=>?_,fun h1=>⟨fun h=>?_,fun h2 _=>?_⟩⟩
 ·unfold sY;rw[if_neg (by rw[h];simp)]
 ·unfold sY;rw[if_neg (by rw[h];simp)]
 have hl:=(cT a).1 h2
 rw[show sY c a=_ from if_pos ⟨h1,h2⟩]
 refine cJ (fun k=>((k:Int),an k (fun i=>(fS c (a.getD i 0)).2),mp k fun i=>(fS c (a.getD i 0)).1)) a.length rfl fun I μ k hk _ go=>?_
 dsimp only
 simp only[mP,eM]
 (repeat' first|intro _|(refine go _ ?_ ?_ ?_)|(refine go _ ?_ ?_)|(with_reducible apply And.intro))
 all_goals first|omega|(unfold maxLen;omega)|(rw[fN,mN];first|exact Prod.ext rfl (Prod.ext (jC (by assumption)) rfl)|exact Prod.ext rfl (Prod.ext (mR (by assumption)) rfl))|(have e:k=a.length:=(by omega);subst e;rfl)
theorem aGB:Con.Holds Tryz.prog jH:=aS aV (aH aI4 (aH pJ (aH aE7 aT))) aR4 aSU
def iU:Con:=⟨285,aI,(.bP9 tI .bool),[.val ⟨false,aB,[]⟩,.val ⟨false,aB,[]⟩],[⟨false,tI,[0]⟩,⟨false,.bool,[0]⟩],false,none,
 ((fun _=>True):(bP)→Prop),
 ((fun x=>gD x.1 x.2):(bP)→(Int × Bool))⟩
def aEW:T:=.call 0 (.Z 0) <|
 .bPA .not (.Z 1) <|
 .ite (.Z 2) (
  .ret (.bPB tI .bool (.ci .i64 0) (.cb false))) (
  .bPA (.bPD 3 tI) (.p1 aB aB (.Z 0)) <|
  .loop (.bP9 tI (.bP9 .bool tI)) (bG (.bP9 tI (.bP9 .bool tI)) [(.ci .i64 0),(.cb false),(.ci .i64 0)]) <|
   .bPA (.cmp .lss .i64) (.bPB tI tI (.p1 tI (.bP9 .bool tI) (.Z 4)) (.Z 3)) <|
   .ite (.Z 5) (
    .bPA (.bPE 3 tI) (.bPB aB tI (.p1 aB aB (.Z 0)) (.p1 tI (.bP9 .bool tI) (.Z 4))) <|
    .bPA (.bPE 3 tI) (.bPB aB tI (aQ aI 1 (.Z 0)) (.p1 tI (.bP9 .bool tI) (.Z 4))) <|
    .call 1 (.bPB tI tI (.Z 6) (.Z 7)) <|
    .call 2 (.bPB tI tI (aQ (.bP9 tI (.bP9 .bool tI)) 2 (.Z 4)) (.p1 tI .bool (.Z 8))) <|
    .ite (aK (.bP9 tI (.bP9 .bool tI)) 1 (.Z 4)) (
     .bPA (.ar .add .i64) (.bPB tI tI (.p1 tI (.bP9 .bool tI) (.Z 4)) (.ci .i64 1)) <|
     .bPC 0 (bG (.bP9 tI (.bP9 .bool tI)) [(.Z 10),(.cb true),(.p1 tI .bool (.Z 9))])) (
     .ite (aQ (.bP9 tI .bool) 1 (.Z 8)) (
      .bPA (.ar .add .i64) (.bPB tI tI (.p1 tI (.bP9 .bool tI) (.Z 4)) (.ci .i64 1)) <|
      .bPC 0 (bG (.bP9 tI (.bP9 .bool tI)) [(.Z 10),(.cb true),(.p1 tI .bool (.Z 9))])) (
      .bPA (.ar .add .i64) (.bPB tI tI (.p1 tI (.bP9 .bool tI) (.Z 4)) (.ci .i64 1)) <|
      .bPC 0 (bG (.bP9 tI (.bP9 .bool tI)) [(.Z 10),(aQ (.bP9 tI .bool) 1 (.Z 9)),(.p1 tI .bool (.Z 9))])))) (
    .ret (.bPB tI .bool (aQ (.bP9 tI (.bP9 .bool tI)) 2 (.Z 4)) (aK (.bP9 tI (.bP9 .bool tI)) 1 (.Z 4)))))
theorem bAR:bN Tryz.prog [fL,iW,fK] iU false 3000 ⟨[(2984,2004,iL 17 13++[.tm 19 0,.tm 7 0,.tm 6 0])],[]⟩ = .ok aEW:=by kernel_rfl
theorem aYX (x:bP) (hx:okD aI x) (hp:(fun _=>True) x):aEW.wp [fL,iW,fK] [⟨aI,x⟩] [] (fun v=>v.as (.bP9 tI .bool)=(fun x=>gD x.1 x.2) x):=by
 obtain ⟨a,b⟩:=x
 delta aEW fL iW fK;refine dD ?_
 simp only[Bool.not_eq_true',Bool.not_eq_false']
 refine ⟨fun h=>by unfold gD;rw[if_neg (by rw[h];exact Bool.false_ne_true)],fun h _=>?_⟩
 have hl:=lB h
 rw[show gD a b=_ from if_pos h]
 refine cJ (fun k=>((k:Int),(aHC a b k).2,(aHC a b k).1)) a.length rfl fun I μ k hk _ go=>?_
 dsimp only
 (refine dM ?_;try with_reducible exact True.intro)
 (repeat' first|intro _|(refine go _ ?_ ?_ ?_)|(refine go _ ?_ ?_)|(with_reducible apply And.intro))
 all_goals first|omega|(rw[aPU];first|exact Prod.ext rfl (Prod.ext (bNP (by assumption)) rfl)|exact Prod.ext rfl (Prod.ext (bNC (by assumption) (by assumption)) rfl)|exact Prod.ext rfl (Prod.ext (bNK (by assumption) (by assumption)) rfl))|(have e:k=a.length:=(by omega);subst e;rfl)
theorem aFI:Con.Holds Tryz.prog iU:=aS aV (aH zC (aH aE7 (aH zK aT))) bAR aYX
def qQ:Con:=⟨319,aB,aB,[.val ⟨false,aB,[]⟩],[⟨false,aB,[2]⟩],false,none,
 ((fun _=>True):(List Int)→Prop),
 ((fun x=>oE x):(List Int)→(List Int))⟩
def aBL:T:=.call 0 (.Z 0) <|
 .bPA .not (.Z 1) <|
 .ite (.Z 2) (
  .ret (.nl 3 tI)) (
  .bPA (.bPD 3 tI) (.Z 0) <|
  .loop aF (.bPB tI aB (.ci .i64 0) (.nl 3 tI)) <|
   .bPA (.cmp .lss .i64) (.bPB tI tI (.p1 tI aB (.Z 4)) (.Z 3)) <|
   .ite (.Z 5) (
    .bPA (.bPE 3 tI) (.bPB aB tI (.Z 0) (.p1 tI aB (.Z 4))) <|
    .call 1 (.Z 6) <|
    .bPA (.lit 3 tI 1) (.Z 7) <|
    .bPA (.bPG 3 tI 8) (.bPB aB aB (aQ aF 1 (.Z 4)) (.Z 8)) <|
    .bPA (.ar .add .i64) (.bPB tI tI (.p1 tI aB (.Z 4)) (.ci .i64 1)) <|
    .bPC 0 (.bPB tI aB (.Z 10) (.Z 9))) (
    .ret (aQ aF 1 (.Z 4))))
theorem aTS:bN Tryz.prog [dF,aBU] qQ false 3000 ⟨[(2986,2004,iL 9 6++[.dr 0,.tm 12 0,.on 3,.sl 1])],[]⟩ = .ok aBL:=by kernel_rfl
theorem aXG (x:List Int) (hx:okD aB x) (hp:(fun _=>True) x):aBL.wp [dF,aBU] [⟨aB,x⟩] [] (fun v=>v.as aB=(fun x=>oE x) x):=by
 obtain ⟨a,rfl⟩:∃ a,a=x:=⟨_,rfl⟩
 delta aBL dF aBU;refine dD ?_
 simp only[Bool.not_eq_true',Bool.not_eq_false']
 refine ⟨fun h=>by unfold oE;rw[if_neg (by rw[h];exact Bool.false_ne_true)],fun h _=>?_⟩
 have hl:=(cT a).1 h
 rw[show oE a=_ from if_pos h]
 refine cJ (fun k=>((k:Int),mp k fun i=>aL9 (a.getD i 0))) a.length rfl fun I μ k hk _ go=>?_
 dsimp only
 simp only[mP,eM]
 (repeat' first|intro _|(refine go _ ?_ ?_ ?_)|(refine go _ ?_ ?_)|(with_reducible apply And.intro))
 all_goals first|omega|(unfold maxLen;omega)|(rw[fN];rfl)|(have e:k=a.length:=(by omega);subst e;rfl)
theorem aWC:Con.Holds Tryz.prog qQ:=aS aV (aH pJ (aH bJL aT)) aTS aXG
def qM:Con:=⟨323,aI,aB,[.val ⟨false,aB,[]⟩,.val ⟨false,aB,[]⟩],[⟨false,aB,[2]⟩],false,none,
 ((fun _=>True):(bP)→Prop),
 ((fun x=>oK x.1 x.2):(bP)→(List Int))⟩
def aAH:T:=.call 0 (.Z 0) <|
 .bPA .not (.Z 1) <|
 .ite (.Z 2) (
  .ret (.nl 3 tI)) (
  .bPA (.bPD 3 tI) (.p1 aB aB (.Z 0)) <|
  .loop aF (.bPB tI aB (.ci .i64 0) (.nl 3 tI)) <|
   .bPA (.cmp .lss .i64) (.bPB tI tI (.p1 tI aB (.Z 4)) (.Z 3)) <|
   .ite (.Z 5) (
    .bPA (.bPE 3 tI) (.bPB aB tI (.p1 aB aB (.Z 0)) (.p1 tI aB (.Z 4))) <|
    .bPA (.cmp .gtr .i64) (.bPB tI tI (.Z 6) (.ci .i64 0)) <|
    .ite (.Z 7) (
     .bPA (.bPE 3 tI) (.bPB aB tI (aQ aI 1 (.Z 0)) (.p1 tI aB (.Z 4))) <|
     .bPA (.lit 3 tI 1) (.Z 8) <|
     .bPA (.bPG 3 tI 8) (.bPB aB aB (aQ aF 1 (.Z 4)) (.Z 9)) <|
     .bPA (.ar .add .i64) (.bPB tI tI (.p1 tI aB (.Z 4)) (.ci .i64 1)) <|
     .bPC 0 (.bPB tI aB (.Z 11) (.Z 10))) (
     .bPA (.lit 3 tI 1) (.ci .i64 0) <|
     .bPA (.bPG 3 tI 8) (.bPB aB aB (aQ aF 1 (.Z 4)) (.Z 8)) <|
     .bPA (.ar .add .i64) (.bPB tI tI (.p1 tI aB (.Z 4)) (.ci .i64 1)) <|
     .bPC 0 (.bPB tI aB (.Z 10) (.Z 9)))) (
    .ret (aQ aF 1 (.Z 4))))
theorem aWH:bN Tryz.prog [fL] qM false 3000 ⟨[(2986,2004,iL 12 7++[.tm 14 0,.on 5,.sl 1])],[]⟩ = .ok aAH:=by kernel_rfl
theorem aU4 (x:bP) (hx:okD aI x) (hp:(fun _=>True) x):aAH.wp [fL] [⟨aI,x⟩] [] (fun v=>v.as aB=(fun x=>oK x.1 x.2) x):=by
 obtain ⟨a,b⟩:=x
 delta aAH fL;refine dD ?_
 simp only[Bool.not_eq_true',Bool.not_eq_false']
 refine ⟨fun h=>by unfold oK;rw[if_neg (by rw[h];exact Bool.false_ne_true)],fun h _=>?_⟩
 have hl:=lB h
 rw[show oK a b=_ from if_pos h]
 refine cJ (fun k=>((k:Int),mp k fun i=>if 0<a.getD i 0 then b.getD i 0 else 0)) a.length rfl fun I μ k hk _ go=>?_
 dsimp only
 simp only[mP,eM]
 have e1:0<a.getD k 0→b.getD k 0=if 0<a.getD k 0 then b.getD k 0 else 0:=fun h=>(if_pos h).symm
 have e2:a.getD k 0≤0→0=if 0<a.getD k 0 then b.getD k 0 else 0:=fun h=>(if_neg (by omega)).symm
 (repeat' first|intro _|(refine go _ ?_ ?_ ?_)|(refine go _ ?_ ?_)|(with_reducible apply And.intro))
 all_goals first|omega|(unfold maxLen;omega)|(rw[fN];first|exact Prod.ext rfl (congrArg (mp k _++[·]) (e1 (by assumption)))|exact Prod.ext rfl (congrArg (mp k _++[·]) (e2 (by assumption))))|(have e:k=a.length:=(by omega);subst e;rfl)
theorem aVV:Con.Holds Tryz.prog qM:=aS aV (aH zC aT) aWH aU4
def uH:Con:=⟨277,aP,(.bP9 tI .bool),[.val ⟨false,tI,[]⟩,.val ⟨false,tI,[]⟩],[⟨false,tI,[0]⟩,⟨false,.bool,[0]⟩],false,none,
 ((fun _=>True):(Int × Int)→Prop),
 ((fun x=>fA x.1 x.2):(Int × Int)→(Int × Bool))⟩
def aEH:T:=.call 0 (.p1 tI tI (.Z 0)) <|.call 0 (aQ aP 1 (.Z 0)) <|
 .bPA (.ar .sub .i64) (.bPB tI tI (.Z 1) (.Z 2)) <|
 .call 1 (.Z 3) <|
 .ret (.Z 4)
theorem bB8:bN Tryz.prog [jN,gW] uH false 3000 ⟨[],[]⟩ = .ok aEH:=by kernel_rfl
theorem aZH (x:Int × Int) (hx:okD aP x) (hp:(fun _=>True) x):aEH.wp [jN,gW] [⟨aP,x⟩] [] (fun v=>v.as (.bP9 tI .bool)=(fun x=>fA x.1 x.2) x):=by
 delta aEH jN gW;refine dD ?_
 intro _ _
 have h1:=kT x.1
 have h2:=kT x.2
 exact ⟨by omega,fun _ _=>rfl⟩
theorem aY2:Con.Holds Tryz.prog uH:=aS aV (aH aGF (aH aCQ aT)) bB8 aZH
def qD:Con:=⟨327,aP,tI,[.val ⟨false,tI,[]⟩,.val ⟨false,tI,[]⟩],[⟨false,tI,[0]⟩],false,none,
 ((fun x=>x.2=65536):(Int × Int)→Prop),
 ((fun x=>x.1.fdiv 65536):(Int × Int)→(Int))⟩
def aA8:T :=
 .bPA (.quo .i64) (.bPB tI tI (.p1 tI tI (.Z 0)) (aQ aP 1 (.Z 0))) <|
 .bPA (.rem .i64) (.bPB tI tI (.p1 tI tI (.Z 0)) (aQ aP 1 (.Z 0))) <|
 .bPA (.cmp .neq .i64) (.bPB tI tI (.Z 2) (.ci .i64 0)) <|
 .ite (.Z 3) (
  .bPA (.cmp .lss .i64) (.bPB tI tI (.p1 tI tI (.Z 0)) (.ci .i64 0)) <|
  .bPA (.cmp .lss .i64) (.bPB tI tI (aQ aP 1 (.Z 0)) (.ci .i64 0)) <|
  .bPA (.eqv true .bool) (.bPB .bool .bool (.Z 4) (.Z 5)) <|
  .ite (.Z 6) (
   .bPA (.ar .sub .i64) (.bPB tI tI (.Z 1) (.ci .i64 1)) <|
   .ret (.Z 7)) (
   .ret (.Z 1))) (
  .ret (.Z 1))
theorem aVY:bN Tryz.prog [] qD false 3000 ⟨[],[]⟩ = .ok aA8:=by kernel_rfl
theorem aVI (x:Int × Int) (hx:okD aP x) (hp:(fun x=>x.2=65536) x):aA8.wp [] [⟨aP,x⟩] [] (fun v=>v.as tI=(fun x=>x.1.fdiv 65536) x):=by
 obtain ⟨a,b⟩:=x
 obtain rfl:b=65536:=hp
 have e:=bKZ a
 have ha:-9223372036854775808≤a∧a≤9223372036854775807:=hx.1
 have hd:=bOX ha
 delta aA8;refine dD ?_
 simp only[bO1,bNX,aFL,aFM,show decide ((65536:Int)<0)=false from rfl,decide_eq_false_iff_not,Classical.not_not]
 rw[e]
 (repeat' first|intro _|(with_reducible apply And.intro))
 all_goals first|omega|(rw[if_pos ⟨by assumption,by assumption⟩])|(rw[if_neg (fun h=>by have:=h.2;omega)])|(rw[if_neg (fun h=>h.1 (by assumption))])
theorem aWR:Con.Holds Tryz.prog qD:=aS aV aT aVY aVI
def iM:Con:=⟨311,aP,(.bP9 tI .bool),[.val ⟨false,tI,[]⟩,.val ⟨false,tI,[]⟩],[⟨false,tI,[0]⟩,⟨false,.bool,[0]⟩],false,none,
 ((fun _=>True):(Int × Int)→Prop),
 ((fun x=>fS x.1 x.2):(Int × Int)→(Int × Bool))⟩
def aFA:T:=.call 0 (.p1 tI tI (.Z 0)) <|.call 0 (aQ aP 1 (.Z 0)) <|
 .bPA (.ar .mul .i64) (.bPB tI tI (.Z 1) (.Z 2)) <|
 .call 1 (.bPB tI tI (.Z 3) (.ci .i64 65536)) <|
 .call 2 (.Z 4) <|
 .ret (.Z 5)
theorem bBK:bN Tryz.prog [jN,qD,gW] iM false 3000 ⟨[],[]⟩ = .ok aFA:=by kernel_rfl
theorem aY0 (x:Int × Int) (hx:okD aP x) (hp:(fun _=>True) x):aFA.wp [jN,qD,gW] [⟨aP,x⟩] [] (fun v=>v.as (.bP9 tI .bool)=(fun x=>fS x.1 x.2) x):=by
 delta aFA jN qD gW;refine dD ?_
 have h:=bP4 (kT x.1) (kT x.2)
 exact fun _ _=>⟨by omega,fun _ _ _=>rfl⟩
theorem aFF:Con.Holds Tryz.prog iM:=aS aV (aH aGF (aH aWR (aH aCQ aT))) bBK aY0
def aAS:Con:=⟨326,tI,tI,[.val ⟨false,tI,[]⟩],[⟨false,tI,[0]⟩],false,none,
 ((fun _=>True):(Int)→Prop),
 ((fun x=>aL9 x):(Int)→(Int))⟩
def aKR:T:=.call 0 (.Z 0) <|
 .bPA (.mx .i64) (.bPB tI tI (.ci .i64 0) (.Z 1)) <|
 .ret (.Z 2)
theorem bHV:bN Tryz.prog [jN] aAS false 3000 ⟨[],[]⟩ = .ok aKR:=by kernel_rfl
theorem bH9 (x:Int) (hx:okD tI x) (hp:(fun _=>True) x):aKR.wp [jN] [⟨tI,x⟩] [] (fun v=>v.as tI=(fun x=>aL9 x) x):=by
 delta aKR jN;refine dD ?_
 exact fun _ _=>rfl
theorem bLB:Con.Holds Tryz.prog aAS:=aS aV (aH aGF aT) bHV bH9
def lS:Con:=⟨308,aI,(.bP9 aB .bool),[.val ⟨false,aB,[]⟩,.val ⟨false,aB,[]⟩],[⟨false,aB,[2]⟩,⟨false,.bool,[0]⟩],false,none,
 ((fun _=>True):(bP)→Prop),
 ((fun x=>lH dR x.1 x.2):(bP)→(cF × Bool))⟩
def aDY:T:=.loop (.bP9 tI (.bP9 .bool aB)) (bG (.bP9 tI (.bP9 .bool aB)) [(.ci .i64 0),(.cb false),(.nl 3 tI)]) <|
 .bPA (.bPD 3 tI) (.p1 aB aB (.Z 0)) <|
 .bPA (.cmp .lss .i64) (.bPB tI tI (.p1 tI (.bP9 .bool aB) (.Z 1)) (.Z 2)) <|
 .ite (.Z 3) (
  .call 0 (.Z 0) <|
  .ite (.Z 4) (
   .bPA (.bPE 3 tI) (.bPB aB tI (.p1 aB aB (.Z 0)) (.p1 tI (.bP9 .bool aB) (.Z 1))) <|
   .bPA (.bPE 3 tI) (.bPB aB tI (aQ aI 1 (.Z 0)) (.p1 tI (.bP9 .bool aB) (.Z 1))) <|
   .call 1 (.bPB tI tI (.Z 5) (.Z 6)) <|
   .bPA (.lit 3 tI 1) (.p1 tI .bool (.Z 7)) <|
   .bPA (.bPG 3 tI 8) (.bPB aB aB (aQ (.bP9 tI (.bP9 .bool aB)) 2 (.Z 1)) (.Z 8)) <|
   .ite (aK (.bP9 tI (.bP9 .bool aB)) 1 (.Z 1)) (
    .bPA (.ar .add .i64) (.bPB tI tI (.p1 tI (.bP9 .bool aB) (.Z 1)) (.ci .i64 1)) <|
    .bPC 0 (bG (.bP9 tI (.bP9 .bool aB)) [(.Z 10),(.cb true),(.Z 9)])) (
    .bPA (.ar .add .i64) (.bPB tI tI (.p1 tI (.bP9 .bool aB) (.Z 1)) (.ci .i64 1)) <|
    .bPC 0 (bG (.bP9 tI (.bP9 .bool aB)) [(.Z 10),(aQ (.bP9 tI .bool) 1 (.Z 7)),(.Z 9)]))) (
   .ret (.bPB aB .bool (aQ (.bP9 tI (.bP9 .bool aB)) 2 (.Z 1)) (aK (.bP9 tI (.bP9 .bool aB)) 1 (.Z 1))))) (
  .ret (.bPB aB .bool (aQ (.bP9 tI (.bP9 .bool aB)) 2 (.Z 1)) (aK (.bP9 tI (.bP9 .bool aB)) 1 (.Z 1))))
theorem aY3:bN Tryz.prog [fQ,dU] lS false 3000 ⟨[(2989,1001,[.dr 11,.tm 8 0,.tm 7 0,.on 6,.sl 1])],[]⟩ = .ok aDY:=by kernel_rfl
theorem bC3 (x:bP) (hx:okD aI x) (hp:(fun _=>True) x):aDY.wp [fQ,dU] [⟨aI,x⟩] [] (fun v=>v.as (.bP9 aB .bool)=(fun x=>lH dR x.1 x.2) x):=by
 obtain ⟨a,b⟩:=x
 delta aDY fQ dU;refine dD ?_
 simp only[bC4]
 cases h:oY a b
 ·refine cJ (fun _=>((0:Int),false,([]:List Int))) 0 rfl fun I μ k hk _ go=>?_
  dsimp only
  simp only[reduceCtorEq,false_implies,true_implies,forall_const,and_true,true_and,implies_true,mP]
  (repeat' first|intro _|(refine go _ ?_ ?_ ?_)|(refine go _ ?_ ?_)|(with_reducible apply And.intro))
  all_goals first|omega|exact aJF h
 ·have hl:=lB h
  rw[aGK h]
  refine cJ (fun k=>((k:Int),an k (fun i=>(dR (a.getD i 0) (b.getD i 0)).2),mp k fun i=>(dR (a.getD i 0) (b.getD i 0)).1)) a.length rfl fun I μ k hk _ go=>?_
  dsimp only
  simp only[reduceCtorEq,false_implies,true_implies,forall_const,and_true,true_and,implies_true,mP,eM]
  (repeat' first|intro _|(refine go _ ?_ ?_ ?_)|(refine go _ ?_ ?_)|(with_reducible apply And.intro))
  all_goals first|omega|(unfold maxLen;omega)|(rw[fN,mN];first|exact Prod.ext rfl (Prod.ext (jC (by assumption)) rfl)|exact Prod.ext rfl (Prod.ext (mR (by assumption)) rfl))|(have e:k=a.length:=(by omega);subst e;rfl)
theorem aMF:Con.Holds Tryz.prog lS:=aS aV (aH zF (aH sW aT)) aY3 bC3
def mD:Con:=⟨197,aI,(.bP9 aB .bool),[.val ⟨false,aB,[]⟩,.val ⟨false,aB,[]⟩],[⟨false,aB,[2]⟩,⟨false,.bool,[0]⟩],false,none,
 ((fun _=>True):(bP)→Prop),
 ((fun x=>lH fA x.1 x.2):(bP)→(cF × Bool))⟩
def aE1:T:=.loop (.bP9 tI (.bP9 .bool aB)) (bG (.bP9 tI (.bP9 .bool aB)) [(.ci .i64 0),(.cb false),(.nl 3 tI)]) <|
 .bPA (.bPD 3 tI) (.p1 aB aB (.Z 0)) <|
 .bPA (.cmp .lss .i64) (.bPB tI tI (.p1 tI (.bP9 .bool aB) (.Z 1)) (.Z 2)) <|
 .ite (.Z 3) (
  .call 0 (.Z 0) <|
  .ite (.Z 4) (
   .bPA (.bPE 3 tI) (.bPB aB tI (.p1 aB aB (.Z 0)) (.p1 tI (.bP9 .bool aB) (.Z 1))) <|
   .bPA (.bPE 3 tI) (.bPB aB tI (aQ aI 1 (.Z 0)) (.p1 tI (.bP9 .bool aB) (.Z 1))) <|
   .call 1 (.bPB tI tI (.Z 5) (.Z 6)) <|
   .bPA (.lit 3 tI 1) (.p1 tI .bool (.Z 7)) <|
   .bPA (.bPG 3 tI 8) (.bPB aB aB (aQ (.bP9 tI (.bP9 .bool aB)) 2 (.Z 1)) (.Z 8)) <|
   .ite (aK (.bP9 tI (.bP9 .bool aB)) 1 (.Z 1)) (
    .bPA (.ar .add .i64) (.bPB tI tI (.p1 tI (.bP9 .bool aB) (.Z 1)) (.ci .i64 1)) <|
    .bPC 0 (bG (.bP9 tI (.bP9 .bool aB)) [(.Z 10),(.cb true),(.Z 9)])) (
    .bPA (.ar .add .i64) (.bPB tI tI (.p1 tI (.bP9 .bool aB) (.Z 1)) (.ci .i64 1)) <|
    .bPC 0 (bG (.bP9 tI (.bP9 .bool aB)) [(.Z 10),(aQ (.bP9 tI .bool) 1 (.Z 7)),(.Z 9)]))) (
   .ret (.bPB aB .bool (aQ (.bP9 tI (.bP9 .bool aB)) 2 (.Z 1)) (aK (.bP9 tI (.bP9 .bool aB)) 1 (.Z 1))))) (
  .ret (.bPB aB .bool (aQ (.bP9 tI (.bP9 .bool aB)) 2 (.Z 1)) (aK (.bP9 tI (.bP9 .bool aB)) 1 (.Z 1))))
theorem aYD:bN Tryz.prog [fQ,uH] mD false 3000 ⟨[(2989,1001,[.dr 11,.tm 8 0,.tm 7 0,.on 6,.sl 1])],[]⟩ = .ok aE1:=by kernel_rfl
theorem aZ9 (x:bP) (hx:okD aI x) (hp:(fun _=>True) x):aE1.wp [fQ,uH] [⟨aI,x⟩] [] (fun v=>v.as (.bP9 aB .bool)=(fun x=>lH fA x.1 x.2) x):=by
 obtain ⟨a,b⟩:=x
 delta aE1 fQ uH;refine dD ?_
 simp only[bC4]
 cases h:oY a b
 ·refine cJ (fun _=>((0:Int),false,([]:List Int))) 0 rfl fun I μ k hk _ go=>?_
  dsimp only
  simp only[reduceCtorEq,false_implies,true_implies,forall_const,and_true,true_and,implies_true,mP]
  (repeat' first|intro _|(refine go _ ?_ ?_ ?_)|(refine go _ ?_ ?_)|(with_reducible apply And.intro))
  all_goals first|omega|exact aJF h
 ·have hl:=lB h
  rw[aGK h]
  refine cJ (fun k=>((k:Int),an k (fun i=>(fA (a.getD i 0) (b.getD i 0)).2),mp k fun i=>(fA (a.getD i 0) (b.getD i 0)).1)) a.length rfl fun I μ k hk _ go=>?_
  dsimp only
  simp only[reduceCtorEq,false_implies,true_implies,forall_const,and_true,true_and,implies_true,mP,eM]
  (repeat' first|intro _|(refine go _ ?_ ?_ ?_)|(refine go _ ?_ ?_)|(with_reducible apply And.intro))
  all_goals first|omega|(unfold maxLen;omega)|(rw[fN,mN];first|exact Prod.ext rfl (Prod.ext (jC (by assumption)) rfl)|exact Prod.ext rfl (Prod.ext (mR (by assumption)) rfl))|(have e:k=a.length:=(by omega);subst e;rfl)
theorem aL2:Con.Holds Tryz.prog mD:=aS aV (aH zF (aH aY2 aT)) aYD aZ9
def jM:Con:=⟨310,aF,(.bP9 aB .bool),[.val ⟨false,tI,[]⟩,.val ⟨false,aB,[]⟩],[⟨false,aB,[2]⟩,⟨false,.bool,[0]⟩],false,none,
 ((fun _=>True):(cM)→Prop),
 ((fun x=>sY x.1 x.2):(cM)→(cF × Bool))⟩
def zW:T:=.loop (.bP9 tI (.bP9 .bool aB)) (bG (.bP9 tI (.bP9 .bool aB)) [(.ci .i64 0),(.cb false),(.nl 3 tI)]) <|
 .bPA (.bPD 3 tI) (aQ aF 1 (.Z 0)) <|
 .bPA (.cmp .lss .i64) (.bPB tI tI (.p1 tI (.bP9 .bool aB) (.Z 1)) (.Z 2)) <|
 .ite (.Z 3) (
  .call 0 (aQ aF 1 (.Z 0)) <|
  .ite (.Z 4) (
   .call 1 (.p1 tI aB (.Z 0)) <|
   .ite (.Z 5) (
    .bPA (.bPE 3 tI) (.bPB aB tI (aQ aF 1 (.Z 0)) (.p1 tI (.bP9 .bool aB) (.Z 1))) <|
    .call 2 (.bPB tI tI (.p1 tI aB (.Z 0)) (.Z 6)) <|
    .bPA (.lit 3 tI 1) (.p1 tI .bool (.Z 7)) <|
    .bPA (.bPG 3 tI 8) (.bPB aB aB (aQ (.bP9 tI (.bP9 .bool aB)) 2 (.Z 1)) (.Z 8)) <|
    .ite (aK (.bP9 tI (.bP9 .bool aB)) 1 (.Z 1)) (
     .bPA (.ar .add .i64) (.bPB tI tI (.p1 tI (.bP9 .bool aB) (.Z 1)) (.ci .i64 1)) <|
     .bPC 0 (bG (.bP9 tI (.bP9 .bool aB)) [(.Z 10),(.cb true),(.Z 9)])) (
     .bPA (.ar .add .i64) (.bPB tI tI (.p1 tI (.bP9 .bool aB) (.Z 1)) (.ci .i64 1)) <|
     .bPC 0 (bG (.bP9 tI (.bP9 .bool aB)) [(.Z 10),(aQ (.bP9 tI .bool) 1 (.Z 7)),(.Z 9)]))) (
    .ret (.bPB aB .bool (aQ (.bP9 tI (.bP9 .bool aB)) 2 (.Z 1)) (aK (.bP9 tI (.bP9 .bool aB)) 1 (.Z 1))))) (
   .ret (.bPB aB .bool (aQ (.bP9 tI (.bP9 .bool aB)) 2 (.Z 1)) (aK (.bP9 tI (.bP9 .bool aB)) 1 (.Z 1))))) (
  .ret (.bPB aB .bool (aQ (.bP9 tI (.bP9 .bool aB)) 2 (.Z 1)) (aK (.bP9 tI (.bP9 .bool aB)) 1 (.Z 1))))
theorem aRG:bN Tryz.prog [bL,gT,iM] jM false 3000 ⟨[(2989,1001,[.dr 11,.tm 8 0,.tm 7 0,.on 6,.sl 1])],[]⟩ = .ok zW:=by kernel_rfl
theorem aSH (x:cM) (hx:okD aF x) (hp:(fun _=>True) x):zW.wp [bL,gT,iM] [⟨aF,x⟩] [] (fun v=>v.as (.bP9 aB .bool)=(fun x=>sY x.1 x.2) x):=by
 obtain ⟨c,a⟩:=x
 delta zW bL gT iM;refine dD ?_
 cases h:iZ a
 ·refine cJ (fun _=>((0:Int),false,([]:List Int))) 0 rfl fun I μ k hk _ go=>?_
  dsimp only
  simp only[reduceCtorEq,false_implies,true_implies,forall_const,and_true,true_and,implies_true,mP]
  (repeat' first|intro _|(refine go _ ?_ ?_ ?_)|(refine go _ ?_ ?_)|(with_reducible apply And.intro))
  all_goals first|omega|(unfold sY;rw[if_neg (by rw[h];simp)])
 cases h2:oL c
 ·refine cJ (fun _=>((0:Int),false,([]:List Int))) 0 rfl fun I μ k hk _ go=>?_
  dsimp only
  simp only[reduceCtorEq,false_implies,true_implies,forall_const,and_true,true_and,implies_true,mP]
  (repeat' first|intro _|(refine go _ ?_ ?_ ?_)|(refine go _ ?_ ?_)|(with_reducible apply And.intro))
  all_goals first|omega|(unfold sY;rw[if_neg (by rw[h2];simp)])
 ·have hl:=(cT a).1 h
  rw[show sY c a=_ from if_pos ⟨h2,h⟩]
  refine cJ (fun k=>((k:Int),an k (fun i=>(fS c (a.getD i 0)).2),mp k fun i=>(fS c (a.getD i 0)).1)) a.length rfl fun I μ k hk _ go=>?_
  dsimp only
  simp only[reduceCtorEq,false_implies,true_implies,forall_const,and_true,true_and,implies_true,mP,eM]
  (repeat' first|intro _|(refine go _ ?_ ?_ ?_)|(refine go _ ?_ ?_)|(with_reducible apply And.intro))
  all_goals first|omega|(unfold maxLen;omega)|(rw[fN,mN];first|exact Prod.ext rfl (Prod.ext (jC (by assumption)) rfl)|exact Prod.ext rfl (Prod.ext (mR (by assumption)) rfl))|(have e:k=a.length:=(by omega);subst e;rfl)
theorem aGM:Con.Holds Tryz.prog jM:=aS aV (aH fT (aH aD3 (aH aFF aT))) aRG aSH
def fP:Con:=⟨273,aI,(.bP9 tI .bool),[.val ⟨false,aB,[]⟩,.val ⟨false,aB,[]⟩],[⟨false,tI,[0]⟩,⟨false,.bool,[0]⟩],false,none,
 ((fun _=>True):(bP)→Prop),
 ((fun x=>gD x.1 x.2):(bP)→(Int × Bool))⟩
def aE5:T:=.loop (.bP9 tI (.bP9 .bool tI)) (bG (.bP9 tI (.bP9 .bool tI)) [(.ci .i64 0),(.cb false),(.ci .i64 0)]) <|
 .bPA (.bPD 3 tI) (.p1 aB aB (.Z 0)) <|
 .bPA (.cmp .lss .i64) (.bPB tI tI (.p1 tI (.bP9 .bool tI) (.Z 1)) (.Z 2)) <|
 .ite (.Z 3) (
  .call 0 (.Z 0) <|
  .ite (.Z 4) (
   .bPA (.bPE 3 tI) (.bPB aB tI (.p1 aB aB (.Z 0)) (.p1 tI (.bP9 .bool tI) (.Z 1))) <|
   .bPA (.bPE 3 tI) (.bPB aB tI (aQ aI 1 (.Z 0)) (.p1 tI (.bP9 .bool tI) (.Z 1))) <|
   .call 1 (.bPB tI tI (.Z 5) (.Z 6)) <|
   .call 2 (.bPB tI tI (aQ (.bP9 tI (.bP9 .bool tI)) 2 (.Z 1)) (.p1 tI .bool (.Z 7))) <|
   .ite (aK (.bP9 tI (.bP9 .bool tI)) 1 (.Z 1)) (
    .bPA (.ar .add .i64) (.bPB tI tI (.p1 tI (.bP9 .bool tI) (.Z 1)) (.ci .i64 1)) <|
    .bPC 0 (bG (.bP9 tI (.bP9 .bool tI)) [(.Z 9),(.cb true),(.p1 tI .bool (.Z 8))])) (
    .ite (aQ (.bP9 tI .bool) 1 (.Z 7)) (
     .bPA (.ar .add .i64) (.bPB tI tI (.p1 tI (.bP9 .bool tI) (.Z 1)) (.ci .i64 1)) <|
     .bPC 0 (bG (.bP9 tI (.bP9 .bool tI)) [(.Z 9),(.cb true),(.p1 tI .bool (.Z 8))])) (
     .bPA (.ar .add .i64) (.bPB tI tI (.p1 tI (.bP9 .bool tI) (.Z 1)) (.ci .i64 1)) <|
     .bPC 0 (bG (.bP9 tI (.bP9 .bool tI)) [(.Z 9),(aQ (.bP9 tI .bool) 1 (.Z 8)),(.p1 tI .bool (.Z 8))])))) (
   .ret (.bPB tI .bool (aQ (.bP9 tI (.bP9 .bool tI)) 2 (.Z 1)) (aK (.bP9 tI (.bP9 .bool tI)) 1 (.Z 1))))) (
  .ret (.bPB tI .bool (aQ (.bP9 tI (.bP9 .bool tI)) 2 (.Z 1)) (aK (.bP9 tI (.bP9 .bool tI)) 1 (.Z 1))))
theorem aZ6:bN Tryz.prog [fQ,iM,dU] fP false 3000 ⟨[(2989,1001,[.tm 8 0,.tm 7 0,.tm 6 0])],[]⟩ = .ok aE5:=by kernel_rfl
theorem aY9 (x:bP) (hx:okD aI x) (hp:(fun _=>True) x):aE5.wp [fQ,iM,dU] [⟨aI,x⟩] [] (fun v=>v.as (.bP9 tI .bool)=(fun x=>gD x.1 x.2) x):=by
 obtain ⟨a,b⟩:=x
 delta aE5 fQ iM dU;refine dD ?_
 simp only[bC4]
 cases h:oY a b
 ·refine cJ (fun _=>((0:Int),false,(0:Int))) 0 rfl fun I μ k hk _ go=>?_
  dsimp only
  simp only[reduceCtorEq,false_implies,true_implies,forall_const,and_true,true_and,implies_true,mP]
  (repeat' first|intro _|(refine go _ ?_ ?_ ?_)|(refine go _ ?_ ?_)|(with_reducible apply And.intro))
  all_goals first|omega|(unfold gD;rw[if_neg (by rw[h];exact Bool.false_ne_true)])
 ·have hl:=lB h
  rw[show gD a b=_ from if_pos h]
  refine cJ (fun k=>((k:Int),(aHC a b k).2,(aHC a b k).1)) a.length rfl fun I μ k hk _ go=>?_
  dsimp only
  simp only[reduceCtorEq,false_implies,true_implies,forall_const,and_true,true_and,implies_true,mP]
  (repeat' first|intro _|(refine go _ ?_ ?_ ?_)|(refine go _ ?_ ?_)|(with_reducible apply And.intro))
  all_goals first|omega|(rw[aPU];first|exact Prod.ext rfl (Prod.ext (bNP (by assumption)) rfl)|exact Prod.ext rfl (Prod.ext (bNC (by assumption) (by assumption)) rfl)|exact Prod.ext rfl (Prod.ext (bNK (by assumption) (by assumption)) rfl))|(have e:k=a.length:=(by omega);subst e;rfl)
theorem yF:Con.Holds Tryz.prog fP:=aS aV (aH zF (aH aFF (aH sW aT))) aZ6 aY9
def pX:Con:=⟨309,aB,aB,[.val ⟨false,aB,[]⟩],[⟨false,aB,[2]⟩],false,none,
 ((fun _=>True):(List Int)→Prop),
 ((fun x=>oE x):(List Int)→(List Int))⟩
def aBM:T:=.loop aF (.bPB tI aB (.ci .i64 0) (.nl 3 tI)) <|
 .bPA (.bPD 3 tI) (.Z 0) <|
 .bPA (.cmp .lss .i64) (.bPB tI tI (.p1 tI aB (.Z 1)) (.Z 2)) <|
 .ite (.Z 3) (
  .call 0 (.Z 0) <|
  .ite (.Z 4) (
   .bPA (.bPE 3 tI) (.bPB aB tI (.Z 0) (.p1 tI aB (.Z 1))) <|
   .call 1 (.Z 5) <|
   .bPA (.lit 3 tI 1) (.Z 6) <|
   .bPA (.bPG 3 tI 8) (.bPB aB aB (aQ aF 1 (.Z 1)) (.Z 7)) <|
   .bPA (.ar .add .i64) (.bPB tI tI (.p1 tI aB (.Z 1)) (.ci .i64 1)) <|
   .bPC 0 (.bPB tI aB (.Z 9) (.Z 8))) (
   .ret (aQ aF 1 (.Z 1)))) (
  .ret (aQ aF 1 (.Z 1)))
theorem aVE:bN Tryz.prog [bL,aAS] pX false 3000 ⟨[(2991,1001,[.dr 5,.tm 4 0,.on 3,.sl 1])],[]⟩ = .ok aBM:=by kernel_rfl
theorem aX4 (x:List Int) (hx:okD aB x) (hp:(fun _=>True) x):aBM.wp [bL,aAS] [⟨aB,x⟩] [] (fun v=>v.as aB=(fun x=>oE x) x):=by
 obtain ⟨a,rfl⟩:∃ a,a=x:=⟨_,rfl⟩
 delta aBM bL aAS;refine dD ?_
 cases h:iZ a
 ·refine cJ (fun _=>((0:Int),([]:List Int))) 0 rfl fun I μ k hk _ go=>?_
  dsimp only
  simp only[reduceCtorEq,false_implies,true_implies,forall_const,and_true,true_and,implies_true,mP]
  (repeat' first|intro _|(refine go _ ?_ ?_ ?_)|(refine go _ ?_ ?_)|(with_reducible apply And.intro))
  all_goals first|omega|(unfold oE;rw[if_neg (by rw[h];exact Bool.false_ne_true)])
 ·have hl:=(cT a).1 h
  rw[show oE a=_ from if_pos h]
  refine cJ (fun k=>((k:Int),mp k fun i=>aL9 (a.getD i 0))) a.length rfl fun I μ k hk _ go=>?_
  dsimp only
  simp only[reduceCtorEq,false_implies,true_implies,forall_const,and_true,true_and,implies_true,mP,eM]
  (repeat' first|intro _|(refine go _ ?_ ?_ ?_)|(refine go _ ?_ ?_)|(with_reducible apply And.intro))
  all_goals first|omega|(unfold maxLen;omega)|(rw[fN];rfl)|(have e:k=a.length:=(by omega);subst e;rfl)
theorem aVZ:Con.Holds Tryz.prog pX:=aS aV (aH fT (aH bLB aT)) aVE aX4
def qI:Con:=⟨312,aI,aB,[.val ⟨false,aB,[]⟩,.val ⟨false,aB,[]⟩],[⟨false,aB,[2]⟩],false,none,
 ((fun _=>True):(bP)→Prop),
 ((fun x=>oK x.1 x.2):(bP)→(List Int))⟩
def aAA:T:=.loop aF (.bPB tI aB (.ci .i64 0) (.nl 3 tI)) <|
 .bPA (.bPD 3 tI) (.p1 aB aB (.Z 0)) <|
 .bPA (.cmp .lss .i64) (.bPB tI tI (.p1 tI aB (.Z 1)) (.Z 2)) <|
 .ite (.Z 3) (
  .call 0 (.Z 0) <|
  .ite (.Z 4) (
   .bPA (.bPE 3 tI) (.bPB aB tI (.p1 aB aB (.Z 0)) (.p1 tI aB (.Z 1))) <|
   .bPA (.cmp .gtr .i64) (.bPB tI tI (.Z 5) (.ci .i64 0)) <|
   .ite (.Z 6) (
    .bPA (.bPE 3 tI) (.bPB aB tI (aQ aI 1 (.Z 0)) (.p1 tI aB (.Z 1))) <|
    .bPA (.lit 3 tI 1) (.Z 7) <|
    .bPA (.bPG 3 tI 8) (.bPB aB aB (aQ aF 1 (.Z 1)) (.Z 8)) <|
    .bPA (.ar .add .i64) (.bPB tI tI (.p1 tI aB (.Z 1)) (.ci .i64 1)) <|
    .bPC 0 (.bPB tI aB (.Z 10) (.Z 9))) (
    .bPA (.lit 3 tI 1) (.ci .i64 0) <|
    .bPA (.bPG 3 tI 8) (.bPB aB aB (aQ aF 1 (.Z 1)) (.Z 7)) <|
    .bPA (.ar .add .i64) (.bPB tI tI (.p1 tI aB (.Z 1)) (.ci .i64 1)) <|
    .bPC 0 (.bPB tI aB (.Z 9) (.Z 8)))) (
   .ret (aQ aF 1 (.Z 1)))) (
  .ret (aQ aF 1 (.Z 1)))
theorem aXK:bN Tryz.prog [fQ] qI false 3000 ⟨[(2991,1001,[.dr 7,.tm 6 0,.on 5,.sl 1])],[]⟩ = .ok aAA:=by kernel_rfl
theorem aUQ (x:bP) (hx:okD aI x) (hp:(fun _=>True) x):aAA.wp [fQ] [⟨aI,x⟩] [] (fun v=>v.as aB=(fun x=>oK x.1 x.2) x):=by
 obtain ⟨a,b⟩:=x
 delta aAA fQ;refine dD ?_
 simp only[bC4]
 cases h:oY a b
 ·refine cJ (fun _=>((0:Int),([]:List Int))) 0 rfl fun I μ k hk _ go=>?_
  dsimp only
  simp only[reduceCtorEq,false_implies,true_implies,forall_const,and_true,true_and,implies_true,mP]
  (repeat' first|intro _|(refine go _ ?_ ?_ ?_)|(refine go _ ?_ ?_)|(with_reducible apply And.intro))
  all_goals first|omega|(unfold oK;rw[if_neg (by rw[h];exact Bool.false_ne_true)])
 ·have hl:=lB h
  rw[show oK a b=_ from if_pos h]
  refine cJ (fun k=>((k:Int),mp k fun i=>if 0<a.getD i 0 then b.getD i 0 else 0)) a.length rfl fun I μ k hk _ go=>?_
  dsimp only
  simp only[reduceCtorEq,false_implies,true_implies,forall_const,and_true,true_and,implies_true,mP,eM]
  have e1:0<a.getD k 0→b.getD k 0=if 0<a.getD k 0 then b.getD k 0 else 0:=fun h=>(if_pos h).symm
  have e2:a.getD k 0≤0→0=if 0<a.getD k 0 then b.getD k 0 else 0:=fun h=>(if_neg (by omega)).symm
  (repeat' first|intro _|(refine go _ ?_ ?_ ?_)|(refine go _ ?_ ?_)|(with_reducible apply And.intro))
  all_goals first|omega|(unfold maxLen;omega)|(rw[fN];first|exact Prod.ext rfl (congrArg (mp k _++[·]) (e1 (by assumption)))|exact Prod.ext rfl (congrArg (mp k _++[·]) (e2 (by assumption))))|(have e:k=a.length:=(by omega);subst e;rfl)
theorem aUL:Con.Holds Tryz.prog qI:=aS aV (aH zF aT) aXK aUQ
end
end Go.Proofs.YtmfpkkbhnmkfdaaGreat
