/- Lin2: trees, and what they say. -/
import Derived.Test.YtmfpkkbhnmkfdaaGreatStage3
namespace Go.Proofs.YtmfpkkbhnmkfdaaGreat
open Go.ChangeShapes Go.WideShapes Go.ChangeAt Go.RowKit Go.Deep
set_option linter.unusedVariables false
set_option linter.unusedSimpArgs false
noncomputable def aGA (P:Nat→Prop):Nat→Nat
 | 0=>0
 | n + 1=>@ite _ (P (n + 1)) (Classical.propDecidable _) (n + 1) (aGA P n)
theorem aK5 (P:Nat→Prop):(n:Nat)→aGA P n≤n
 | 0=>Nat.le_refl _
 | n + 1=>by
  unfold aGA;split
  ·exact Nat.le_refl _
  ·exact Nat.le_succ_of_le (aK5 P n)
theorem aUW (P:Nat→Prop):(n k:Nat)→k≤n→P k→k≤aGA P n
 | 0,k,h,_=>h
 | n + 1,k,h,hp=>by
  unfold aGA;split
  ·exact h
  ·rename_i hn
   rcases Nat.lt_or_eq_of_le h with h' | rfl
   ·exact aUW P n k (Nat.le_of_lt_succ h') hp
   ·exact absurd hp hn
theorem aV9 (P : Nat → Prop) : (n k : Nat) → k ≤ n → P k → P (aGA P n)
  | 0, k, h, hp => by have : k = 0 := by omega
                      subst this; exact hp
  | n + 1, k, h, hp => by
    unfold aGA; split
    · assumption
    · rename_i hn
      rcases Nat.lt_or_eq_of_le h with h' | rfl
      · exact aV9 P n k (Nat.le_of_lt_succ h') hp
      · exact absurd hp hn
theorem aDX {α:Type} {ok:α→Prop} {s0:α} {B:(α→Prop)→(α→Nat)→α→Prop} (F:Nat→α) (G:Nat→Prop) (n:Nat) (h0:s0 = F 0) (g0:G 0)
  (hs:∀ (I:α→Prop) (μ:α→Nat) (k:Nat),k≤n→G k→ok (F k)→(∀ y,k < n→G (k + 1)→y = F (k + 1)→I y∧μ y < μ (F k))→B I μ (F k)) :
  ∃ (I:α→Prop) (μ:α→Nat),I s0∧∀ x,ok x→I x→B I μ x:=by
 refine ⟨fun x=>∃ k,k≤n∧(x = F k∧G k),fun x=>n - aGA (fun k=>x = F k∧G k) n,⟨0,Nat.zero_le _,h0,g0⟩,fun x hok hI=>?_⟩
 obtain ⟨j,hj,hx⟩:=hI
 have e:=aV9 (fun k=>x = F k∧G k) n j hj hx
 have l:=aK5 (fun k=>x = F k∧G k) n
 generalize hk:aGA (fun k=>x = F k∧G k) n = k at e l
 obtain ⟨e1,e2⟩:=e
 subst e1
 refine hs _ _ k l e2 hok fun y hkn hg hy=>⟨⟨k + 1,hkn,hy,hg⟩,?_⟩
 have h1:=aUW (fun k=>y = F k∧G k) n (k + 1) hkn ⟨hy,hg⟩
 have h2:=aK5 (fun k=>y = F k∧G k) n
 show n - aGA (fun k=>y = F k∧G k) n < n - aGA (fun k'=>F k = F k'∧G k') n
 rw [hk]
 omega
theorem dG {α:Type} {ok:α→Prop} {s0:α} {B:(α→Prop)→(α→Nat)→α→Prop} (F:Nat→α) (n:Nat) (h0:s0 = F 0)
  (hs:∀ (I:α→Prop) (μ:α→Nat) (k:Nat),k≤n→ok (F k)→(∀ y,k < n→y = F (k + 1)→I y∧μ y < μ (F k))→B I μ (F k)) :
  ∃ (I:α→Prop) (μ:α→Nat),I s0∧∀ x,ok x→I x→B I μ x :=
 aDX F (fun _=>True) n h0 trivial fun I μ k hk _ hok go=>hs I μ k hk hok fun y h1 h2=>go y h1 trivial h2
def mp {α:Type} (n:Nat) (g:Nat→α):List α:=(List.range n).map g
def an (n:Nat) (h:Nat→Bool):Bool:=(List.range n).any h
theorem aJV {α:Type} (g:Nat→α):mp 0 g = []:=rfl
theorem aU6 (h:Nat→Bool):an 0 h = false:=rfl
theorem gS {α:Type} (n:Nat) (g:Nat→α):mp (n + 1) g = mp n g ++ [g n]:=by unfold mp;rw [List.range_succ,List.map_append];rfl
theorem kM (n:Nat) (h:Nat→Bool):an (n + 1) h = (an n h || h n):=by unfold an;rw [List.range_succ,List.any_append];simp
theorem gQ {α:Type} (n:Nat) (g:Nat→α):(mp n g).length = n:=by unfold mp;simp
theorem bCC {α:Type} {n:Nat} {g h:Nat→α} (e:∀ i,i < n→g i = h i):mp n g = mp n h:=List.map_congr_left fun i hi=>e i (List.mem_range.1 hi)
theorem bBJ {n:Nat} {g h:Nat→Bool} (e:∀ i,i < n→g i = h i):an n g = an n h:=by
 rw [Bool.eq_iff_iff];unfold an;simp only [List.any_eq_true,List.mem_range]
 exact ⟨fun ⟨i,h1,h2⟩=>⟨i,h1,by rw [← e i h1];exact h2⟩,fun ⟨i,h1,h2⟩=>⟨i,h1,by rw [e i h1];exact h2⟩⟩
theorem gP {a b:Bool} (h:a = true):true = (a || b):=by rw [h];rfl
theorem kN {a b:Bool} (h:a = false):b = (a || b):=by rw [h];rfl
theorem bCP {a b c:Bool} (h:a = true):true = ((a || b) || c):=by rw [h];rfl
theorem bCM {a b c:Bool} (h:a = false) (h2:b = true):true = ((a || b) || c):=by rw [h,h2];rfl
theorem bCV {a b c:Bool} (h:a = false) (h2:b = false):c = ((a || b) || c):=by rw [h,h2];rfl
def eI (a b:Int):Int × Bool:=aF2 (eD a - eD b)
def eL (a b:Int):Int × Bool:=aF2 ((eD a * eD b).fdiv 65536)
def aFK (x:Int):Int:=max 0 (eD x)
theorem bE7 {x y:Int} (h1:-2147483647≤x∧x≤2147483647) (h2:-2147483647≤y∧y≤2147483647):-4611686014132420609≤x * y∧x * y≤4611686014132420609:=by
 have h:(x * y).natAbs≤2147483647 * 2147483647:=by
  rw [Int.natAbs_mul];exact Nat.mul_le_mul (by omega) (by omega)
 omega
theorem bE6 {a:Int} (h:-9223372036854775808≤a∧a≤9223372036854775807):-140737488355328≤a.tdiv 65536∧a.tdiv 65536≤140737488355328:=by
 rcases Int.le_total 0 a with h1 | h1
 ·rw [Int.tdiv_eq_ediv_of_nonneg h1];omega
 ·have e1:a.tdiv 65536 = -((-a) / 65536):=by
   rw [← Int.neg_neg a,Int.neg_tdiv,Int.tdiv_eq_ediv_of_nonneg (by omega),Int.neg_neg]
  omega
theorem bA8 (x:Int):x.fdiv 65536 = (if x.tmod 65536 ≠ 0∧x < 0 then x.tdiv 65536 - 1 else x.tdiv 65536):=by
 rw [Int.fdiv_eq_ediv_of_nonneg _ (by decide)]
 rcases Int.le_total 0 x with h | h
 ·rw [Int.tdiv_eq_ediv_of_nonneg h,if_neg (by omega)]
 ·have e1:x.tdiv 65536 = -((-x) / 65536):=by
   rw [← Int.neg_neg x,Int.neg_tdiv,Int.tdiv_eq_ediv_of_nonneg (by omega),Int.neg_neg]
  have e2:x.tmod 65536 = -((-x) % 65536):=by
   rw [← Int.neg_neg x,Int.neg_tmod,Int.tmod_eq_emod_of_nonneg (by omega),Int.neg_neg]
  rw [e1,e2]
  split <;> omega
def mM (a b:List Int):Bool:=iA a && eX b (a.length:Int)
def vz (f:Int→Int→Int × Bool) (a b:List Int) (n:Nat):List Int × Bool:=(mp n fun i=>(f (a.getD i 0) (b.getD i 0)).1,an n fun i=>(f (a.getD i 0) (b.getD i 0)).2)
def jO (f:Int→Int→Int × Bool) (a b:List Int):List Int × Bool:=if mM a b = true then vz f a b a.length else ([],false)
def oZ (c:Int) (a:List Int):List Int × Bool:=if mF c = true∧iA a = true then (mp a.length fun i=>(eL c (a.getD i 0)).1,an a.length fun i=>(eL c (a.getD i 0)).2) else ([],false)
def aCY (a b:List Int):Nat→Int × Bool
 | 0=>(0,false)
 | k + 1=>((dH (aCY a b k).1 (eL (a.getD k 0) (b.getD k 0)).1).1,(aCY a b k).2 || (eL (a.getD k 0) (b.getD k 0)).2 || (dH (aCY a b k).1 (eL (a.getD k 0) (b.getD k 0)).1).2)
def fD (a b:List Int):Int × Bool:=if mM a b = true then aCY a b a.length else (0,false)
def mI (a:List Int):List Int:=if iA a = true then mp a.length fun i=>aFK (a.getD i 0) else []
def lZ (x d:List Int):List Int:=if mM x d = true then mp x.length fun i=>if 0 < x.getD i 0 then d.getD i 0 else 0 else []
theorem aVP (a b:List Int):mM a b = true↔iA a = true∧eX b (a.length:Int) = true:=by unfold mM;rw [Bool.and_eq_true]
theorem jE {a b:List Int} (h:mM a b = true):a.length≤6∧b.length = a.length:=by
 obtain ⟨h1,h2⟩:=(aVP a b).1 h
 have:=(cJ a).1 h1
 have:=(bY _ _).1 h2
 omega
theorem aEF {f:Int→Int→Int × Bool} {a b:List Int} (h:mM a b = false):([],false) = jO f a b:=by unfold jO;rw [if_neg (by rw [h];exact Bool.false_ne_true)]
theorem aB7 {f:Int→Int→Int × Bool} {a b:List Int} (h:mM a b = true):jO f a b = vz f a b a.length:=if_pos h
theorem aII (a b:List Int) (k:Nat):aCY a b (k + 1) = ((dH (aCY a b k).1 (eL (a.getD k 0) (b.getD k 0)).1).1,(aCY a b k).2 || (eL (a.getD k 0) (b.getD k 0)).2 || (dH (aCY a b k).1 (eL (a.getD k 0) (b.getD k 0)).1).2):=rfl
theorem aUK (a b:List Int):(iA a && (iA b && decide (a.length = b.length))) = mM a b:=by
 unfold mM eX
 congr 2
 rw [Bool.eq_iff_iff,decide_eq_true_eq,decide_eq_true_eq];omega
noncomputable def qI:Con:=⟨289,aO,(.pair tI .bool),[.val ⟨false,tI,[]⟩,.val ⟨false,tI,[]⟩],[⟨false,tI,[0]⟩,⟨false,.bool,[0]⟩],false,none,
 ((fun _=>True):(Int × Int)→Prop),
 ((fun x=>eI x.1 x.2):(Int × Int)→(Int × Bool))⟩
def aAB:T :=
 .call 0 (.p1 tI tI (.vr 0)) <|
 .call 0 (aQ aO 1 (.vr 0)) <|
 .prim (.ar .sub .i64) (.mk2 tI tI (.vr 1) (.vr 2)) <|
 .call 1 (.vr 3) <|
 .ret (.vr 4)
set_option maxRecDepth 100000 in
theorem aSU:bS Tryz.prog [eG,gE] qI false 3000 ⟨[],[]⟩ = .ok aAB:=by kernel_rfl
theorem aTN (x:Int × Int) (hx:okD aO x) (hp:(fun _=>True) x):aAB.wp [eG,gE] [⟨aO,x⟩] [] (fun v=>v.as (.pair tI .bool) = (fun x=>eI x.1 x.2) x):=by
 delta aAB eG gE;refine eS ?_;try with_reducible exact True.intro
 intro _ _
 have h1:=jA x.1
 have h2:=jA x.2
 exact ⟨by omega,fun _ _=>rfl⟩
theorem aRQ:Con.Holds Tryz.prog qI:=aT aY (aK tJ (aK aAH aU)) aSU fun x hx hp=>aTN x hx hp
noncomputable def gG:Con:=⟨320,aO,(.pair tI .bool),[.val ⟨false,tI,[]⟩,.val ⟨false,tI,[]⟩],[⟨false,tI,[0]⟩,⟨false,.bool,[0]⟩],false,none,
 ((fun _=>True):(Int × Int)→Prop),
 ((fun x=>eL x.1 x.2):(Int × Int)→(Int × Bool))⟩
def zV:T :=
 .call 0 (.p1 tI tI (.vr 0)) <|
 .call 0 (aQ aO 1 (.vr 0)) <|
 .prim (.ar .mul .i64) (.mk2 tI tI (.vr 1) (.vr 2)) <|
 .prim (.shr .i64 .u64) (.mk2 tI (.int .u64) (.vr 3) (.ci .u64 16)) <|
 .call 1 (.vr 4) <|
 .ret (.vr 5)
set_option maxRecDepth 100000 in
theorem aSD:bS Tryz.prog [eG,gE] gG false 3000 ⟨[],[]⟩ = .ok zV:=by kernel_rfl
theorem aR0 (x:Int × Int) (hx:okD aO x) (hp:(fun _=>True) x):zV.wp [eG,gE] [⟨aO,x⟩] [] (fun v=>v.as (.pair tI .bool) = (fun x=>eL x.1 x.2) x):=by
 delta zV eG gE;refine eS ?_;try with_reducible exact True.intro
 have h:=bE7 (jA x.1) (jA x.2)
 exact fun _ _=>⟨by omega,fun _=>⟨by omega,fun _ _=>rfl⟩⟩
theorem zL:Con.Holds Tryz.prog gG:=aT aY (aK tJ (aK aAH aU)) aSD fun x hx hp=>aR0 x hx hp
noncomputable def xC:Con:=⟨330,tI,tI,[.val ⟨false,tI,[]⟩],[⟨false,tI,[0]⟩],false,none,
 ((fun _=>True):(Int)→Prop),
 ((fun x=>aFK x):(Int)→(Int))⟩
def aH9:T :=
 .call 0 (.vr 0) <|
 .prim (.mx .i64) (.mk2 tI tI (.ci .i64 0) (.vr 1)) <|
 .ret (.vr 2)
set_option maxRecDepth 100000 in
theorem aZ1:bS Tryz.prog [eG] xC false 3000 ⟨[],[]⟩ = .ok aH9:=by kernel_rfl
theorem aYQ (x:Int) (hx:okD tI x) (hp:(fun _=>True) x):aH9.wp [eG] [⟨tI,x⟩] [] (fun v=>v.as tI = (fun x=>aFK x) x):=by
 delta aH9 eG;refine eS ?_;try with_reducible exact True.intro
 exact fun _ _=>rfl
theorem aYK:Con.Holds Tryz.prog xC:=aT aY (aK tJ aU) aZ1 fun x hx hp=>aYQ x hx hp
noncomputable def eM:Con:=⟨288,aI,.bool,[.val ⟨false,aB,[]⟩,.val ⟨false,aB,[]⟩],[⟨false,.bool,[0]⟩],false,none,
 ((fun _=>True):(cN)→Prop),
 ((fun x=>mM x.1 x.2):(cN)→(Bool))⟩
def aAQ:T :=
 .call 0 (.p1 aB aB (.vr 0)) <|
 .ite (.vr 1) (
  .prim (.llen 3 tI) (.p1 aB aB (.vr 0)) <|
  .call 1 (.mk2 aB tI (aQ aI 1 (.vr 0)) (.vr 2)) <|
  .ret (.vr 3)) (
  .ret (.cb false))
set_option maxRecDepth 100000 in
theorem aSJ:bS Tryz.prog [cV,bV] eM false 3000 ⟨[],[]⟩ = .ok aAQ:=by kernel_rfl
theorem aRR (x:cN) (hx:okD aI x) (hp:(fun _=>True) x):aAQ.wp [cV,bV] [⟨aI,x⟩] [] (fun v=>v.as .bool = (fun x=>mM x.1 x.2) x):=by
 delta aAQ cV bV;refine eS ?_;try with_reducible exact True.intro
 refine ⟨fun h _=>?_,fun h=>?_⟩
 ·unfold mM;rw [h,Bool.true_and]
 ·unfold mM;rw [h,Bool.false_and]
theorem uP:Con.Holds Tryz.prog eM:=aT aY (aK mP (aK jG aU)) aSJ fun x hx hp=>aRR x hx hp
noncomputable def kA:Con:=⟨317,aI,(.pair aB .bool),[.val ⟨false,aB,[]⟩,.val ⟨false,aB,[]⟩],[⟨false,aB,[2]⟩,⟨false,.bool,[0]⟩],false,none,
 ((fun _=>True):(cN)→Prop),
 ((fun x=>jO dH x.1 x.2):(cN)→(cG × Bool))⟩
def aA0:T :=
 .call 0 (.vr 0) <|
 .prim .not (.vr 1) <|
 .ite (.vr 2) (
  .ret (.mk2 aB .bool (.nl 3 tI) (.cb false))) (
  .prim (.llen 3 tI) (.p1 aB aB (.vr 0)) <|
  .loop (.pair tI (.pair .bool aB)) (bF (.pair tI (.pair .bool aB)) [(.ci .i64 0),(.cb false),(.nl 3 tI)]) <|
   .prim (.cmp .lss .i64) (.mk2 tI tI (.p1 tI (.pair .bool aB) (.vr 4)) (.vr 3)) <|
   .ite (.vr 5) (
    .prim (.lidx 3 tI) (.mk2 aB tI (.p1 aB aB (.vr 0)) (.p1 tI (.pair .bool aB) (.vr 4))) <|
    .prim (.lidx 3 tI) (.mk2 aB tI (aQ aI 1 (.vr 0)) (.p1 tI (.pair .bool aB) (.vr 4))) <|
    .call 1 (.mk2 tI tI (.vr 6) (.vr 7)) <|
    .prim (.lit 3 tI 1) (.p1 tI .bool (.vr 8)) <|
    .prim (.lapp 3 tI 8) (.mk2 aB aB (aQ (.pair tI (.pair .bool aB)) 2 (.vr 4)) (.vr 9)) <|
    .ite (aJ (.pair tI (.pair .bool aB)) 1 (.vr 4)) (
     .prim (.ar .add .i64) (.mk2 tI tI (.p1 tI (.pair .bool aB) (.vr 4)) (.ci .i64 1)) <|
     .again 0 (bF (.pair tI (.pair .bool aB)) [(.vr 11),(.cb true),(.vr 10)])) (
     .prim (.ar .add .i64) (.mk2 tI tI (.p1 tI (.pair .bool aB) (.vr 4)) (.ci .i64 1)) <|
     .again 0 (bF (.pair tI (.pair .bool aB)) [(.vr 11),(aQ (.pair tI .bool) 1 (.vr 8)),(.vr 10)]))) (
    .ret (.mk2 aB .bool (aQ (.pair tI (.pair .bool aB)) 2 (.vr 4)) (aJ (.pair tI (.pair .bool aB)) 1 (.vr 4)))))
set_option maxRecDepth 100000 in
theorem aSE:bS Tryz.prog [eM,eJ] kA false 3000 ⟨[(2984,2004,mL 16 11 ++ [.tm 18 0,.tm 7 0,.on 6,.sl 1])],[]⟩ = .ok aA0:=by kernel_rfl
theorem aQH (x:cN) (hx:okD aI x) (hp:(fun _=>True) x):aA0.wp [eM,eJ] [⟨aI,x⟩] [] (fun v=>v.as (.pair aB .bool) = (fun x=>jO dH x.1 x.2) x):=by
 obtain ⟨a,b⟩:=x
 delta aA0 eM eJ;refine eS ?_;try with_reducible exact True.intro
 simp only [Bool.not_eq_true',Bool.not_eq_false']
 refine ⟨aEF,fun h _=>?_⟩
 have hl:=jE h
 rw [aB7 h]
 refine dG (fun k=>((k:Int),an k (fun i=>(dH (a.getD i 0) (b.getD i 0)).2),mp k fun i=>(dH (a.getD i 0) (b.getD i 0)).1)) a.length rfl fun I μ k hk _ go=>?_
 dsimp only
 simp only [oL,gQ]
 (repeat' first | intro _ | (refine go _ ?_ ?_ ?_) | (refine go _ ?_ ?_) | (with_reducible apply And.intro))
 all_goals first | omega | (unfold maxLen;omega) | (rw [gS,kM];first | exact Prod.ext rfl (Prod.ext (gP (by assumption)) rfl) | exact Prod.ext rfl (Prod.ext (kN (by assumption)) rfl)) | (have e:k = a.length:=(by omega);subst e;rfl)
theorem aGN:Con.Holds Tryz.prog kA:=aT aY (aK uP (aK uK aU)) aSE fun x hx hp=>aQH x hx hp
noncomputable def kG:Con:=⟨217,aI,(.pair aB .bool),[.val ⟨false,aB,[]⟩,.val ⟨false,aB,[]⟩],[⟨false,aB,[2]⟩,⟨false,.bool,[0]⟩],false,none,
 ((fun _=>True):(cN)→Prop),
 ((fun x=>jO eI x.1 x.2):(cN)→(cG × Bool))⟩
def zG:T :=
 .call 0 (.vr 0) <|
 .prim .not (.vr 1) <|
 .ite (.vr 2) (
  .ret (.mk2 aB .bool (.nl 3 tI) (.cb false))) (
  .prim (.llen 3 tI) (.p1 aB aB (.vr 0)) <|
  .loop (.pair tI (.pair .bool aB)) (bF (.pair tI (.pair .bool aB)) [(.ci .i64 0),(.cb false),(.nl 3 tI)]) <|
   .prim (.cmp .lss .i64) (.mk2 tI tI (.p1 tI (.pair .bool aB) (.vr 4)) (.vr 3)) <|
   .ite (.vr 5) (
    .prim (.lidx 3 tI) (.mk2 aB tI (.p1 aB aB (.vr 0)) (.p1 tI (.pair .bool aB) (.vr 4))) <|
    .prim (.lidx 3 tI) (.mk2 aB tI (aQ aI 1 (.vr 0)) (.p1 tI (.pair .bool aB) (.vr 4))) <|
    .call 1 (.mk2 tI tI (.vr 6) (.vr 7)) <|
    .prim (.lit 3 tI 1) (.p1 tI .bool (.vr 8)) <|
    .prim (.lapp 3 tI 8) (.mk2 aB aB (aQ (.pair tI (.pair .bool aB)) 2 (.vr 4)) (.vr 9)) <|
    .ite (aJ (.pair tI (.pair .bool aB)) 1 (.vr 4)) (
     .prim (.ar .add .i64) (.mk2 tI tI (.p1 tI (.pair .bool aB) (.vr 4)) (.ci .i64 1)) <|
     .again 0 (bF (.pair tI (.pair .bool aB)) [(.vr 11),(.cb true),(.vr 10)])) (
     .prim (.ar .add .i64) (.mk2 tI tI (.p1 tI (.pair .bool aB) (.vr 4)) (.ci .i64 1)) <|
     .again 0 (bF (.pair tI (.pair .bool aB)) [(.vr 11),(aQ (.pair tI .bool) 1 (.vr 8)),(.vr 10)]))) (
    .ret (.mk2 aB .bool (aQ (.pair tI (.pair .bool aB)) 2 (.vr 4)) (aJ (.pair tI (.pair .bool aB)) 1 (.vr 4)))))
set_option maxRecDepth 100000 in
theorem aSI:bS Tryz.prog [eM,qI] kG false 3000 ⟨[(2984,2004,mL 16 11 ++ [.tm 18 0,.tm 7 0,.on 6,.sl 1])],[]⟩ = .ok zG:=by kernel_rfl
theorem aRJ (x:cN) (hx:okD aI x) (hp:(fun _=>True) x):zG.wp [eM,qI] [⟨aI,x⟩] [] (fun v=>v.as (.pair aB .bool) = (fun x=>jO eI x.1 x.2) x):=by
 obtain ⟨a,b⟩:=x
 delta zG eM qI;refine eS ?_;try with_reducible exact True.intro
 simp only [Bool.not_eq_true',Bool.not_eq_false']
 refine ⟨aEF,fun h _=>?_⟩
 have hl:=jE h
 rw [aB7 h]
 refine dG (fun k=>((k:Int),an k (fun i=>(eI (a.getD i 0) (b.getD i 0)).2),mp k fun i=>(eI (a.getD i 0) (b.getD i 0)).1)) a.length rfl fun I μ k hk _ go=>?_
 dsimp only
 simp only [oL,gQ]
 (repeat' first | intro _ | (refine go _ ?_ ?_ ?_) | (refine go _ ?_ ?_) | (with_reducible apply And.intro))
 all_goals first | omega | (unfold maxLen;omega) | (rw [gS,kM];first | exact Prod.ext rfl (Prod.ext (gP (by assumption)) rfl) | exact Prod.ext rfl (Prod.ext (kN (by assumption)) rfl)) | (have e:k = a.length:=(by omega);subst e;rfl)
theorem aGK:Con.Holds Tryz.prog kG:=aT aY (aK uP (aK aRQ aU)) aSI fun x hx hp=>aRJ x hx hp
noncomputable def gY:Con:=⟨318,aD,(.pair aB .bool),[.val ⟨false,tI,[]⟩,.val ⟨false,aB,[]⟩],[⟨false,aB,[2]⟩,⟨false,.bool,[0]⟩],false,none,
 ((fun _=>True):(cE)→Prop),
 ((fun x=>oZ x.1 x.2):(cE)→(cG × Bool))⟩
def uT:T :=
 .call 0 (.p1 tI aB (.vr 0)) <|
 .prim .not (.vr 1) <|
 .ite (.vr 2) (
  .ret (.mk2 aB .bool (.nl 3 tI) (.cb false))) (
  .call 1 (aQ aD 1 (.vr 0)) <|
  .prim .not (.vr 3) <|
  .ite (.vr 4) (
   .ret (.mk2 aB .bool (.nl 3 tI) (.cb false))) (
   .prim (.llen 3 tI) (aQ aD 1 (.vr 0)) <|
   .loop (.pair tI (.pair .bool aB)) (bF (.pair tI (.pair .bool aB)) [(.ci .i64 0),(.cb false),(.nl 3 tI)]) <|
    .prim (.cmp .lss .i64) (.mk2 tI tI (.p1 tI (.pair .bool aB) (.vr 6)) (.vr 5)) <|
    .ite (.vr 7) (
     .prim (.lidx 3 tI) (.mk2 aB tI (aQ aD 1 (.vr 0)) (.p1 tI (.pair .bool aB) (.vr 6))) <|
     .call 2 (.mk2 tI tI (.p1 tI aB (.vr 0)) (.vr 8)) <|
     .prim (.lit 3 tI 1) (.p1 tI .bool (.vr 9)) <|
     .prim (.lapp 3 tI 8) (.mk2 aB aB (aQ (.pair tI (.pair .bool aB)) 2 (.vr 6)) (.vr 10)) <|
     .ite (aJ (.pair tI (.pair .bool aB)) 1 (.vr 6)) (
      .prim (.ar .add .i64) (.mk2 tI tI (.p1 tI (.pair .bool aB) (.vr 6)) (.ci .i64 1)) <|
      .again 0 (bF (.pair tI (.pair .bool aB)) [(.vr 12),(.cb true),(.vr 11)])) (
      .prim (.ar .add .i64) (.mk2 tI tI (.p1 tI (.pair .bool aB) (.vr 6)) (.ci .i64 1)) <|
      .again 0 (bF (.pair tI (.pair .bool aB)) [(.vr 12),(aQ (.pair tI .bool) 1 (.vr 9)),(.vr 11)]))) (
     .ret (.mk2 aB .bool (aQ (.pair tI (.pair .bool aB)) 2 (.vr 6)) (aJ (.pair tI (.pair .bool aB)) 1 (.vr 6))))))
set_option maxRecDepth 100000 in
theorem aLT:bS Tryz.prog [iM,cV,gG] gY false 3000 ⟨[(2984,4006,mL 20 11 ++ [.tm 22 0,.tm 7 0,.on 6,.sl 1])],[]⟩ = .ok uT:=by kernel_rfl
theorem aKB (x:cE) (hx:okD aD x) (hp:(fun _=>True) x):uT.wp [iM,cV,gG] [⟨aD,x⟩] [] (fun v=>v.as (.pair aB .bool) = (fun x=>oZ x.1 x.2) x):=by
 obtain ⟨c,a⟩:=x
 delta uT iM cV gG;refine eS ?_;try with_reducible exact True.intro
 simp only [Bool.not_eq_true',Bool.not_eq_false']
 refine ⟨fun h=>?_,fun h1=>⟨fun h=>?_,fun h2 _=>?_⟩⟩
 ·unfold oZ;rw [if_neg (by rw [h];simp)]
 ·unfold oZ;rw [if_neg (by rw [h];simp)]
 have hl:=(cJ a).1 h2
 rw [show oZ c a = _ from if_pos ⟨h1,h2⟩]
 refine dG (fun k=>((k:Int),an k (fun i=>(eL c (a.getD i 0)).2),mp k fun i=>(eL c (a.getD i 0)).1)) a.length rfl fun I μ k hk _ go=>?_
 dsimp only
 simp only [oL,gQ]
 (repeat' first | intro _ | (refine go _ ?_ ?_ ?_) | (refine go _ ?_ ?_) | (with_reducible apply And.intro))
 all_goals first | omega | (unfold maxLen;omega) | (rw [gS,kM];first | exact Prod.ext rfl (Prod.ext (gP (by assumption)) rfl) | exact Prod.ext rfl (Prod.ext (kN (by assumption)) rfl)) | (have e:k = a.length:=(by omega);subst e;rfl)
theorem aBG:Con.Holds Tryz.prog gY:=aT aY (aK aD9 (aK mP (aK zL aU))) aLT fun x hx hp=>aKB x hx hp
noncomputable def gL:Con:=⟨285,aI,(.pair tI .bool),[.val ⟨false,aB,[]⟩,.val ⟨false,aB,[]⟩],[⟨false,tI,[0]⟩,⟨false,.bool,[0]⟩],false,none,
 ((fun _=>True):(cN)→Prop),
 ((fun x=>fD x.1 x.2):(cN)→(Int × Bool))⟩
def aA5:T :=
 .call 0 (.vr 0) <|
 .prim .not (.vr 1) <|
 .ite (.vr 2) (
  .ret (.mk2 tI .bool (.ci .i64 0) (.cb false))) (
  .prim (.llen 3 tI) (.p1 aB aB (.vr 0)) <|
  .loop (.pair tI (.pair .bool tI)) (bF (.pair tI (.pair .bool tI)) [(.ci .i64 0),(.cb false),(.ci .i64 0)]) <|
   .prim (.cmp .lss .i64) (.mk2 tI tI (.p1 tI (.pair .bool tI) (.vr 4)) (.vr 3)) <|
   .ite (.vr 5) (
    .prim (.lidx 3 tI) (.mk2 aB tI (.p1 aB aB (.vr 0)) (.p1 tI (.pair .bool tI) (.vr 4))) <|
    .prim (.lidx 3 tI) (.mk2 aB tI (aQ aI 1 (.vr 0)) (.p1 tI (.pair .bool tI) (.vr 4))) <|
    .call 1 (.mk2 tI tI (.vr 6) (.vr 7)) <|
    .call 2 (.mk2 tI tI (aQ (.pair tI (.pair .bool tI)) 2 (.vr 4)) (.p1 tI .bool (.vr 8))) <|
    .ite (aJ (.pair tI (.pair .bool tI)) 1 (.vr 4)) (
     .prim (.ar .add .i64) (.mk2 tI tI (.p1 tI (.pair .bool tI) (.vr 4)) (.ci .i64 1)) <|
     .again 0 (bF (.pair tI (.pair .bool tI)) [(.vr 10),(.cb true),(.p1 tI .bool (.vr 9))])) (
     .ite (aQ (.pair tI .bool) 1 (.vr 8)) (
      .prim (.ar .add .i64) (.mk2 tI tI (.p1 tI (.pair .bool tI) (.vr 4)) (.ci .i64 1)) <|
      .again 0 (bF (.pair tI (.pair .bool tI)) [(.vr 10),(.cb true),(.p1 tI .bool (.vr 9))])) (
      .prim (.ar .add .i64) (.mk2 tI tI (.p1 tI (.pair .bool tI) (.vr 4)) (.ci .i64 1)) <|
      .again 0 (bF (.pair tI (.pair .bool tI)) [(.vr 10),(aQ (.pair tI .bool) 1 (.vr 9)),(.p1 tI .bool (.vr 9))])))) (
    .ret (.mk2 tI .bool (aQ (.pair tI (.pair .bool tI)) 2 (.vr 4)) (aJ (.pair tI (.pair .bool tI)) 1 (.vr 4)))))
set_option maxRecDepth 100000 in
theorem aSF:bS Tryz.prog [eM,gG,eJ] gL false 3000 ⟨[(2984,2004,mL 17 13 ++ [.tm 19 0,.tm 7 0,.tm 6 0])],[]⟩ = .ok aA5:=by kernel_rfl
theorem aSW (x:cN) (hx:okD aI x) (hp:(fun _=>True) x):aA5.wp [eM,gG,eJ] [⟨aI,x⟩] [] (fun v=>v.as (.pair tI .bool) = (fun x=>fD x.1 x.2) x):=by
 obtain ⟨a,b⟩:=x
 delta aA5 eM gG eJ;refine eS ?_;try with_reducible exact True.intro
 simp only [Bool.not_eq_true',Bool.not_eq_false']
 refine ⟨fun h=>by unfold fD;rw [if_neg (by rw [h];exact Bool.false_ne_true)],fun h _=>?_⟩
 have hl:=jE h
 rw [show fD a b = _ from if_pos h]
 refine dG (fun k=>((k:Int),(aCY a b k).2,(aCY a b k).1)) a.length rfl fun I μ k hk _ go=>?_
 dsimp only
 (refine gR ?_;try with_reducible exact True.intro)
 (repeat' first | intro _ | (refine go _ ?_ ?_ ?_) | (refine go _ ?_ ?_) | (with_reducible apply And.intro))
 all_goals first | omega | (rw [aII];first | exact Prod.ext rfl (Prod.ext (bCP (by assumption)) rfl) | exact Prod.ext rfl (Prod.ext (bCM (by assumption) (by assumption)) rfl) | exact Prod.ext rfl (Prod.ext (bCV (by assumption) (by assumption)) rfl)) | (have e:k = a.length:=(by omega);subst e;rfl)
theorem aAO:Con.Holds Tryz.prog gL:=aT aY (aK uP (aK zL (aK uK aU))) aSF fun x hx hp=>aSW x hx hp
noncomputable def nF:Con:=⟨319,aB,aB,[.val ⟨false,aB,[]⟩],[⟨false,aB,[2]⟩],false,none,
 ((fun _=>True):(List Int)→Prop),
 ((fun x=>mI x):(List Int)→(List Int))⟩
def vH:T :=
 .call 0 (.vr 0) <|
 .prim .not (.vr 1) <|
 .ite (.vr 2) (
  .ret (.nl 3 tI)) (
  .prim (.llen 3 tI) (.vr 0) <|
  .loop aD (.mk2 tI aB (.ci .i64 0) (.nl 3 tI)) <|
   .prim (.cmp .lss .i64) (.mk2 tI tI (.p1 tI aB (.vr 4)) (.vr 3)) <|
   .ite (.vr 5) (
    .prim (.lidx 3 tI) (.mk2 aB tI (.vr 0) (.p1 tI aB (.vr 4))) <|
    .call 1 (.vr 6) <|
    .prim (.lit 3 tI 1) (.vr 7) <|
    .prim (.lapp 3 tI 8) (.mk2 aB aB (aQ aD 1 (.vr 4)) (.vr 8)) <|
    .prim (.ar .add .i64) (.mk2 tI tI (.p1 tI aB (.vr 4)) (.ci .i64 1)) <|
    .again 0 (.mk2 tI aB (.vr 10) (.vr 9))) (
    .ret (aQ aD 1 (.vr 4))))
set_option maxRecDepth 100000 in
theorem aPT:bS Tryz.prog [cV,xC] nF false 3000 ⟨[(2986,2004,mL 9 6 ++ [.dr 0,.tm 12 0,.on 3,.sl 1])],[]⟩ = .ok vH:=by kernel_rfl
theorem aPG (x:List Int) (hx:okD aB x) (hp:(fun _=>True) x):vH.wp [cV,xC] [⟨aB,x⟩] [] (fun v=>v.as aB = (fun x=>mI x) x):=by
 obtain ⟨a,rfl⟩:∃ a,a = x:=⟨_,rfl⟩
 delta vH cV xC;refine eS ?_;try with_reducible exact True.intro
 simp only [Bool.not_eq_true',Bool.not_eq_false']
 refine ⟨fun h=>by unfold mI;rw [if_neg (by rw [h];exact Bool.false_ne_true)],fun h _=>?_⟩
 have hl:=(cJ a).1 h
 rw [show mI a = _ from if_pos h]
 refine dG (fun k=>((k:Int),mp k fun i=>aFK (a.getD i 0))) a.length rfl fun I μ k hk _ go=>?_
 dsimp only
 simp only [oL,gQ]
 (repeat' first | intro _ | (refine go _ ?_ ?_ ?_) | (refine go _ ?_ ?_) | (with_reducible apply And.intro))
 all_goals first | omega | (unfold maxLen;omega) | (rw [gS];rfl) | (have e:k = a.length:=(by omega);subst e;rfl)
theorem aMK:Con.Holds Tryz.prog nF:=aT aY (aK mP (aK aYK aU)) aPT fun x hx hp=>aPG x hx hp
noncomputable def nI:Con:=⟨323,aI,aB,[.val ⟨false,aB,[]⟩,.val ⟨false,aB,[]⟩],[⟨false,aB,[2]⟩],false,none,
 ((fun _=>True):(cN)→Prop),
 ((fun x=>lZ x.1 x.2):(cN)→(List Int))⟩
def xM:T :=
 .call 0 (.vr 0) <|
 .prim .not (.vr 1) <|
 .ite (.vr 2) (
  .ret (.nl 3 tI)) (
  .prim (.llen 3 tI) (.p1 aB aB (.vr 0)) <|
  .loop aD (.mk2 tI aB (.ci .i64 0) (.nl 3 tI)) <|
   .prim (.cmp .lss .i64) (.mk2 tI tI (.p1 tI aB (.vr 4)) (.vr 3)) <|
   .ite (.vr 5) (
    .prim (.lidx 3 tI) (.mk2 aB tI (.p1 aB aB (.vr 0)) (.p1 tI aB (.vr 4))) <|
    .prim (.cmp .gtr .i64) (.mk2 tI tI (.vr 6) (.ci .i64 0)) <|
    .ite (.vr 7) (
     .prim (.lidx 3 tI) (.mk2 aB tI (aQ aI 1 (.vr 0)) (.p1 tI aB (.vr 4))) <|
     .prim (.lit 3 tI 1) (.vr 8) <|
     .prim (.lapp 3 tI 8) (.mk2 aB aB (aQ aD 1 (.vr 4)) (.vr 9)) <|
     .prim (.ar .add .i64) (.mk2 tI tI (.p1 tI aB (.vr 4)) (.ci .i64 1)) <|
     .again 0 (.mk2 tI aB (.vr 11) (.vr 10))) (
     .prim (.lit 3 tI 1) (.ci .i64 0) <|
     .prim (.lapp 3 tI 8) (.mk2 aB aB (aQ aD 1 (.vr 4)) (.vr 8)) <|
     .prim (.ar .add .i64) (.mk2 tI tI (.p1 tI aB (.vr 4)) (.ci .i64 1)) <|
     .again 0 (.mk2 tI aB (.vr 10) (.vr 9)))) (
    .ret (aQ aD 1 (.vr 4))))
set_option maxRecDepth 100000 in
theorem aP7:bS Tryz.prog [eM] nI false 3000 ⟨[(2986,2004,mL 12 7 ++ [.tm 14 0,.on 5,.sl 1])],[]⟩ = .ok xM:=by kernel_rfl
theorem aOZ (x:cN) (hx:okD aI x) (hp:(fun _=>True) x):xM.wp [eM] [⟨aI,x⟩] [] (fun v=>v.as aB = (fun x=>lZ x.1 x.2) x):=by
 obtain ⟨a,b⟩:=x
 delta xM eM;refine eS ?_;try with_reducible exact True.intro
 simp only [Bool.not_eq_true',Bool.not_eq_false']
 refine ⟨fun h=>by unfold lZ;rw [if_neg (by rw [h];exact Bool.false_ne_true)],fun h _=>?_⟩
 have hl:=jE h
 rw [show lZ a b = _ from if_pos h]
 refine dG (fun k=>((k:Int),mp k fun i=>if 0 < a.getD i 0 then b.getD i 0 else 0)) a.length rfl fun I μ k hk _ go=>?_
 dsimp only
 simp only [oL,gQ]
 have e1:0 < a.getD k 0→b.getD k 0 = if 0 < a.getD k 0 then b.getD k 0 else 0:=fun h=>(if_pos h).symm
 have e2:a.getD k 0≤0→0 = if 0 < a.getD k 0 then b.getD k 0 else 0:=fun h=>(if_neg (by omega)).symm
 (repeat' first | intro _ | (refine go _ ?_ ?_ ?_) | (refine go _ ?_ ?_) | (with_reducible apply And.intro))
 all_goals first | omega | (unfold maxLen;omega) | (rw [gS];first | exact Prod.ext rfl (congrArg (mp k _ ++ [·]) (e1 (by assumption))) | exact Prod.ext rfl (congrArg (mp k _ ++ [·]) (e2 (by assumption)))) | (have e:k = a.length:=(by omega);subst e;rfl)
theorem aOD:Con.Holds Tryz.prog nI:=aT aY (aK uP aU) aP7 fun x hx hp=>aOZ x hx hp
noncomputable def pC:Con:=⟨277,aO,(.pair tI .bool),[.val ⟨false,tI,[]⟩,.val ⟨false,tI,[]⟩],[⟨false,tI,[0]⟩,⟨false,.bool,[0]⟩],false,none,
 ((fun _=>True):(Int × Int)→Prop),
 ((fun x=>eI x.1 x.2):(Int × Int)→(Int × Bool))⟩
def aA4:T :=
 .call 0 (.p1 tI tI (.vr 0)) <|
 .call 0 (aQ aO 1 (.vr 0)) <|
 .prim (.ar .sub .i64) (.mk2 tI tI (.vr 1) (.vr 2)) <|
 .call 1 (.vr 3) <|
 .ret (.vr 4)
set_option maxRecDepth 100000 in
theorem aQT:bS Tryz.prog [gX,fO] pC false 3000 ⟨[],[]⟩ = .ok aA4:=by kernel_rfl
theorem aSL (x:Int × Int) (hx:okD aO x) (hp:(fun _=>True) x):aA4.wp [gX,fO] [⟨aO,x⟩] [] (fun v=>v.as (.pair tI .bool) = (fun x=>eI x.1 x.2) x):=by
 delta aA4 gX fO;refine eS ?_;try with_reducible exact True.intro
 intro _ _
 have h1:=jA x.1
 have h2:=jA x.2
 exact ⟨by omega,fun _ _=>rfl⟩
theorem aS3:Con.Holds Tryz.prog pC:=aT aY (aK aBD (aK yS aU)) aQT fun x hx hp=>aSL x hx hp
noncomputable def nU:Con:=⟨327,aO,tI,[.val ⟨false,tI,[]⟩,.val ⟨false,tI,[]⟩],[⟨false,tI,[0]⟩],false,none,
 ((fun x=>x.2 = 65536):(Int × Int)→Prop),
 ((fun x=>x.1.fdiv 65536):(Int × Int)→(Int))⟩
def xL:T :=
 .prim (.quo .i64) (.mk2 tI tI (.p1 tI tI (.vr 0)) (aQ aO 1 (.vr 0))) <|
 .prim (.rem .i64) (.mk2 tI tI (.p1 tI tI (.vr 0)) (aQ aO 1 (.vr 0))) <|
 .prim (.cmp .neq .i64) (.mk2 tI tI (.vr 2) (.ci .i64 0)) <|
 .ite (.vr 3) (
  .prim (.cmp .lss .i64) (.mk2 tI tI (.p1 tI tI (.vr 0)) (.ci .i64 0)) <|
  .prim (.cmp .lss .i64) (.mk2 tI tI (aQ aO 1 (.vr 0)) (.ci .i64 0)) <|
  .prim (.eqv true .bool) (.mk2 .bool .bool (.vr 4) (.vr 5)) <|
  .ite (.vr 6) (
   .prim (.ar .sub .i64) (.mk2 tI tI (.vr 1) (.ci .i64 1)) <|
   .ret (.vr 7)) (
   .ret (.vr 1))) (
  .ret (.vr 1))
set_option maxRecDepth 100000 in
theorem aMN:bS Tryz.prog [] nU false 3000 ⟨[],[]⟩ = .ok xL:=by kernel_rfl
theorem aN7 (x:Int × Int) (hx:okD aO x) (hp:(fun x=>x.2 = 65536) x):xL.wp [] [⟨aO,x⟩] [] (fun v=>v.as tI = (fun x=>x.1.fdiv 65536) x):=by
 obtain ⟨a,b⟩:=x
 obtain rfl:b = 65536:=hp
 have e:=bA8 a
 have ha:-9223372036854775808≤a∧a≤9223372036854775807:=hx.1
 have hd:=bE6 ha
 delta xL;refine eS ?_;try with_reducible exact True.intro
 simp only [bDG,bD9,aCN,aCX,show decide ((65536:Int) < 0) = false from rfl,decide_eq_false_iff_not,Classical.not_not]
 rw [e]
 (repeat' first | intro _ | (with_reducible apply And.intro))
 all_goals first | omega | (rw [if_pos ⟨by assumption,by assumption⟩]) | (rw [if_neg (fun h=>by have:=h.2;omega)]) | (rw [if_neg (fun h=>h.1 (by assumption))])
theorem aN4:Con.Holds Tryz.prog nU:=aT aY aU aMN fun x hx hp=>aN7 x hx hp
noncomputable def gF:Con:=⟨311,aO,(.pair tI .bool),[.val ⟨false,tI,[]⟩,.val ⟨false,tI,[]⟩],[⟨false,tI,[0]⟩,⟨false,.bool,[0]⟩],false,none,
 ((fun _=>True):(Int × Int)→Prop),
 ((fun x=>eL x.1 x.2):(Int × Int)→(Int × Bool))⟩
def zR:T :=
 .call 0 (.p1 tI tI (.vr 0)) <|
 .call 0 (aQ aO 1 (.vr 0)) <|
 .prim (.ar .mul .i64) (.mk2 tI tI (.vr 1) (.vr 2)) <|
 .call 1 (.mk2 tI tI (.vr 3) (.ci .i64 65536)) <|
 .call 2 (.vr 4) <|
 .ret (.vr 5)
set_option maxRecDepth 100000 in
theorem aSY:bS Tryz.prog [gX,nU,fO] gF false 3000 ⟨[],[]⟩ = .ok zR:=by kernel_rfl
theorem aS1 (x:Int × Int) (hx:okD aO x) (hp:(fun _=>True) x):zR.wp [gX,nU,fO] [⟨aO,x⟩] [] (fun v=>v.as (.pair tI .bool) = (fun x=>eL x.1 x.2) x):=by
 delta zR gX nU fO;refine eS ?_;try with_reducible exact True.intro
 have h:=bE7 (jA x.1) (jA x.2)
 exact fun _ _=>⟨by omega,fun _ _ _=>rfl⟩
theorem aA9:Con.Holds Tryz.prog gF:=aT aY (aK aBD (aK aN4 (aK yS aU))) aSY fun x hx hp=>aS1 x hx hp
noncomputable def wV:Con:=⟨326,tI,tI,[.val ⟨false,tI,[]⟩],[⟨false,tI,[0]⟩],false,none,
 ((fun _=>True):(Int)→Prop),
 ((fun x=>aFK x):(Int)→(Int))⟩
def aGR:T :=
 .call 0 (.vr 0) <|
 .prim (.mx .i64) (.mk2 tI tI (.ci .i64 0) (.vr 1)) <|
 .ret (.vr 2)
set_option maxRecDepth 100000 in
theorem aYM:bS Tryz.prog [gX] wV false 3000 ⟨[],[]⟩ = .ok aGR:=by kernel_rfl
theorem aZE (x:Int) (hx:okD tI x) (hp:(fun _=>True) x):aGR.wp [gX] [⟨tI,x⟩] [] (fun v=>v.as tI = (fun x=>aFK x) x):=by
 delta aGR gX;refine eS ?_;try with_reducible exact True.intro
 exact fun _ _=>rfl
theorem aZR:Con.Holds Tryz.prog wV:=aT aY (aK aBD aU) aYM fun x hx hp=>aZE x hx hp
noncomputable def kF:Con:=⟨308,aI,(.pair aB .bool),[.val ⟨false,aB,[]⟩,.val ⟨false,aB,[]⟩],[⟨false,aB,[2]⟩,⟨false,.bool,[0]⟩],false,none,
 ((fun _=>True):(cN)→Prop),
 ((fun x=>jO dH x.1 x.2):(cN)→(cG × Bool))⟩
def zZ:T :=
 .loop (.pair tI (.pair .bool aB)) (bF (.pair tI (.pair .bool aB)) [(.ci .i64 0),(.cb false),(.nl 3 tI)]) <|
  .prim (.llen 3 tI) (.p1 aB aB (.vr 0)) <|
  .prim (.cmp .lss .i64) (.mk2 tI tI (.p1 tI (.pair .bool aB) (.vr 1)) (.vr 2)) <|
  .ite (.vr 3) (
   .call 0 (.vr 0) <|
   .ite (.vr 4) (
    .prim (.lidx 3 tI) (.mk2 aB tI (.p1 aB aB (.vr 0)) (.p1 tI (.pair .bool aB) (.vr 1))) <|
    .prim (.lidx 3 tI) (.mk2 aB tI (aQ aI 1 (.vr 0)) (.p1 tI (.pair .bool aB) (.vr 1))) <|
    .call 1 (.mk2 tI tI (.vr 5) (.vr 6)) <|
    .prim (.lit 3 tI 1) (.p1 tI .bool (.vr 7)) <|
    .prim (.lapp 3 tI 8) (.mk2 aB aB (aQ (.pair tI (.pair .bool aB)) 2 (.vr 1)) (.vr 8)) <|
    .ite (aJ (.pair tI (.pair .bool aB)) 1 (.vr 1)) (
     .prim (.ar .add .i64) (.mk2 tI tI (.p1 tI (.pair .bool aB) (.vr 1)) (.ci .i64 1)) <|
     .again 0 (bF (.pair tI (.pair .bool aB)) [(.vr 10),(.cb true),(.vr 9)])) (
     .prim (.ar .add .i64) (.mk2 tI tI (.p1 tI (.pair .bool aB) (.vr 1)) (.ci .i64 1)) <|
     .again 0 (bF (.pair tI (.pair .bool aB)) [(.vr 10),(aQ (.pair tI .bool) 1 (.vr 7)),(.vr 9)]))) (
    .ret (.mk2 aB .bool (aQ (.pair tI (.pair .bool aB)) 2 (.vr 1)) (aJ (.pair tI (.pair .bool aB)) 1 (.vr 1))))) (
   .ret (.mk2 aB .bool (aQ (.pair tI (.pair .bool aB)) 2 (.vr 1)) (aJ (.pair tI (.pair .bool aB)) 1 (.vr 1))))
set_option maxRecDepth 100000 in
theorem aQW:bS Tryz.prog [eN,dM] kF false 3000 ⟨[(2989,1001,[.dr 11,.tm 8 0,.tm 7 0,.on 6,.sl 1])],[]⟩ = .ok zZ:=by kernel_rfl
theorem aS7 (x:cN) (hx:okD aI x) (hp:(fun _=>True) x):zZ.wp [eN,dM] [⟨aI,x⟩] [] (fun v=>v.as (.pair aB .bool) = (fun x=>jO dH x.1 x.2) x):=by
 obtain ⟨a,b⟩:=x
 delta zZ eN dM;refine eS ?_;try with_reducible exact True.intro
 simp only [aUK]
 cases h:mM a b
 ·refine dG (fun _=>((0:Int),false,([]:List Int))) 0 rfl fun I μ k hk _ go=>?_
  dsimp only
  simp only [reduceCtorEq,false_implies,true_implies,forall_const,and_true,true_and,implies_true,oL]
  (repeat' first | intro _ | (refine go _ ?_ ?_ ?_) | (refine go _ ?_ ?_) | (with_reducible apply And.intro))
  all_goals first | omega | exact aEF h
 ·have hl:=jE h
  rw [aB7 h]
  refine dG (fun k=>((k:Int),an k (fun i=>(dH (a.getD i 0) (b.getD i 0)).2),mp k fun i=>(dH (a.getD i 0) (b.getD i 0)).1)) a.length rfl fun I μ k hk _ go=>?_
  dsimp only
  simp only [reduceCtorEq,false_implies,true_implies,forall_const,and_true,true_and,implies_true,oL,gQ]
  (repeat' first | intro _ | (refine go _ ?_ ?_ ?_) | (refine go _ ?_ ?_) | (with_reducible apply And.intro))
  all_goals first | omega | (unfold maxLen;omega) | (rw [gS,kM];first | exact Prod.ext rfl (Prod.ext (gP (by assumption)) rfl) | exact Prod.ext rfl (Prod.ext (kN (by assumption)) rfl)) | (have e:k = a.length:=(by omega);subst e;rfl)
theorem aG1:Con.Holds Tryz.prog kF:=aT aY (aK uI (aK pY aU)) aQW fun x hx hp=>aS7 x hx hp
noncomputable def kH:Con:=⟨197,aI,(.pair aB .bool),[.val ⟨false,aB,[]⟩,.val ⟨false,aB,[]⟩],[⟨false,aB,[2]⟩,⟨false,.bool,[0]⟩],false,none,
 ((fun _=>True):(cN)→Prop),
 ((fun x=>jO eI x.1 x.2):(cN)→(cG × Bool))⟩
def zK:T :=
 .loop (.pair tI (.pair .bool aB)) (bF (.pair tI (.pair .bool aB)) [(.ci .i64 0),(.cb false),(.nl 3 tI)]) <|
  .prim (.llen 3 tI) (.p1 aB aB (.vr 0)) <|
  .prim (.cmp .lss .i64) (.mk2 tI tI (.p1 tI (.pair .bool aB) (.vr 1)) (.vr 2)) <|
  .ite (.vr 3) (
   .call 0 (.vr 0) <|
   .ite (.vr 4) (
    .prim (.lidx 3 tI) (.mk2 aB tI (.p1 aB aB (.vr 0)) (.p1 tI (.pair .bool aB) (.vr 1))) <|
    .prim (.lidx 3 tI) (.mk2 aB tI (aQ aI 1 (.vr 0)) (.p1 tI (.pair .bool aB) (.vr 1))) <|
    .call 1 (.mk2 tI tI (.vr 5) (.vr 6)) <|
    .prim (.lit 3 tI 1) (.p1 tI .bool (.vr 7)) <|
    .prim (.lapp 3 tI 8) (.mk2 aB aB (aQ (.pair tI (.pair .bool aB)) 2 (.vr 1)) (.vr 8)) <|
    .ite (aJ (.pair tI (.pair .bool aB)) 1 (.vr 1)) (
     .prim (.ar .add .i64) (.mk2 tI tI (.p1 tI (.pair .bool aB) (.vr 1)) (.ci .i64 1)) <|
     .again 0 (bF (.pair tI (.pair .bool aB)) [(.vr 10),(.cb true),(.vr 9)])) (
     .prim (.ar .add .i64) (.mk2 tI tI (.p1 tI (.pair .bool aB) (.vr 1)) (.ci .i64 1)) <|
     .again 0 (bF (.pair tI (.pair .bool aB)) [(.vr 10),(aQ (.pair tI .bool) 1 (.vr 7)),(.vr 9)]))) (
    .ret (.mk2 aB .bool (aQ (.pair tI (.pair .bool aB)) 2 (.vr 1)) (aJ (.pair tI (.pair .bool aB)) 1 (.vr 1))))) (
   .ret (.mk2 aB .bool (aQ (.pair tI (.pair .bool aB)) 2 (.vr 1)) (aJ (.pair tI (.pair .bool aB)) 1 (.vr 1))))
set_option maxRecDepth 100000 in
theorem aTB:bS Tryz.prog [eN,pC] kH false 3000 ⟨[(2989,1001,[.dr 11,.tm 8 0,.tm 7 0,.on 6,.sl 1])],[]⟩ = .ok zK:=by kernel_rfl
theorem aR2 (x:cN) (hx:okD aI x) (hp:(fun _=>True) x):zK.wp [eN,pC] [⟨aI,x⟩] [] (fun v=>v.as (.pair aB .bool) = (fun x=>jO eI x.1 x.2) x):=by
 obtain ⟨a,b⟩:=x
 delta zK eN pC;refine eS ?_;try with_reducible exact True.intro
 simp only [aUK]
 cases h:mM a b
 ·refine dG (fun _=>((0:Int),false,([]:List Int))) 0 rfl fun I μ k hk _ go=>?_
  dsimp only
  simp only [reduceCtorEq,false_implies,true_implies,forall_const,and_true,true_and,implies_true,oL]
  (repeat' first | intro _ | (refine go _ ?_ ?_ ?_) | (refine go _ ?_ ?_) | (with_reducible apply And.intro))
  all_goals first | omega | exact aEF h
 ·have hl:=jE h
  rw [aB7 h]
  refine dG (fun k=>((k:Int),an k (fun i=>(eI (a.getD i 0) (b.getD i 0)).2),mp k fun i=>(eI (a.getD i 0) (b.getD i 0)).1)) a.length rfl fun I μ k hk _ go=>?_
  dsimp only
  simp only [reduceCtorEq,false_implies,true_implies,forall_const,and_true,true_and,implies_true,oL,gQ]
  (repeat' first | intro _ | (refine go _ ?_ ?_ ?_) | (refine go _ ?_ ?_) | (with_reducible apply And.intro))
  all_goals first | omega | (unfold maxLen;omega) | (rw [gS,kM];first | exact Prod.ext rfl (Prod.ext (gP (by assumption)) rfl) | exact Prod.ext rfl (Prod.ext (kN (by assumption)) rfl)) | (have e:k = a.length:=(by omega);subst e;rfl)
theorem aEM:Con.Holds Tryz.prog kH:=aT aY (aK uI (aK aS3 aU)) aTB fun x hx hp=>aR2 x hx hp
noncomputable def hK:Con:=⟨310,aD,(.pair aB .bool),[.val ⟨false,tI,[]⟩,.val ⟨false,aB,[]⟩],[⟨false,aB,[2]⟩,⟨false,.bool,[0]⟩],false,none,
 ((fun _=>True):(cE)→Prop),
 ((fun x=>oZ x.1 x.2):(cE)→(cG × Bool))⟩
def uN:T :=
 .loop (.pair tI (.pair .bool aB)) (bF (.pair tI (.pair .bool aB)) [(.ci .i64 0),(.cb false),(.nl 3 tI)]) <|
  .prim (.llen 3 tI) (aQ aD 1 (.vr 0)) <|
  .prim (.cmp .lss .i64) (.mk2 tI tI (.p1 tI (.pair .bool aB) (.vr 1)) (.vr 2)) <|
  .ite (.vr 3) (
   .call 0 (aQ aD 1 (.vr 0)) <|
   .ite (.vr 4) (
    .call 1 (.p1 tI aB (.vr 0)) <|
    .ite (.vr 5) (
     .prim (.lidx 3 tI) (.mk2 aB tI (aQ aD 1 (.vr 0)) (.p1 tI (.pair .bool aB) (.vr 1))) <|
     .call 2 (.mk2 tI tI (.p1 tI aB (.vr 0)) (.vr 6)) <|
     .prim (.lit 3 tI 1) (.p1 tI .bool (.vr 7)) <|
     .prim (.lapp 3 tI 8) (.mk2 aB aB (aQ (.pair tI (.pair .bool aB)) 2 (.vr 1)) (.vr 8)) <|
     .ite (aJ (.pair tI (.pair .bool aB)) 1 (.vr 1)) (
      .prim (.ar .add .i64) (.mk2 tI tI (.p1 tI (.pair .bool aB) (.vr 1)) (.ci .i64 1)) <|
      .again 0 (bF (.pair tI (.pair .bool aB)) [(.vr 10),(.cb true),(.vr 9)])) (
      .prim (.ar .add .i64) (.mk2 tI tI (.p1 tI (.pair .bool aB) (.vr 1)) (.ci .i64 1)) <|
      .again 0 (bF (.pair tI (.pair .bool aB)) [(.vr 10),(aQ (.pair tI .bool) 1 (.vr 7)),(.vr 9)]))) (
     .ret (.mk2 aB .bool (aQ (.pair tI (.pair .bool aB)) 2 (.vr 1)) (aJ (.pair tI (.pair .bool aB)) 1 (.vr 1))))) (
    .ret (.mk2 aB .bool (aQ (.pair tI (.pair .bool aB)) 2 (.vr 1)) (aJ (.pair tI (.pair .bool aB)) 1 (.vr 1))))) (
   .ret (.mk2 aB .bool (aQ (.pair tI (.pair .bool aB)) 2 (.vr 1)) (aJ (.pair tI (.pair .bool aB)) 1 (.vr 1))))
set_option maxRecDepth 100000 in
theorem aL5:bS Tryz.prog [bJ,fP,gF] hK false 3000 ⟨[(2989,1001,[.dr 11,.tm 8 0,.tm 7 0,.on 6,.sl 1])],[]⟩ = .ok uN:=by kernel_rfl
theorem aK4 (x:cE) (hx:okD aD x) (hp:(fun _=>True) x):uN.wp [bJ,fP,gF] [⟨aD,x⟩] [] (fun v=>v.as (.pair aB .bool) = (fun x=>oZ x.1 x.2) x):=by
 obtain ⟨c,a⟩:=x
 delta uN bJ fP gF;refine eS ?_;try with_reducible exact True.intro
 cases h:iA a
 ·refine dG (fun _=>((0:Int),false,([]:List Int))) 0 rfl fun I μ k hk _ go=>?_
  dsimp only
  simp only [reduceCtorEq,false_implies,true_implies,forall_const,and_true,true_and,implies_true,oL]
  (repeat' first | intro _ | (refine go _ ?_ ?_ ?_) | (refine go _ ?_ ?_) | (with_reducible apply And.intro))
  all_goals first | omega | (unfold oZ;rw [if_neg (by rw [h];simp)])
 cases h2:mF c
 ·refine dG (fun _=>((0:Int),false,([]:List Int))) 0 rfl fun I μ k hk _ go=>?_
  dsimp only
  simp only [reduceCtorEq,false_implies,true_implies,forall_const,and_true,true_and,implies_true,oL]
  (repeat' first | intro _ | (refine go _ ?_ ?_ ?_) | (refine go _ ?_ ?_) | (with_reducible apply And.intro))
  all_goals first | omega | (unfold oZ;rw [if_neg (by rw [h2];simp)])
 ·have hl:=(cJ a).1 h
  rw [show oZ c a = _ from if_pos ⟨h2,h⟩]
  refine dG (fun k=>((k:Int),an k (fun i=>(eL c (a.getD i 0)).2),mp k fun i=>(eL c (a.getD i 0)).1)) a.length rfl fun I μ k hk _ go=>?_
  dsimp only
  simp only [reduceCtorEq,false_implies,true_implies,forall_const,and_true,true_and,implies_true,oL,gQ]
  (repeat' first | intro _ | (refine go _ ?_ ?_ ?_) | (refine go _ ?_ ?_) | (with_reducible apply And.intro))
  all_goals first | omega | (unfold maxLen;omega) | (rw [gS,kM];first | exact Prod.ext rfl (Prod.ext (gP (by assumption)) rfl) | exact Prod.ext rfl (Prod.ext (kN (by assumption)) rfl)) | (have e:k = a.length:=(by omega);subst e;rfl)
theorem aBX:Con.Holds Tryz.prog hK:=aT aY (aK fC (aK yJ (aK aA9 aU))) aL5 fun x hx hp=>aK4 x hx hp
noncomputable def eK:Con:=⟨273,aI,(.pair tI .bool),[.val ⟨false,aB,[]⟩,.val ⟨false,aB,[]⟩],[⟨false,tI,[0]⟩,⟨false,.bool,[0]⟩],false,none,
 ((fun _=>True):(cN)→Prop),
 ((fun x=>fD x.1 x.2):(cN)→(Int × Bool))⟩
def aAE:T :=
 .loop (.pair tI (.pair .bool tI)) (bF (.pair tI (.pair .bool tI)) [(.ci .i64 0),(.cb false),(.ci .i64 0)]) <|
  .prim (.llen 3 tI) (.p1 aB aB (.vr 0)) <|
  .prim (.cmp .lss .i64) (.mk2 tI tI (.p1 tI (.pair .bool tI) (.vr 1)) (.vr 2)) <|
  .ite (.vr 3) (
   .call 0 (.vr 0) <|
   .ite (.vr 4) (
    .prim (.lidx 3 tI) (.mk2 aB tI (.p1 aB aB (.vr 0)) (.p1 tI (.pair .bool tI) (.vr 1))) <|
    .prim (.lidx 3 tI) (.mk2 aB tI (aQ aI 1 (.vr 0)) (.p1 tI (.pair .bool tI) (.vr 1))) <|
    .call 1 (.mk2 tI tI (.vr 5) (.vr 6)) <|
    .call 2 (.mk2 tI tI (aQ (.pair tI (.pair .bool tI)) 2 (.vr 1)) (.p1 tI .bool (.vr 7))) <|
    .ite (aJ (.pair tI (.pair .bool tI)) 1 (.vr 1)) (
     .prim (.ar .add .i64) (.mk2 tI tI (.p1 tI (.pair .bool tI) (.vr 1)) (.ci .i64 1)) <|
     .again 0 (bF (.pair tI (.pair .bool tI)) [(.vr 9),(.cb true),(.p1 tI .bool (.vr 8))])) (
     .ite (aQ (.pair tI .bool) 1 (.vr 7)) (
      .prim (.ar .add .i64) (.mk2 tI tI (.p1 tI (.pair .bool tI) (.vr 1)) (.ci .i64 1)) <|
      .again 0 (bF (.pair tI (.pair .bool tI)) [(.vr 9),(.cb true),(.p1 tI .bool (.vr 8))])) (
      .prim (.ar .add .i64) (.mk2 tI tI (.p1 tI (.pair .bool tI) (.vr 1)) (.ci .i64 1)) <|
      .again 0 (bF (.pair tI (.pair .bool tI)) [(.vr 9),(aQ (.pair tI .bool) 1 (.vr 8)),(.p1 tI .bool (.vr 8))])))) (
    .ret (.mk2 tI .bool (aQ (.pair tI (.pair .bool tI)) 2 (.vr 1)) (aJ (.pair tI (.pair .bool tI)) 1 (.vr 1))))) (
   .ret (.mk2 tI .bool (aQ (.pair tI (.pair .bool tI)) 2 (.vr 1)) (aJ (.pair tI (.pair .bool tI)) 1 (.vr 1))))
set_option maxRecDepth 100000 in
theorem aSQ:bS Tryz.prog [eN,gF,dM] eK false 3000 ⟨[(2989,1001,[.tm 8 0,.tm 7 0,.tm 6 0])],[]⟩ = .ok aAE:=by kernel_rfl
theorem aTQ (x:cN) (hx:okD aI x) (hp:(fun _=>True) x):aAE.wp [eN,gF,dM] [⟨aI,x⟩] [] (fun v=>v.as (.pair tI .bool) = (fun x=>fD x.1 x.2) x):=by
 obtain ⟨a,b⟩:=x
 delta aAE eN gF dM;refine eS ?_;try with_reducible exact True.intro
 simp only [aUK]
 cases h:mM a b
 ·refine dG (fun _=>((0:Int),false,(0:Int))) 0 rfl fun I μ k hk _ go=>?_
  dsimp only
  simp only [reduceCtorEq,false_implies,true_implies,forall_const,and_true,true_and,implies_true,oL]
  (repeat' first | intro _ | (refine go _ ?_ ?_ ?_) | (refine go _ ?_ ?_) | (with_reducible apply And.intro))
  all_goals first | omega | (unfold fD;rw [if_neg (by rw [h];exact Bool.false_ne_true)])
 ·have hl:=jE h
  rw [show fD a b = _ from if_pos h]
  refine dG (fun k=>((k:Int),(aCY a b k).2,(aCY a b k).1)) a.length rfl fun I μ k hk _ go=>?_
  dsimp only
  simp only [reduceCtorEq,false_implies,true_implies,forall_const,and_true,true_and,implies_true,oL]
  (repeat' first | intro _ | (refine go _ ?_ ?_ ?_) | (refine go _ ?_ ?_) | (with_reducible apply And.intro))
  all_goals first | omega | (rw [aII];first | exact Prod.ext rfl (Prod.ext (bCP (by assumption)) rfl) | exact Prod.ext rfl (Prod.ext (bCM (by assumption) (by assumption)) rfl) | exact Prod.ext rfl (Prod.ext (bCV (by assumption) (by assumption)) rfl)) | (have e:k = a.length:=(by omega);subst e;rfl)
theorem uS:Con.Holds Tryz.prog eK:=aT aY (aK uI (aK aA9 (aK pY aU))) aSQ fun x hx hp=>aTQ x hx hp
noncomputable def nT:Con:=⟨309,aB,aB,[.val ⟨false,aB,[]⟩],[⟨false,aB,[2]⟩],false,none,
 ((fun _=>True):(List Int)→Prop),
 ((fun x=>mI x):(List Int)→(List Int))⟩
def xZ:T :=
 .loop aD (.mk2 tI aB (.ci .i64 0) (.nl 3 tI)) <|
  .prim (.llen 3 tI) (.vr 0) <|
  .prim (.cmp .lss .i64) (.mk2 tI tI (.p1 tI aB (.vr 1)) (.vr 2)) <|
  .ite (.vr 3) (
   .call 0 (.vr 0) <|
   .ite (.vr 4) (
    .prim (.lidx 3 tI) (.mk2 aB tI (.vr 0) (.p1 tI aB (.vr 1))) <|
    .call 1 (.vr 5) <|
    .prim (.lit 3 tI 1) (.vr 6) <|
    .prim (.lapp 3 tI 8) (.mk2 aB aB (aQ aD 1 (.vr 1)) (.vr 7)) <|
    .prim (.ar .add .i64) (.mk2 tI tI (.p1 tI aB (.vr 1)) (.ci .i64 1)) <|
    .again 0 (.mk2 tI aB (.vr 9) (.vr 8))) (
    .ret (aQ aD 1 (.vr 1)))) (
   .ret (aQ aD 1 (.vr 1)))
set_option maxRecDepth 100000 in
theorem aMZ:bS Tryz.prog [bJ,wV] nT false 3000 ⟨[(2991,1001,[.dr 5,.tm 4 0,.on 3,.sl 1])],[]⟩ = .ok xZ:=by kernel_rfl
theorem aPR (x:List Int) (hx:okD aB x) (hp:(fun _=>True) x):xZ.wp [bJ,wV] [⟨aB,x⟩] [] (fun v=>v.as aB = (fun x=>mI x) x):=by
 obtain ⟨a,rfl⟩:∃ a,a = x:=⟨_,rfl⟩
 delta xZ bJ wV;refine eS ?_;try with_reducible exact True.intro
 cases h:iA a
 ·refine dG (fun _=>((0:Int),([]:List Int))) 0 rfl fun I μ k hk _ go=>?_
  dsimp only
  simp only [reduceCtorEq,false_implies,true_implies,forall_const,and_true,true_and,implies_true,oL]
  (repeat' first | intro _ | (refine go _ ?_ ?_ ?_) | (refine go _ ?_ ?_) | (with_reducible apply And.intro))
  all_goals first | omega | (unfold mI;rw [if_neg (by rw [h];exact Bool.false_ne_true)])
 ·have hl:=(cJ a).1 h
  rw [show mI a = _ from if_pos h]
  refine dG (fun k=>((k:Int),mp k fun i=>aFK (a.getD i 0))) a.length rfl fun I μ k hk _ go=>?_
  dsimp only
  simp only [reduceCtorEq,false_implies,true_implies,forall_const,and_true,true_and,implies_true,oL,gQ]
  (repeat' first | intro _ | (refine go _ ?_ ?_ ?_) | (refine go _ ?_ ?_) | (with_reducible apply And.intro))
  all_goals first | omega | (unfold maxLen;omega) | (rw [gS];rfl) | (have e:k = a.length:=(by omega);subst e;rfl)
theorem aPQ:Con.Holds Tryz.prog nT:=aT aY (aK fC (aK aZR aU)) aMZ fun x hx hp=>aPR x hx hp
noncomputable def nR:Con:=⟨312,aI,aB,[.val ⟨false,aB,[]⟩,.val ⟨false,aB,[]⟩],[⟨false,aB,[2]⟩],false,none,
 ((fun _=>True):(cN)→Prop),
 ((fun x=>lZ x.1 x.2):(cN)→(List Int))⟩
def wQ:T :=
 .loop aD (.mk2 tI aB (.ci .i64 0) (.nl 3 tI)) <|
  .prim (.llen 3 tI) (.p1 aB aB (.vr 0)) <|
  .prim (.cmp .lss .i64) (.mk2 tI tI (.p1 tI aB (.vr 1)) (.vr 2)) <|
  .ite (.vr 3) (
   .call 0 (.vr 0) <|
   .ite (.vr 4) (
    .prim (.lidx 3 tI) (.mk2 aB tI (.p1 aB aB (.vr 0)) (.p1 tI aB (.vr 1))) <|
    .prim (.cmp .gtr .i64) (.mk2 tI tI (.vr 5) (.ci .i64 0)) <|
    .ite (.vr 6) (
     .prim (.lidx 3 tI) (.mk2 aB tI (aQ aI 1 (.vr 0)) (.p1 tI aB (.vr 1))) <|
     .prim (.lit 3 tI 1) (.vr 7) <|
     .prim (.lapp 3 tI 8) (.mk2 aB aB (aQ aD 1 (.vr 1)) (.vr 8)) <|
     .prim (.ar .add .i64) (.mk2 tI tI (.p1 tI aB (.vr 1)) (.ci .i64 1)) <|
     .again 0 (.mk2 tI aB (.vr 10) (.vr 9))) (
     .prim (.lit 3 tI 1) (.ci .i64 0) <|
     .prim (.lapp 3 tI 8) (.mk2 aB aB (aQ aD 1 (.vr 1)) (.vr 7)) <|
     .prim (.ar .add .i64) (.mk2 tI tI (.p1 tI aB (.vr 1)) (.ci .i64 1)) <|
     .again 0 (.mk2 tI aB (.vr 9) (.vr 8)))) (
    .ret (aQ aD 1 (.vr 1)))) (
   .ret (aQ aD 1 (.vr 1)))
set_option maxRecDepth 100000 in
theorem aMS:bS Tryz.prog [eN] nR false 3000 ⟨[(2991,1001,[.dr 7,.tm 6 0,.on 5,.sl 1])],[]⟩ = .ok wQ:=by kernel_rfl
theorem aNM (x:cN) (hx:okD aI x) (hp:(fun _=>True) x):wQ.wp [eN] [⟨aI,x⟩] [] (fun v=>v.as aB = (fun x=>lZ x.1 x.2) x):=by
 obtain ⟨a,b⟩:=x
 delta wQ eN;refine eS ?_;try with_reducible exact True.intro
 simp only [aUK]
 cases h:mM a b
 ·refine dG (fun _=>((0:Int),([]:List Int))) 0 rfl fun I μ k hk _ go=>?_
  dsimp only
  simp only [reduceCtorEq,false_implies,true_implies,forall_const,and_true,true_and,implies_true,oL]
  (repeat' first | intro _ | (refine go _ ?_ ?_ ?_) | (refine go _ ?_ ?_) | (with_reducible apply And.intro))
  all_goals first | omega | (unfold lZ;rw [if_neg (by rw [h];exact Bool.false_ne_true)])
 ·have hl:=jE h
  rw [show lZ a b = _ from if_pos h]
  refine dG (fun k=>((k:Int),mp k fun i=>if 0 < a.getD i 0 then b.getD i 0 else 0)) a.length rfl fun I μ k hk _ go=>?_
  dsimp only
  simp only [reduceCtorEq,false_implies,true_implies,forall_const,and_true,true_and,implies_true,oL,gQ]
  have e1:0 < a.getD k 0→b.getD k 0 = if 0 < a.getD k 0 then b.getD k 0 else 0:=fun h=>(if_pos h).symm
  have e2:a.getD k 0≤0→0 = if 0 < a.getD k 0 then b.getD k 0 else 0:=fun h=>(if_neg (by omega)).symm
  (repeat' first | intro _ | (refine go _ ?_ ?_ ?_) | (refine go _ ?_ ?_) | (with_reducible apply And.intro))
  all_goals first | omega | (unfold maxLen;omega) | (rw [gS];first | exact Prod.ext rfl (congrArg (mp k _ ++ [·]) (e1 (by assumption))) | exact Prod.ext rfl (congrArg (mp k _ ++ [·]) (e2 (by assumption)))) | (have e:k = a.length:=(by omega);subst e;rfl)
theorem aMB:Con.Holds Tryz.prog nR:=aT aY (aK uI aU) aMS fun x hx hp=>aNM x hx hp
end Go.Proofs.YtmfpkkbhnmkfdaaGreat
