/- Core6: trees, and what they say. -/
import Derived.Test.YtmfpkkbhnmkfdaaGreatSeq5
import Derived.Test.YtmfpkkbhnmkfdaaGreatPipe4
import Derived.Test.YtmfpkkbhnmkfdaaGreatCe
namespace Go.Proofs.YtmfpkkbhnmkfdaaGreat
open Go.ChangeShapes Go.WideShapes Go.ChangeAt Go.RowKit Go.Deep
set_option linter.unusedVariables false
set_option linter.unusedSimpArgs false
theorem lN:{t:Ty}→{d:t.D}→aW t d≤1000000000→aWN t d:=by
 intro t
 induction t with
 | int k=>intros;trivial
 | bool=>intros;trivial
 | str=>intros;trivial
 | pair a b iha ihb =>
  intro d h
  have h':aW a d.1 + aW b d.2≤1000000000:=h
  exact ⟨iha (by omega),ihb (by omega)⟩
 | slice e t ih =>
  intro l h
  exact ⟨Nat.le_trans (aC2 (e:=e) l) h,fun x hx=>ih (Nat.le_trans (aEI (e:=e) hx) h)⟩
theorem aEE {e:TypeId} {l:dD} (h:aWN (.slice e bG) l):List.length l≤1000000000∧∀ y ∈ l,List.length y≤1000000000:=⟨h.1,fun y hy=>(h.2 y hy).1⟩
theorem aN8 {g:fH} (h:aWN aM g):iJ g:=aEE h.1
def aYD:cE:=aS aD
noncomputable def qV (q:bZ) (x:cE):bZ × Bool:=if fS q = true∧tK x = true∧(q.2.length:Int) < q.1 then ((q.1,q.2 ++ [x]),true) else (q,false)
noncomputable def sN (q:bZ):bZ × (cE × Bool):=if fS q = true∧0 < q.2.length then ((q.1,q.2.drop 1),q.2.getD 0 aYD,true) else (q,aYD,false)
theorem fQ {q:bZ} {x:cE} (h:fS q = false∨tK x = false∨¬ (q.2.length:Int) < q.1):(q,false) = qV q x:=by
 unfold qV;rw [if_neg]
 rintro ⟨h1,h2,h3⟩
 rcases h with h | h | h
 ·rw [h] at h1;cases h1
 ·rw [h] at h2;cases h2
 ·exact h h3
theorem nM {q:bZ} {x:cE} (h1:fS q = true) (h2:tK x = true) (h3:(q.2.length:Int) < q.1):((q.1,q.2 ++ [x]),true) = qV q x:=by unfold qV;rw [if_pos ⟨h1,h2,h3⟩]
theorem wY {q:bZ} (h:fS q = false∨q.2.length = 0):(q,(0,[]),false) = sN q:=by
 unfold sN;rw [if_neg]
 ·rfl
 rintro ⟨h1,h2⟩
 rcases h with h | h
 ·rw [h] at h1;cases h1
 ·omega
theorem rJ {q:bZ} (h1:fS q = true) (h2:0 < q.2.length):((q.1,q.2.drop 1),q.2.getD 0 aYD,true) = sN q:=by unfold sN;rw [if_pos ⟨h1,h2⟩]
theorem wJ {x:cE} (h:iA x.2 = false∨x.1 < 0∨4 < x.1):tK x = false:=by
 refine Bool.eq_false_iff.2 fun hh=>?_
 rw [jD] at hh
 rcases h with h | h
 ·rw [h] at hh;cases hh.1
 ·omega
theorem aK2 {x:cE} (h:iA x.2 = true) (h2:0≤x.1) (h3:x.1 < 5):tK x = true:=(jD _).2 ⟨h,h2,h3⟩
theorem xN {x:cE} (h:tK x = true):x.2.length≤6:=((cJ _).1 ((jD _).1 h).1).2.1
theorem yO {q:bZ} (h:fS q = true):(q.2.length:Int)≤q.1∧q.2.length≤5:=by have:=(mH.1 h).1;omega
theorem qX {q:bZ} (h:fS q = true) (h2:0 < q.2.length):(q.2.getD 0 (aS aD)).2.length≤6:=xN ((mH.1 h).2 0 h2)
def lQ (l:List iX) (m:Int):Nat→Int
 | 0=>-1
 | k + 1=>if lQ l m k = -1∧(l.getD k (aS aC)).1 = m then (k:Int) else lQ l m k
def dR (l:List iX) (m:Int):Int:=lQ l m l.length
theorem vU (l:List iX) (m:Int):(k:Nat)→-1≤lQ l m k∧lQ l m k < k
 | 0=>by unfold lQ;omega
 | k + 1=>by
  have:=vU l m k
  unfold lQ;split <;> omega
theorem aH5 {l : List iX} {m : Int} : {k n : Nat} → k ≤ n → lQ l m k ≠ -1 → lQ l m n = lQ l m k
  | k, 0, h, _ => by have : k = 0 := by omega
                     subst this; rfl
  | k, n + 1, h, hk => by
    rcases Nat.lt_or_eq_of_le h with h | rfl
    · have e := aH5 (Nat.le_of_lt_succ h) hk
      rw [lQ, if_neg (fun hh => hk (e ▸ hh.1)), e]
    · rfl
theorem aIR {l:List iX} {m:Int} {k:Nat} (hk:k < l.length) (h:lQ l m k = -1) (hm:(l.getD k (aS aC)).1 = m):(k:Int) = dR l m:=by
 have e:lQ l m (k + 1) = k:=by rw [lQ,if_pos ⟨h,hm⟩]
 unfold dR
 rw [aH5 (k:=k + 1) hk (by omega),e]
theorem aIU {l:List iX} {m:Int} {k:Nat} (h:lQ l m k = -1) (hm:¬ (l.getD k (aS aC)).1 = m):lQ l m (k + 1) = -1:=by rw [lQ,if_neg (fun hh=>hm hh.2),h]
noncomputable def kZ:Con:=⟨144,aX,aX,[.val ⟨false,aX,[]⟩],[⟨false,aX,[2]⟩],false,none,
 ((fun x=>aW aX x≤1000000000):(aLY)→Prop),
 ((fun x=>x):(aLY)→(aLY))⟩
def rP:T :=
 .prim (.llen 126 aI) (.vr 0) <|
 .loop (.pair tI aX) (.mk2 tI aX (.ci .i64 0) (.nl 126 aI)) <|
  .prim (.cmp .lss .i64) (.mk2 tI tI (.p1 tI aX (.vr 2)) (.vr 1)) <|
  .ite (.vr 3) (
   .prim (.lidx 126 aI) (.mk2 aX tI (.vr 0) (.p1 tI aX (.vr 2))) <|
   .call 0 (.p1 aB aB (.vr 4)) <|
   .call 0 (aQ aI 1 (.vr 4)) <|
   .prim (.lit 126 aI 1) (.mk2 aB aB (.vr 5) (.vr 6)) <|
   .prim (.lapp 126 aI 48) (.mk2 aX aX (aQ (.pair tI aX) 1 (.vr 2)) (.vr 7)) <|
   .prim (.ar .add .i64) (.mk2 tI tI (.p1 tI aX (.vr 2)) (.ci .i64 1)) <|
   .again 0 (.mk2 tI aX (.vr 9) (.vr 8))) (
   .ret (aQ (.pair tI aX) 1 (.vr 2)))
set_option maxRecDepth 100000 in
theorem aHJ:bS Tryz.prog [bN] kZ false 3000 ⟨[(2991,1002,[.dr 6,.dr 0,.tm 9 0,.on 3,.sl 1])],[(2981,3005,[19,16],[])]⟩ = .ok rP:=by kernel_rfl
theorem aI3 (x:aLY) (hx:okD aX x) (hp:(fun x=>aW aX x≤1000000000) x):rP.wp [bN] [⟨aX,x⟩] [] (fun v=>v.as aX = (fun x=>x) x):=by
 have hB:=lN (t:=aX) hp
 delta rP bN;refine eS ?_;try with_reducible exact True.intro
 (repeat' first | intro _ | (with_reducible apply And.intro))
 all_goals first | omega | (unfold maxLen;omega) | skip
 refine dG (fun k=>((k:Int),List.take k x)) (List.length x) rfl fun I μ k hk _ go=>?_
 dsimp only
 (refine gR ?_;try with_reducible exact True.intro)
 by_cases hkn:k < List.length x
 ·have hm:=hB.2 _ (List.getElem_mem hkn)
  have hn:=hB.1
  rw [bD hkn]
  (repeat' first | intro _ | (refine go _ ?_ ?_ ?_) | (refine go _ ?_ ?_) | (with_reducible apply And.intro))
  all_goals first | omega | exact hm.1.1 | exact hm.2.1 | (simp only [List.length_take];unfold maxLen;omega) | (simp only [List.length_take];omega) | (rw [iB hkn];rfl)
 ·(repeat' first | intro _ | (refine go _ ?_ ?_ ?_) | (refine go _ ?_ ?_) | (with_reducible apply And.intro))
  all_goals first | omega | (have e:k = List.length x:=(by omega);subst e;exact List.take_length)
theorem aI0:Con.Holds Tryz.prog kZ:=aT aY (aK fW aU) aHJ fun x hx hp=>aI3 x hx hp
noncomputable def nH:Con:=⟨236,aN,aN,[.val ⟨false,aN,[]⟩],[⟨false,aN,[2]⟩],false,none,
 ((fun x=>aW aN x≤1000000000):(dA)→Prop),
 ((fun x=>x):(dA)→(dA))⟩
def wP:T :=
 .prim (.llen 219 aZ) (.vr 0) <|
 .loop (.pair tI aN) (.mk2 tI aN (.ci .i64 0) (.nl 219 aZ)) <|
  .prim (.cmp .lss .i64) (.mk2 tI tI (.p1 tI aN (.vr 2)) (.vr 1)) <|
  .ite (.vr 3) (
   .prim (.lidx 219 aZ) (.mk2 aN tI (.vr 0) (.p1 tI aN (.vr 2))) <|
   .call 0 (aQ aZ 3 (.vr 4)) <|
   .prim (.lit 219 aZ 1) (bF aZ [(.p1 tI (.pair tI aD) (.vr 4)),(aJ aZ 1 (.vr 4)),(aJ aZ 2 (.vr 4)),(.vr 5)]) <|
   .prim (.lapp 219 aZ 48) (.mk2 aN aN (aQ (.pair tI aN) 1 (.vr 2)) (.vr 6)) <|
   .prim (.ar .add .i64) (.mk2 tI tI (.p1 tI aN (.vr 2)) (.ci .i64 1)) <|
   .again 0 (.mk2 tI aN (.vr 8) (.vr 7))) (
   .ret (aQ (.pair tI aN) 1 (.vr 2)))
set_option maxRecDepth 100000 in
theorem aPH:bS Tryz.prog [bN] nH false 3000 ⟨[(2991,1002,[.dr 6,.dr 0,.tm 9 0,.on 3,.sl 1])],[(2981,3005,[22],[])]⟩ = .ok wP:=by kernel_rfl
theorem aN5 (x:dA) (hx:okD aN x) (hp:(fun x=>aW aN x≤1000000000) x):wP.wp [bN] [⟨aN,x⟩] [] (fun v=>v.as aN = (fun x=>x) x):=by
 have hB:=lN (t:=aN) hp
 delta wP bN;refine eS ?_;try with_reducible exact True.intro
 (repeat' first | intro _ | (with_reducible apply And.intro))
 all_goals first | omega | (unfold maxLen;omega) | skip
 refine dG (fun k=>((k:Int),List.take k x)) (List.length x) rfl fun I μ k hk _ go=>?_
 dsimp only
 (refine gR ?_;try with_reducible exact True.intro)
 by_cases hkn:k < List.length x
 ·have hm:=hB.2 _ (List.getElem_mem hkn)
  have hn:=hB.1
  rw [bD hkn]
  (repeat' first | intro _ | (refine go _ ?_ ?_ ?_) | (refine go _ ?_ ?_) | (with_reducible apply And.intro))
  all_goals first | omega | exact hm.2.2.2.1 | (simp only [List.length_take];unfold maxLen;omega) | (simp only [List.length_take];omega) | (rw [iB hkn];rfl)
 ·(repeat' first | intro _ | (refine go _ ?_ ?_ ?_) | (refine go _ ?_ ?_) | (with_reducible apply And.intro))
  all_goals first | omega | (have e:k = List.length x:=(by omega);subst e;exact List.take_length)
theorem aMO:Con.Holds Tryz.prog nH:=aT aY (aK fW aU) aPH fun x hx hp=>aN5 x hx hp
noncomputable def eA:Con:=⟨179,aE,aE,[.val ⟨true,aE,[]⟩],[⟨true,aE,[0,2]⟩],false,none,
 ((fun x=>aW aE x≤1000000000):(bZ)→Prop),
 ((fun x=>x):(bZ)→(bZ))⟩
def sB:T :=
 .prim (.llen 161 aD) (aQ aE 1 (.vr 0)) <|
 .loop aE (.mk2 tI (.slice 161 aD) (.ci .i64 0) (.nl 161 aD)) <|
  .prim (.cmp .lss .i64) (.mk2 tI tI (.p1 tI (.slice 161 aD) (.vr 2)) (.vr 1)) <|
  .ite (.vr 3) (
   .prim (.lidx 161 aD) (.mk2 (.slice 161 aD) tI (aQ aE 1 (.vr 0)) (.p1 tI (.slice 161 aD) (.vr 2))) <|
   .call 0 (aQ aD 1 (.vr 4)) <|
   .prim (.lit 161 aD 1) (.mk2 tI aB (.p1 tI aB (.vr 4)) (.vr 5)) <|
   .prim (.lapp 161 aD 32) (.mk2 (.slice 161 aD) (.slice 161 aD) (aQ aE 1 (.vr 2)) (.vr 6)) <|
   .prim (.ar .add .i64) (.mk2 tI tI (.p1 tI (.slice 161 aD) (.vr 2)) (.ci .i64 1)) <|
   .again 0 (.mk2 tI (.slice 161 aD) (.vr 8) (.vr 7))) (
   .ret (.mk2 tI (.slice 161 aD) (.p1 tI (.slice 161 aD) (.vr 0)) (aQ aE 1 (.vr 2))))
set_option maxRecDepth 100000 in
theorem aHV:bS Tryz.prog [bN] eA false 3000 ⟨[(2991,1002,mL 9 6 ++ [.dr 1,.dr 0,.tm 12 0,.sl 6])],[(2981,3005,[22],[])]⟩ = .ok sB:=by kernel_rfl
theorem aHT (x:bZ) (hx:okD aE x) (hp:(fun x=>aW aE x≤1000000000) x):sB.wp [bN] [⟨aE,x⟩] [] (fun v=>v.as aE = (fun x=>x) x):=by
 obtain ⟨c,l⟩:=x
 have hB:=(lN (t:=aE) hp).2
 have hn:List.length l≤1000000000:=hB.1
 delta sB bN;refine eS ?_;try with_reducible exact True.intro
 (repeat' first | intro _ | (with_reducible apply And.intro))
 all_goals first | omega | (unfold maxLen;omega) | skip
 refine dG (fun k=>((k:Int),List.take k l)) (List.length l) rfl fun I μ k hk _ go=>?_
 dsimp only
 (refine gR ?_;try with_reducible exact True.intro)
 by_cases hkn:k < List.length l
 ·have hm:=hB.2 _ (List.getElem_mem hkn)
  have hn:=hB.1
  rw [bD hkn]
  (repeat' first | intro _ | (refine go _ ?_ ?_ ?_) | (refine go _ ?_ ?_) | (with_reducible apply And.intro))
  all_goals first | omega | exact hm.2.1 | (simp only [List.length_take];unfold maxLen;omega) | (simp only [List.length_take];omega) | (rw [iB hkn];rfl)
 ·(repeat' first | intro _ | (refine go _ ?_ ?_ ?_) | (refine go _ ?_ ?_) | (with_reducible apply And.intro))
  all_goals first | omega | (have e:k = List.length l:=(by omega);subst e;exact congrArg (Prod.mk c) List.take_length)
theorem sA:Con.Holds Tryz.prog eA:=aT aY (aK fW aU) aHV fun x hx hp=>aHT x hx hp
noncomputable def fN:Con:=⟨114,aE,aE,[.val ⟨true,aE,[]⟩],[⟨true,aE,[0,2]⟩],false,none,
 ((fun x=>aW aE x≤1000000000):(bZ)→Prop),
 ((fun x=>x):(bZ)→(bZ))⟩
def xD:T :=
 .loop aE (.mk2 tI (.slice 161 aD) (.ci .i64 0) (.nl 161 aD)) <|
  .prim (.llen 161 aD) (aQ aE 1 (.vr 0)) <|
  .prim (.cmp .lss .i64) (.mk2 tI tI (.p1 tI (.slice 161 aD) (.vr 1)) (.vr 2)) <|
  .ite (.vr 3) (
   .prim (.lidx 161 aD) (.mk2 (.slice 161 aD) tI (aQ aE 1 (.vr 0)) (.p1 tI (.slice 161 aD) (.vr 1))) <|
   .prim (.lidx 161 aD) (.mk2 (.slice 161 aD) tI (aQ aE 1 (.vr 0)) (.p1 tI (.slice 161 aD) (.vr 1))) <|
   .prim (.lapp 3 tI 8) (.mk2 aB aB (.nl 3 tI) (aQ aD 1 (.vr 5))) <|
   .prim (.lit 161 aD 1) (.mk2 tI aB (.p1 tI aB (.vr 4)) (.vr 6)) <|
   .prim (.lapp 161 aD 32) (.mk2 (.slice 161 aD) (.slice 161 aD) (aQ aE 1 (.vr 1)) (.vr 7)) <|
   .prim (.ar .add .i64) (.mk2 tI tI (.p1 tI (.slice 161 aD) (.vr 1)) (.ci .i64 1)) <|
   .again 0 (.mk2 tI (.slice 161 aD) (.vr 9) (.vr 8))) (
   .ret (.mk2 tI (.slice 161 aD) (.p1 tI (.slice 161 aD) (.vr 0)) (aQ aE 1 (.vr 1))))
set_option maxRecDepth 100000 in
theorem aMR:bS Tryz.prog [] fN false 3000 ⟨[(2991,1001,[.dr 5,.dr 0,.tm 4 0,.on 3,.sl 4])],[(2983,3004,[27],[])]⟩ = .ok xD:=by kernel_rfl
theorem aN6 (x:bZ) (hx:okD aE x) (hp:(fun x=>aW aE x≤1000000000) x):xD.wp [] [⟨aE,x⟩] [] (fun v=>v.as aE = (fun x=>x) x):=by
 obtain ⟨c,l⟩:=x
 have hB:=(lN (t:=aE) hp).2
 have hn:List.length l≤1000000000:=hB.1
 delta xD;refine eS ?_;try with_reducible exact True.intro
 (repeat' first | intro _ | (with_reducible apply And.intro))
 all_goals first | omega | (unfold maxLen;omega) | skip
 refine dG (fun k=>((k:Int),List.take k l)) (List.length l) rfl fun I μ k hk _ go=>?_
 dsimp only
 (refine gR ?_;try with_reducible exact True.intro)
 by_cases hkn:k < List.length l
 ·have hm:=hB.2 _ (List.getElem_mem hkn)
  have hn:=hB.1
  have hn2:=hm.2.1
  rw [bD hkn]
  (repeat' first | intro _ | (refine go _ ?_ ?_ ?_) | (refine go _ ?_ ?_) | (with_reducible apply And.intro))
  all_goals first | omega | (unfold maxLen;omega) | (simp only [List.length_take];unfold maxLen;omega) | (simp only [List.length_take];omega) | (rw [iB hkn];rfl)
 ·(repeat' first | intro _ | (refine go _ ?_ ?_ ?_) | (refine go _ ?_ ?_) | (with_reducible apply And.intro))
  all_goals first | omega | (have e:k = List.length l:=(by omega);subst e;exact congrArg (Prod.mk c) List.take_length)
theorem wZ:Con.Holds Tryz.prog fN:=aT aY aU aMR fun x hx hp=>aN6 x hx hp
noncomputable def xW:Con:=⟨127,(.pair aE aD),(.pair aE .bool),[.val ⟨true,aE,[]⟩,.val ⟨true,aD,[]⟩],[⟨true,aE,[0,2]⟩,⟨false,.bool,[0]⟩],false,none,
 ((fun x=>aW aE x.1≤1000000000):(bZ × cE)→Prop),
 ((fun x=>qV x.1 x.2):(bZ × cE)→(bZ × Bool))⟩
def aG2:T :=
 .call 0 (.p1 aE aD (.vr 0)) <|
 .call 1 (.p1 aE aD (.vr 0)) <|
 .prim .not (.vr 2) <|
 .ite (.vr 3) (
  .ret (.mk2 aE .bool (.vr 1) (.cb false))) (
  .call 2 (aQ (.pair aE aD) 1 (.vr 0)) <|
  .prim .not (.vr 4) <|
  .ite (.vr 5) (
   .ret (.mk2 aE .bool (.vr 1) (.cb false))) (
   .prim (.llen 161 aD) (aQ aE 1 (.p1 aE aD (.vr 0))) <|
   .prim (.cmp .eql .i64) (.mk2 tI tI (.vr 6) (.p1 tI (.slice 161 aD) (.p1 aE aD (.vr 0)))) <|
   .ite (.vr 7) (
    .ret (.mk2 aE .bool (.vr 1) (.cb false))) (
    .call 3 (aQ (.pair aE aD) 2 (.vr 0)) <|
    .prim (.lit 161 aD 1) (.mk2 tI aB (aJ (.pair aE aD) 1 (.vr 0)) (.vr 8)) <|
    .prim (.lapp 161 aD 32) (.mk2 (.slice 161 aD) (.slice 161 aD) (aQ aE 1 (.vr 1)) (.vr 9)) <|
    .ret (.mk2 aE .bool (.mk2 tI (.slice 161 aD) (.p1 tI (.slice 161 aD) (.vr 1)) (.vr 10)) (.cb true)))))
set_option maxRecDepth 100000 in
theorem aXW:bS Tryz.prog [eA,fL,jU,bN] xW false 3000 ⟨[],[(2989,8008,[32],[])]⟩ = .ok aG2:=by kernel_rfl
theorem aZ6 (x:bZ × cE) (hx:okD (.pair aE aD) x) (hp:(fun x=>aW aE x.1≤1000000000) x):aG2.wp [eA,fL,jU,bN] [⟨(.pair aE aD),x⟩] [] (fun v=>v.as (.pair aE .bool) = (fun x=>qV x.1 x.2) x):=by
 obtain ⟨q,y⟩:=x
 have hB:=lN (t:=aE) hp
 delta aG2 eA fL jU bN;refine eS ?_;try with_reducible exact True.intro
 refine ⟨hp,fun _=>?_⟩
 (repeat' first | intro _ | (with_reducible apply And.intro))
 all_goals simp only [oL] at *
 all_goals try have hqq:=yO (by assumption)
 all_goals try have hq8:=qX (by assumption) (by omega)
 all_goals try have hq6:=xN (by assumption)
 all_goals try have hq7:=(cJ _).1 (by assumption)
 all_goals first | omega | (unfold maxLen;omega) | exact fQ (.inl (by assumption)) | exact fQ (.inr (.inl (by assumption))) | exact fQ (.inr (.inr (by omega))) | exact wY (.inl (by assumption)) | exact wY (.inr (by omega)) | exact nM (by assumption) (by assumption) (by omega) | exact rJ (by assumption) (by omega) | (rw [List.take_length];exact rJ (by assumption) (by omega)) | exact fQ (.inr (.inl (wJ (.inl (by assumption))))) | exact fQ (.inr (.inl (wJ (.inr (by omega))))) | exact nM (by assumption) (aK2 (by assumption) (by omega) (by omega)) (by omega) | skip
theorem aXT:Con.Holds Tryz.prog xW:=aT aY (aK sA (aK vJ (aK aGV (aK fW aU)))) aXW fun x hx hp=>aZ6 x hx hp
noncomputable def dZ:Con:=⟨208,(.pair (.slice 186 aC) tI),tI,[.val ⟨false,(.slice 186 aC),[]⟩,.val ⟨false,tI,[]⟩],[⟨false,tI,[0]⟩],false,none,
 ((fun _=>True):((List iX) × Int)→Prop),
 ((fun x=>dR x.1 x.2):((List iX) × Int)→(Int))⟩
def rU:T :=
 .prim (.llen 186 aC) (.p1 (.slice 186 aC) tI (.vr 0)) <|
 .loop tI (.ci .i64 0) <|
  .prim (.cmp .lss .i64) (.mk2 tI tI (.vr 2) (.vr 1)) <|
  .ite (.vr 3) (
   .prim (.lidx 186 aC) (.mk2 (.slice 186 aC) tI (.p1 (.slice 186 aC) tI (.vr 0)) (.vr 2)) <|
   .prim (.cmp .eql .i64) (.mk2 tI tI (.p1 tI aG (.vr 4)) (aQ (.pair (.slice 186 aC) tI) 1 (.vr 0))) <|
   .ite (.vr 5) (
    .ret (.vr 2)) (
    .prim (.ar .add .i64) (.mk2 tI tI (.vr 2) (.ci .i64 1)) <|
    .again 0 (.vr 6))) (
   .ret (.ci .i64 (-1)))
set_option maxRecDepth 100000 in
theorem aI8:bS Tryz.prog [] dZ false 3000 ⟨[(2993,1002,[.dr 0,.tm 9 0])],[]⟩ = .ok rU:=by kernel_rfl
theorem aIC (x:(List iX) × Int) (hx:okD (.pair (.slice 186 aC) tI) x) (hp:(fun _=>True) x):rU.wp [] [⟨(.pair (.slice 186 aC) tI),x⟩] [] (fun v=>v.as tI = (fun x=>dR x.1 x.2) x):=by
 obtain ⟨l,m⟩:=x
 have hm:l.length≤9223372036854775807:=hx.1.1
 delta rU;refine eS ?_;try with_reducible exact True.intro
 (repeat' first | intro _ | (with_reducible apply And.intro))
 all_goals first | omega | (unfold maxLen;omega) | skip
 refine aDX (fun k=>(k:Int)) (fun k=>lQ l m k = -1) (List.length l) rfl rfl fun I μ k hk hg _ go=>?_
 try dsimp only
 (refine gR ?_;try with_reducible exact True.intro)
 (repeat' first | intro _ | (refine go _ ?_ ?_ ?_) | (refine go _ ?_ ?_) | (with_reducible apply And.intro))
 all_goals first | omega | exact aIR (by omega) hg (by assumption) | exact aIU hg (by assumption) | rfl | (have e:k = List.length l:=(by omega);subst e;exact hg.symm)
theorem sE:Con.Holds Tryz.prog dZ:=aT aY aU aI8 fun x hx hp=>aIC x hx hp
noncomputable def dY:Con:=⟨193,(.pair (.slice 186 aC) tI),tI,[.val ⟨false,(.slice 186 aC),[]⟩,.val ⟨false,tI,[]⟩],[⟨false,tI,[0]⟩],false,none,
 ((fun _=>True):((List iX) × Int)→Prop),
 ((fun x=>dR x.1 x.2):((List iX) × Int)→(Int))⟩
def sI:T :=
 .loop tI (.ci .i64 0) <|
  .prim (.llen 186 aC) (.p1 (.slice 186 aC) tI (.vr 0)) <|
  .prim (.cmp .lss .i64) (.mk2 tI tI (.vr 1) (.vr 2)) <|
  .ite (.vr 3) (
   .prim (.lidx 186 aC) (.mk2 (.slice 186 aC) tI (.p1 (.slice 186 aC) tI (.vr 0)) (.vr 1)) <|
   .prim (.cmp .eql .i64) (.mk2 tI tI (.p1 tI aG (.vr 4)) (aQ (.pair (.slice 186 aC) tI) 1 (.vr 0))) <|
   .ite (.vr 5) (
    .ret (.vr 1)) (
    .prim (.ar .add .i64) (.mk2 tI tI (.vr 1) (.ci .i64 1)) <|
    .again 0 (.vr 6))) (
   .ret (.ci .i64 (-1)))
set_option maxRecDepth 100000 in
theorem aHN:bS Tryz.prog [] dY false 3000 ⟨[(2993,1001,[.tm 5 0])],[]⟩ = .ok sI:=by kernel_rfl
theorem aHO (x:(List iX) × Int) (hx:okD (.pair (.slice 186 aC) tI) x) (hp:(fun _=>True) x):sI.wp [] [⟨(.pair (.slice 186 aC) tI),x⟩] [] (fun v=>v.as tI = (fun x=>dR x.1 x.2) x):=by
 obtain ⟨l,m⟩:=x
 have hm:l.length≤9223372036854775807:=hx.1.1
 delta sI;refine eS ?_;try with_reducible exact True.intro
 (repeat' first | intro _ | (with_reducible apply And.intro))
 all_goals first | omega | (unfold maxLen;omega) | skip
 refine aDX (fun k=>(k:Int)) (fun k=>lQ l m k = -1) (List.length l) rfl rfl fun I μ k hk hg _ go=>?_
 try dsimp only
 (refine gR ?_;try with_reducible exact True.intro)
 (repeat' first | intro _ | (refine go _ ?_ ?_ ?_) | (refine go _ ?_ ?_) | (with_reducible apply And.intro))
 all_goals first | omega | exact aIR (by omega) hg (by assumption) | exact aIU hg (by assumption) | rfl | (have e:k = List.length l:=(by omega);subst e;exact hg.symm)
theorem rS:Con.Holds Tryz.prog dY:=aT aY aU aHN fun x hx hp=>aHO x hx hp
noncomputable def qF:Con:=⟨191,aN,aN,[.val ⟨false,aN,[]⟩],[⟨false,aN,[2]⟩],false,none,
 ((fun x=>aW aN x≤1000000000):(dA)→Prop),
 ((fun x=>x):(dA)→(dA))⟩
def aAX:T :=
 .loop (.pair tI aN) (.mk2 tI aN (.ci .i64 0) (.nl 219 aZ)) <|
  .prim (.llen 219 aZ) (.vr 0) <|
  .prim (.cmp .lss .i64) (.mk2 tI tI (.p1 tI aN (.vr 1)) (.vr 2)) <|
  .ite (.vr 3) (
   .prim (.lidx 219 aZ) (.mk2 aN tI (.vr 0) (.p1 tI aN (.vr 1))) <|
   .prim (.lidx 219 aZ) (.mk2 aN tI (.vr 0) (.p1 tI aN (.vr 1))) <|
   .prim (.lapp 3 tI 8) (.mk2 aB aB (.nl 3 tI) (aQ aZ 3 (.vr 5))) <|
   .prim (.lit 219 aZ 1) (bF aZ [(.p1 tI (.pair tI aD) (.vr 4)),(aJ aZ 1 (.vr 4)),(aJ aZ 2 (.vr 4)),(.vr 6)]) <|
   .prim (.lapp 219 aZ 48) (.mk2 aN aN (aQ (.pair tI aN) 1 (.vr 1)) (.vr 7)) <|
   .prim (.ar .add .i64) (.mk2 tI tI (.p1 tI aN (.vr 1)) (.ci .i64 1)) <|
   .again 0 (.mk2 tI aN (.vr 9) (.vr 8))) (
   .ret (aQ (.pair tI aN) 1 (.vr 1)))
set_option maxRecDepth 100000 in
theorem aQF:bS Tryz.prog [] qF false 3000 ⟨[(2991,1001,[.dr 6,.tm 4 0,.on 3,.sl 1])],[(2979,3007,[],[4])]⟩ = .ok aAX:=by kernel_rfl
theorem aSR (x:dA) (hx:okD aN x) (hp:(fun x=>aW aN x≤1000000000) x):aAX.wp [] [⟨aN,x⟩] [] (fun v=>v.as aN = (fun x=>x) x):=by
 have hB:=lN (t:=aN) hp
 delta aAX;refine eS ?_;try with_reducible exact True.intro
 (repeat' first | intro _ | (with_reducible apply And.intro))
 all_goals first | omega | (unfold maxLen;omega) | skip
 refine dG (fun k=>((k:Int),List.take k x)) (List.length x) rfl fun I μ k hk _ go=>?_
 dsimp only
 (refine gR ?_;try with_reducible exact True.intro)
 by_cases hkn:k < List.length x
 ·have hm:=hB.2 _ (List.getElem_mem hkn)
  have hn:=hB.1
  rw [bD hkn]
  (repeat' first | intro _ | (refine go _ ?_ ?_ ?_) | (refine go _ ?_ ?_) | (with_reducible apply And.intro))
  all_goals first | omega | (have hn2:=hm.2.2.2.1;omega) | (have hn2:=hm.2.2.2.1;unfold maxLen;omega) | (simp only [List.length_take];unfold maxLen;omega) | (simp only [List.length_take];omega) | (rw [iB hkn];rfl)
 ·(repeat' first | intro _ | (refine go _ ?_ ?_ ?_) | (refine go _ ?_ ?_) | (with_reducible apply And.intro))
  all_goals first | omega | (have e:k = List.length x:=(by omega);subst e;exact List.take_length)
theorem aQZ:Con.Holds Tryz.prog qF:=aT aY aU aQF fun x hx hp=>aSR x hx hp
noncomputable def vP:Con:=⟨119,(.pair aE aD),(.pair aE .bool),[.val ⟨true,aE,[]⟩,.val ⟨true,aD,[]⟩],[⟨true,aE,[0,2]⟩,⟨false,.bool,[0]⟩],false,none,
 ((fun x=>aW aE x.1≤1000000000):(bZ × cE)→Prop),
 ((fun x=>qV x.1 x.2):(bZ × cE)→(bZ × Bool))⟩
def aG3:T :=
 .call 0 (.p1 aE aD (.vr 0)) <|
 .call 1 (.p1 aE aD (.vr 0)) <|
 .prim .not (.vr 2) <|
 .ite (.vr 3) (
  .ret (.mk2 aE .bool (.vr 1) (.cb false))) (
  .prim (.llen 161 aD) (aQ aE 1 (.p1 aE aD (.vr 0))) <|
  .prim (.cmp .geq .i64) (.mk2 tI tI (.vr 4) (.p1 tI (.slice 161 aD) (.p1 aE aD (.vr 0)))) <|
  .ite (.vr 5) (
   .ret (.mk2 aE .bool (.vr 1) (.cb false))) (
   .call 2 (aQ (.pair aE aD) 2 (.vr 0)) <|
   .prim .not (.vr 6) <|
   .ite (.vr 7) (
    .ret (.mk2 aE .bool (.vr 1) (.cb false))) (
    .call 3 (bF (.pair tI aO) [(aJ (.pair aE aD) 1 (.vr 0)),(.ci .i64 0),(.ci .i64 4)]) <|
    .prim .not (.vr 8) <|
    .ite (.vr 9) (
     .ret (.mk2 aE .bool (.vr 1) (.cb false))) (
     .prim (.lapp 3 tI 8) (.mk2 aB aB (.nl 3 tI) (aQ (.pair aE aD) 2 (.vr 0))) <|
     .prim (.lit 161 aD 1) (.mk2 tI aB (aJ (.pair aE aD) 1 (.vr 0)) (.vr 10)) <|
     .prim (.lapp 161 aD 32) (.mk2 (.slice 161 aD) (.slice 161 aD) (aQ aE 1 (.vr 1)) (.vr 11)) <|
     .ret (.mk2 aE .bool (.mk2 tI (.slice 161 aD) (.p1 tI (.slice 161 aD) (.vr 1)) (.vr 12)) (.cb true))))))
set_option maxRecDepth 100000 in
theorem aYY:bS Tryz.prog [fN,fK,bJ,bU] vP false 3000 ⟨[],[(2989,16010,[40],[])]⟩ = .ok aG3:=by kernel_rfl
theorem aY5 (x:bZ × cE) (hx:okD (.pair aE aD) x) (hp:(fun x=>aW aE x.1≤1000000000) x):aG3.wp [fN,fK,bJ,bU] [⟨(.pair aE aD),x⟩] [] (fun v=>v.as (.pair aE .bool) = (fun x=>qV x.1 x.2) x):=by
 obtain ⟨q,y⟩:=x
 have hB:=lN (t:=aE) hp
 delta aG3 fN fK bJ bU;refine eS ?_;try with_reducible exact True.intro
 refine ⟨hp,fun _=>?_⟩
 (repeat' first | intro _ | (with_reducible apply And.intro))
 all_goals simp only [oL] at *
 all_goals try have hqq:=yO (by assumption)
 all_goals try have hq8:=qX (by assumption) (by omega)
 all_goals try have hq6:=xN (by assumption)
 all_goals try have hq7:=(cJ _).1 (by assumption)
 all_goals first | omega | (unfold maxLen;omega) | exact fQ (.inl (by assumption)) | exact fQ (.inr (.inl (by assumption))) | exact fQ (.inr (.inr (by omega))) | exact wY (.inl (by assumption)) | exact wY (.inr (by omega)) | exact nM (by assumption) (by assumption) (by omega) | exact rJ (by assumption) (by omega) | (rw [List.take_length];exact rJ (by assumption) (by omega)) | exact fQ (.inr (.inl (wJ (.inl (by assumption))))) | exact fQ (.inr (.inl (wJ (.inr (by omega))))) | exact nM (by assumption) (aK2 (by assumption) (by omega) (by omega)) (by omega) | skip
theorem bAO:Con.Holds Tryz.prog vP:=aT aY (aK wZ (aK vI (aK fC (aK jB aU)))) aYY fun x hx hp=>aY5 x hx hp
noncomputable def aBA:Con:=⟨125,aE,(.pair aE (.pair aD .bool)),[.val ⟨true,aE,[]⟩],[⟨true,aE,[0,0]⟩,⟨true,aD,[0,0]⟩,⟨false,.bool,[0]⟩],false,none,
 ((fun x=>aW aE x≤1000000000):(bZ)→Prop),
 ((fun x=>sN x):(bZ)→(bZ × (cE × Bool)))⟩
def aKE:T :=
 .call 0 (.vr 0) <|
 .call 1 (.vr 0) <|
 .prim .not (.vr 2) <|
 .ite (.vr 3) (
  .ret (bF (.pair aE (.pair aD .bool)) [(.vr 1),(.mk2 tI aB (.ci .i64 0) (.nl 3 tI)),(.cb false)])) (
  .prim (.llen 161 aD) (aQ aE 1 (.vr 0)) <|
  .prim (.cmp .eql .i64) (.mk2 tI tI (.vr 4) (.ci .i64 0)) <|
  .ite (.vr 5) (
   .ret (bF (.pair aE (.pair aD .bool)) [(.vr 1),(.mk2 tI aB (.ci .i64 0) (.nl 3 tI)),(.cb false)])) (
   .prim (.lidx 161 aD) (.mk2 (.slice 161 aD) tI (aQ aE 1 (.vr 1)) (.ci .i64 0)) <|
   .prim (.lidx 161 aD) (.mk2 (.slice 161 aD) tI (aQ aE 1 (.vr 1)) (.ci .i64 0)) <|
   .prim (.llen 161 aD) (aQ aE 1 (.vr 1)) <|
   .prim (.lsub 161 aD) (bF (.pair (.slice 161 aD) aO) [(aQ aE 1 (.vr 1)),(.ci .i64 1),(.vr 8)]) <|
   .ret (bF (.pair aE (.pair aD .bool)) [(.mk2 tI (.slice 161 aD) (.p1 tI (.slice 161 aD) (.vr 1)) (.vr 9)),(.vr 7),(.cb true)])))
set_option maxRecDepth 100000 in
theorem bCH:bS Tryz.prog [eA,fL] aBA false 3000 ⟨[],[(2987,4008,[],[6])]⟩ = .ok aKE:=by kernel_rfl
theorem bBN (x:bZ) (hx:okD aE x) (hp:(fun x=>aW aE x≤1000000000) x):aKE.wp [eA,fL] [⟨aE,x⟩] [] (fun v=>v.as (.pair aE (.pair aD .bool)) = (fun x=>sN x) x):=by
 have hB:=lN (t:=aE) hp
 delta aKE eA fL;refine eS ?_;try with_reducible exact True.intro
 refine ⟨hp,fun _=>?_⟩
 (repeat' first | intro _ | (with_reducible apply And.intro))
 all_goals simp only [oL] at *
 all_goals try have hqq:=yO (by assumption)
 all_goals try have hq8:=qX (by assumption) (by omega)
 all_goals try have hq6:=xN (by assumption)
 all_goals try have hq7:=(cJ _).1 (by assumption)
 all_goals first | omega | (unfold maxLen;omega) | exact fQ (.inl (by assumption)) | exact fQ (.inr (.inl (by assumption))) | exact fQ (.inr (.inr (by omega))) | exact wY (.inl (by assumption)) | exact wY (.inr (by omega)) | exact nM (by assumption) (by assumption) (by omega) | exact rJ (by assumption) (by omega) | (rw [List.take_length];exact rJ (by assumption) (by omega)) | exact fQ (.inr (.inl (wJ (.inl (by assumption))))) | exact fQ (.inr (.inl (wJ (.inr (by omega))))) | exact nM (by assumption) (aK2 (by assumption) (by omega) (by omega)) (by omega) | skip
theorem bB6:Con.Holds Tryz.prog aBA:=aT aY (aK sA (aK vJ aU)) bCH fun x hx hp=>bBN x hx hp
noncomputable def aB9:Con:=⟨117,aE,(.pair aE (.pair aD .bool)),[.val ⟨true,aE,[]⟩],[⟨true,aE,[0,0]⟩,⟨true,aD,[0,0]⟩,⟨false,.bool,[0]⟩],false,none,
 ((fun x=>aW aE x≤1000000000):(bZ)→Prop),
 ((fun x=>sN x):(bZ)→(bZ × (cE × Bool)))⟩
def aK6:T :=
 .call 0 (.vr 0) <|
 .call 1 (.vr 0) <|
 .prim .not (.vr 2) <|
 .ite (.vr 3) (
  .ret (bF (.pair aE (.pair aD .bool)) [(.vr 1),(.mk2 tI aB (.ci .i64 0) (.nl 3 tI)),(.cb false)])) (
  .prim (.llen 161 aD) (aQ aE 1 (.vr 0)) <|
  .prim (.cmp .eql .i64) (.mk2 tI tI (.vr 4) (.ci .i64 0)) <|
  .ite (.vr 5) (
   .ret (bF (.pair aE (.pair aD .bool)) [(.vr 1),(.mk2 tI aB (.ci .i64 0) (.nl 3 tI)),(.cb false)])) (
   .prim (.lidx 161 aD) (.mk2 (.slice 161 aD) tI (aQ aE 1 (.vr 0)) (.ci .i64 0)) <|
   .prim (.llen 161 aD) (aQ aE 1 (.vr 1)) <|
   .prim (.lsub 161 aD) (bF (.pair (.slice 161 aD) aO) [(aQ aE 1 (.vr 1)),(.ci .i64 1),(.vr 7)]) <|
   .prim (.lapp 3 tI 8) (.mk2 aB aB (.nl 3 tI) (aQ aD 1 (.vr 6))) <|
   .ret (bF (.pair aE (.pair aD .bool)) [(.mk2 tI (.slice 161 aD) (.p1 tI (.slice 161 aD) (.vr 1)) (.vr 8)),(.mk2 tI aB (.p1 tI aB (.vr 6)) (.vr 9)),(.cb true)])))
set_option maxRecDepth 100000 in
theorem bBA:bS Tryz.prog [fN,fK] aB9 false 3000 ⟨[],[(2987,4007,[],[6])]⟩ = .ok aK6:=by kernel_rfl
theorem bB4 (x:bZ) (hx:okD aE x) (hp:(fun x=>aW aE x≤1000000000) x):aK6.wp [fN,fK] [⟨aE,x⟩] [] (fun v=>v.as (.pair aE (.pair aD .bool)) = (fun x=>sN x) x):=by
 have hB:=lN (t:=aE) hp
 delta aK6 fN fK;refine eS ?_;try with_reducible exact True.intro
 refine ⟨hp,fun _=>?_⟩
 (repeat' first | intro _ | (with_reducible apply And.intro))
 all_goals simp only [oL] at *
 all_goals try have hqq:=yO (by assumption)
 all_goals try have hq8:=qX (by assumption) (by omega)
 all_goals try have hq6:=xN (by assumption)
 all_goals try have hq7:=(cJ _).1 (by assumption)
 all_goals first | omega | (unfold maxLen;omega) | exact fQ (.inl (by assumption)) | exact fQ (.inr (.inl (by assumption))) | exact fQ (.inr (.inr (by omega))) | exact wY (.inl (by assumption)) | exact wY (.inr (by omega)) | exact nM (by assumption) (by assumption) (by omega) | exact rJ (by assumption) (by omega) | (rw [List.take_length];exact rJ (by assumption) (by omega)) | exact fQ (.inr (.inl (wJ (.inl (by assumption))))) | exact fQ (.inr (.inl (wJ (.inr (by omega))))) | exact nM (by assumption) (aK2 (by assumption) (by omega) (by omega)) (by omega) | skip
theorem bBS:Con.Holds Tryz.prog aB9:=aT aY (aK wZ (aK vI aU)) bBA fun x hx hp=>bB4 x hx hp
end Go.Proofs.YtmfpkkbhnmkfdaaGreat
