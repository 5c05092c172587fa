/- Core8: trees, and what they say. -/
import Derived.Test.YtmfpkkbhnmkfdaaGreatCoreF
import Derived.Test.YtmfpkkbhnmkfdaaGreatCoreR
import Derived.Test.YtmfpkkbhnmkfdaaGreatCoreB
namespace Go.Proofs.YtmfpkkbhnmkfdaaGreat
open Go.ChangeShapes Go.WideShapes Go.ChangeAt Go.RowKit Go.Deep
set_option linter.unusedVariables false
set_option linter.unusedSimpArgs false
def bE (p:bL) (s:Int):aM2 :=
 if 0≤s∧s < (p.2.1.length:Int)∧0≤(p.2.1.getD s.toNat (aS aA)).1∧(p.2.1.getD s.toNat (aS aA)).1 < ((p.2.1.getD s.toNat (aS aA)).2.1.length:Int) then (p.2.1.getD s.toNat (aS aA)).2.1.getD (p.2.1.getD s.toNat (aS aA)).1.toNat (0,0) else (0,0)
def aDD (q:bZ):Bool:=decide ((q.2.length:Int) < q.1)
def aY0 (p:bL):Bool:=p.2.1.all fun x=>decide ((x.2.1.length:Int) - 1≤x.1)
noncomputable def dJ (p:bL) (s:Int):Bool :=
 if jM p = true∧0≤s∧s < (p.2.1.length:Int) then
  (if (bE p s).1 = 1 then decide (0 < s) && decide (0 < (p.2.2.1.getD (s - 1).toNat (aS aE)).2.length)
  else if (bE p s).1 = 3 then decide (s < (p.2.1.length:Int) - 1) && aDD (p.2.2.1.getD s.toNat (aS aE))
  else if (bE p s).1 = 4 then decide (s < (p.2.1.length:Int) - 1) && decide (0 < (p.2.2.2.getD s.toNat (aS aE)).2.length)
  else if (bE p s).1 = 7 then decide (0 < s) && aDD (p.2.2.2.getD (s - 1).toNat (aS aE))
  else if (bE p s).1 = 2 then true else if (bE p s).1 = 5 then true else if (bE p s).1 = 6 then true
  else if (bE p s).1 = 8 then aY0 p else false)
 else false
def gN (p:bL) (s:Int):bA:=p.2.1.getD s.toNat (aS aA)
def bC0 (x:bA) (v:List Int):bA:=(x.1,x.2.1,x.2.2.1,x.2.2.2.1,x.2.2.2.2.1,x.2.2.2.2.2.1,x.2.2.2.2.2.2.1,v,x.2.2.2.2.2.2.2.2)
def bC3 (x:bA) (v:List Int):bA:=(x.1,x.2.1,x.2.2.1,x.2.2.2.1,x.2.2.2.2.1,x.2.2.2.2.2.1,x.2.2.2.2.2.2.1,x.2.2.2.2.2.2.2.1,v,x.2.2.2.2.2.2.2.2.2)
def bB7 (x:bA) (v:List Int):bA:=(x.1,x.2.1,x.2.2.1,x.2.2.2.1,x.2.2.2.2.1,x.2.2.2.2.2.1,x.2.2.2.2.2.2.1,x.2.2.2.2.2.2.2.1,x.2.2.2.2.2.2.2.2.1,v,x.2.2.2.2.2.2.2.2.2.2)
def aJ9 (x:bA) (v:List Int):bA:=(x.1,x.2.1,x.2.2.1,x.2.2.2.1,x.2.2.2.2.1,x.2.2.2.2.2.1,x.2.2.2.2.2.2.1,x.2.2.2.2.2.2.2.1,x.2.2.2.2.2.2.2.2.1,x.2.2.2.2.2.2.2.2.2.1,v,x.2.2.2.2.2.2.2.2.2.2.2)
def tE (x:bA) (k:Int):bA:=(k,x.2)
noncomputable def iU (p:bL) (s:Int):bA :=
 if (bE p s).1 = 1 then bC0 (gN p s) (sN (p.2.2.1.getD (s - 1).toNat (aS aE))).2.1.2
 else if (bE p s).1 = 2 then xE (gN p s) (bE p s).2 (if s = 0 then (p.1.getD (bE p s).2.toNat (aS aI)).1 else (gN p s).2.2.2.2.2.2.2.1) (p.1.getD (bE p s).2.toNat (aS aI)).2
 else if (bE p s).1 = 3 then bC3 (gN p s) []
 else if (bE p s).1 = 4 then bB7 (gN p s) (sN (p.2.2.2.getD s.toNat (aS aE))).2.1.2
 else if (bE p s).1 = 5 then qL (gN p s) (bE p s).2
 else if (bE p s).1 = 6 then (if s = 0 then aJ9 (sD (gN p s) (bE p s).2 (p.1.getD (bE p s).2.toNat (aS aI)).2) [] else sD (gN p s) (bE p s).2 (p.1.getD (bE p s).2.toNat (aS aI)).2)
 else if (bE p s).1 = 7 then aJ9 (gN p s) []
 else gN p s
noncomputable def tF (p:bL) (s:Int):List bZ :=
 if (bE p s).1 = 1 then p.2.2.1.set (s - 1).toNat (sN (p.2.2.1.getD (s - 1).toNat (aS aE))).1
 else if (bE p s).1 = 3 then p.2.2.1.set s.toNat (qV (p.2.2.1.getD s.toNat (aS aE)) ((bE p s).2,(gN p s).2.2.2.2.2.2.2.2.1)).1
 else p.2.2.1
noncomputable def sQ (p:bL) (s:Int):List bZ :=
 if (bE p s).1 = 4 then p.2.2.2.set s.toNat (sN (p.2.2.2.getD s.toNat (aS aE))).1
 else if (bE p s).1 = 7 then p.2.2.2.set (s - 1).toNat (qV (p.2.2.2.getD (s - 1).toNat (aS aE)) ((bE p s).2,(gN p s).2.2.2.2.2.2.2.2.2.2.1)).1
 else p.2.2.2
noncomputable def eT (p:bL) (s:Int):bL:=if dJ p s = true then (p.1,p.2.1.set s.toNat (tE (iU p s) ((iU p s).1 + 1)),tF p s,sQ p s) else p
noncomputable def nO (p:bL):List Int→bL
 | []=>p
 | s :: l=>nO (eT p s) l
theorem aB2 {b:List cN} {st:List bA} {a r:List bZ} (h:aW aF (b,st,a,r)≤1000000000):List.length b≤1000000000∧aW aX b≤1000000000∧List.length st≤1000000000∧(∀ x ∈ st,aW aA x≤1000000000) ∧
  List.length a≤1000000000∧(∀ x ∈ a,aW aE x≤1000000000)∧List.length r≤1000000000∧∀ x ∈ r,aW aE x≤1000000000:=by
 have e:aW aF (b,st,a,r) = aW aX b + (aW (.slice 121 aA) st + (aW aH a + aW aH r)):=rfl
 have h1:List.length b≤aW aX b:=aC2 (e:=126) (t:=aI) b
 have h2:List.length st≤aW (.slice 121 aA) st:=aC2 (e:=121) (t:=aA) st
 have h3:List.length a≤aW aH a:=aC2 (e:=157) (t:=aE) a
 have h4:List.length r≤aW aH r:=aC2 (e:=157) (t:=aE) r
 refine ⟨by omega,by omega,by omega,fun x hx=>?_,by omega,fun x hx=>?_,by omega,fun x hx=>?_⟩
 ·have:=aEI (e:=121) (t:=aA) hx;omega
 ·have:aW aE x≤aW aH a:=aEI (e:=157) (t:=aE) hx;omega
 ·have:aW aE x≤aW aH r:=aEI (e:=157) (t:=aE) hx;omega
theorem aUF {p:bL} {s:Int} (h:¬ (0≤s∧s < (p.2.1.length:Int)∧0≤(p.2.1.getD s.toNat (aS aA)).1∧(p.2.1.getD s.toNat (aS aA)).1 < ((p.2.1.getD s.toNat (aS aA)).2.1.length:Int))):(0,0) = bE p s:=(if_neg h).symm
theorem aPC {p:bL} {s:Int} (h1:0≤s) (h2:s < (p.2.1.length:Int)) (h3:0≤(p.2.1.getD s.toNat (aS aA)).1) (h4:(p.2.1.getD s.toNat (aS aA)).1 < ((p.2.1.getD s.toNat (aS aA)).2.1.length:Int)) :
 (p.2.1.getD s.toNat (aS aA)).2.1.getD (p.2.1.getD s.toNat (aS aA)).1.toNat (aS aO) = bE p s:=(if_pos ⟨h1,h2,h3,h4⟩).symm
def aB3 (x:bA):Bool:=decide ((x.2.1.length:Int) - 1≤x.1)
theorem aTY (p:bL):aY0 p = p.2.1.all aB3:=rfl
theorem aOX {p:bL} {s:Int} (h:jM p = false∨s < 0∨(p.2.1.length:Int)≤s):false = dJ p s:=by
 unfold dJ;rw [if_neg]
 rintro ⟨h1,h2,h3⟩
 rcases h with h | h | h
 ·rw [h] at h1;cases h1
 ·omega
 ·omega
theorem bDB {p:bL} {s:Int} (h1:jM p = true) (h2:0≤s) (h3:s < (p.2.1.length:Int)) (k:(bE p s).1 = 1):dJ p s = (decide (0 < s) && decide (0 < (p.2.2.1.getD (s - 1).toNat (aS aE)).2.length)):=by
 unfold dJ;rw [if_pos ⟨h1,h2,h3⟩,if_pos k]
theorem bDO {p:bL} {s:Int} (h1:jM p = true) (h2:0≤s) (h3:s < (p.2.1.length:Int)) (k:(bE p s).1 = 3):dJ p s = (decide (s < (p.2.1.length:Int) - 1) && aDD (p.2.2.1.getD s.toNat (aS aE))):=by
 unfold dJ;rw [if_pos ⟨h1,h2,h3⟩,k];rfl
theorem bD2 {p:bL} {s:Int} (h1:jM p = true) (h2:0≤s) (h3:s < (p.2.1.length:Int)) (k:(bE p s).1 = 4):dJ p s = (decide (s < (p.2.1.length:Int) - 1) && decide (0 < (p.2.2.2.getD s.toNat (aS aE)).2.length)):=by
 unfold dJ;rw [if_pos ⟨h1,h2,h3⟩,k];rfl
theorem bDE {p:bL} {s:Int} (h1:jM p = true) (h2:0≤s) (h3:s < (p.2.1.length:Int)) (k:(bE p s).1 = 7):dJ p s = (decide (0 < s) && aDD (p.2.2.2.getD (s - 1).toNat (aS aE))):=by
 unfold dJ;rw [if_pos ⟨h1,h2,h3⟩,k];rfl
theorem aXA {p:bL} {s:Int} (h1:jM p = true) (h2:0≤s) (h3:s < (p.2.1.length:Int)) (k:(bE p s).1 = 2∨(bE p s).1 = 5∨(bE p s).1 = 6):true = dJ p s:=by
 unfold dJ;rw [if_pos ⟨h1,h2,h3⟩]
 rcases k with k | k | k <;> rw [k] <;> rfl
theorem bDT {p:bL} {s:Int} (h1:jM p = true) (h2:0≤s) (h3:s < (p.2.1.length:Int)) (k:(bE p s).1 = 8):dJ p s = aY0 p:=by
 unfold dJ;rw [if_pos ⟨h1,h2,h3⟩,k];rfl
theorem aXV {n:Nat}:decide ((0:Int) < (n:Int)) = decide (0 < n):=by rw [Bool.eq_iff_iff,decide_eq_true_eq,decide_eq_true_eq];omega
theorem bD6 {p:bL} {s:Int} (h:¬ (bE p s).1 = 1∧¬ (bE p s).1 = 2∧¬ (bE p s).1 = 3∧¬ (bE p s).1 = 4∧¬ (bE p s).1 = 5∧¬ (bE p s).1 = 6∧¬ (bE p s).1 = 7∧¬ (bE p s).1 = 8):false = dJ p s:=by
 unfold dJ;split
 ·rw [if_neg h.1,if_neg h.2.2.1,if_neg h.2.2.2.1,if_neg h.2.2.2.2.2.2.1,if_neg h.2.1,if_neg h.2.2.2.2.1,if_neg h.2.2.2.2.2.1,if_neg h.2.2.2.2.2.2.2]
 ·rfl
theorem bD1 {p:bL} {s:Int} (h1:jM p = true) (h2:0≤s) (h3:s < (p.2.1.length:Int)) (k:(bE p s).1 = 1) (h:s≤0):false = dJ p s:=by rw [bDB h1 h2 h3 k,decide_eq_false (by omega)];rfl
theorem bCN {p:bL} {s:Int} (h1:jM p = true) (h2:0≤s) (h3:s < (p.2.1.length:Int)) (k:(bE p s).1 = 1) (h:0 < s):decide ((0:Int) < ((p.2.2.1.getD (s - 1).toNat (aS aE)).2.length:Int)) = dJ p s:=by rw [bDB h1 h2 h3 k,decide_eq_true h,aXV,Bool.true_and]
theorem bCY {p:bL} {s:Int} (h1:jM p = true) (h2:0≤s) (h3:s < (p.2.1.length:Int)) (k:(bE p s).1 = 3) (h:(p.2.1.length:Int) - 1≤s):false = dJ p s:=by rw [bDO h1 h2 h3 k,decide_eq_false (by omega)];rfl
theorem bCS {p:bL} {s:Int} (h1:jM p = true) (h2:0≤s) (h3:s < (p.2.1.length:Int)) (k:(bE p s).1 = 3) (h:s < (p.2.1.length:Int) - 1):aDD (p.2.2.1.getD s.toNat (aS aE)) = dJ p s:=by rw [bDO h1 h2 h3 k,decide_eq_true h,Bool.true_and]
theorem bCT {p:bL} {s:Int} (h1:jM p = true) (h2:0≤s) (h3:s < (p.2.1.length:Int)) (k:(bE p s).1 = 4) (h:(p.2.1.length:Int) - 1≤s):false = dJ p s:=by rw [bD2 h1 h2 h3 k,decide_eq_false (by omega)];rfl
theorem bCR {p:bL} {s:Int} (h1:jM p = true) (h2:0≤s) (h3:s < (p.2.1.length:Int)) (k:(bE p s).1 = 4) (h:s < (p.2.1.length:Int) - 1):decide ((0:Int) < ((p.2.2.2.getD s.toNat (aS aE)).2.length:Int)) = dJ p s:=by rw [bD2 h1 h2 h3 k,decide_eq_true h,aXV,Bool.true_and]
theorem bCW {p:bL} {s:Int} (h1:jM p = true) (h2:0≤s) (h3:s < (p.2.1.length:Int)) (k:(bE p s).1 = 7) (h:s≤0):false = dJ p s:=by rw [bDE h1 h2 h3 k,decide_eq_false (by omega)];rfl
theorem bCX {p:bL} {s:Int} (h1:jM p = true) (h2:0≤s) (h3:s < (p.2.1.length:Int)) (k:(bE p s).1 = 7) (h:0 < s):aDD (p.2.2.2.getD (s - 1).toNat (aS aE)) = dJ p s:=by rw [bDE h1 h2 h3 k,decide_eq_true h,Bool.true_and]
theorem aV6 {α:Type} {f:α→Bool} {l:List α} {k:Nat} (h:(List.take k l).all f = true) (hk:l.length≤k):l.all f = true:=by rw [List.take_of_length_le hk] at h;exact h
noncomputable def lW:Con:=⟨106,aF,aF,[.val ⟨true,aF,[]⟩],[⟨true,aF,[2,2,2,2]⟩],false,none,
 ((fun x=>aW aF x≤1000000000):(bL)→Prop),
 ((fun x=>x):(bL)→(bL))⟩
def uY:T :=
 .call 0 (.p1 aX (.pair (.slice 121 aA) (.pair aH aH)) (.vr 0)) <|
 .prim (.llen 121 aA) (aJ aF 1 (.vr 0)) <|
 .loop (.pair tI (.slice 121 aA)) (.mk2 tI (.slice 121 aA) (.ci .i64 0) (.nl 121 aA)) <|
  .prim (.cmp .lss .i64) (.mk2 tI tI (.p1 tI (.slice 121 aA) (.vr 3)) (.vr 2)) <|
  .ite (.vr 4) (
   .prim (.lidx 121 aA) (.mk2 (.slice 121 aA) tI (aJ aF 1 (.vr 0)) (.p1 tI (.slice 121 aA) (.vr 3))) <|
   .call 1 (.vr 5) <|
   .prim (.lit 121 aA 1) (.vr 6) <|
   .prim (.lapp 121 aA 248) (.mk2 (.slice 121 aA) (.slice 121 aA) (aQ (.pair tI (.slice 121 aA)) 1 (.vr 3)) (.vr 7)) <|
   .prim (.ar .add .i64) (.mk2 tI tI (.p1 tI (.slice 121 aA) (.vr 3)) (.ci .i64 1)) <|
   .again 0 (.mk2 tI (.slice 121 aA) (.vr 9) (.vr 8))) (
   .prim (.llen 157 aE) (aJ aF 2 (.vr 0)) <|
   .loop (.pair tI aH) (.mk2 tI aH (.ci .i64 0) (.nl 157 aE)) <|
    .prim (.cmp .lss .i64) (.mk2 tI tI (.p1 tI aH (.vr 6)) (.vr 5)) <|
    .ite (.vr 7) (
     .prim (.lidx 157 aE) (.mk2 aH tI (aJ aF 2 (.vr 0)) (.p1 tI aH (.vr 6))) <|
     .call 2 (.vr 8) <|
     .prim (.lit 157 aE 1) (.vr 9) <|
     .prim (.lapp 157 aE 32) (.mk2 aH aH (aQ (.pair tI aH) 1 (.vr 6)) (.vr 10)) <|
     .prim (.ar .add .i64) (.mk2 tI tI (.p1 tI aH (.vr 6)) (.ci .i64 1)) <|
     .again 0 (.mk2 tI aH (.vr 12) (.vr 11))) (
     .prim (.llen 157 aE) (aQ aF 3 (.vr 0)) <|
     .loop (.pair tI aH) (.mk2 tI aH (.ci .i64 0) (.nl 157 aE)) <|
      .prim (.cmp .lss .i64) (.mk2 tI tI (.p1 tI aH (.vr 9)) (.vr 8)) <|
      .ite (.vr 10) (
       .prim (.lidx 157 aE) (.mk2 aH tI (aQ aF 3 (.vr 0)) (.p1 tI aH (.vr 9))) <|
       .call 2 (.vr 11) <|
       .prim (.lit 157 aE 1) (.vr 12) <|
       .prim (.lapp 157 aE 32) (.mk2 aH aH (aQ (.pair tI aH) 1 (.vr 9)) (.vr 13)) <|
       .prim (.ar .add .i64) (.mk2 tI tI (.p1 tI aH (.vr 9)) (.ci .i64 1)) <|
       .again 0 (.mk2 tI aH (.vr 15) (.vr 14))) (
       .ret (bF aF [(.vr 1),(aQ (.pair tI (.slice 121 aA)) 1 (.vr 3)),(aQ (.pair tI aH) 1 (.vr 6)),(aQ (.pair tI aH) 1 (.vr 9))]))))
set_option maxRecDepth 100000 in
theorem aM3:bS Tryz.prog [kZ,cW,eA] lW false 3000 ⟨[(2991,1003,mL 14 10 ++ [.dr 0,.tm 17 0,.sl 13]),(2981,2006,[.dr 29] ++ mL 18 15 ++ [.tm 32 0,.sl 14]),(2971,4009,[.dr 44] ++ mL 33 30 ++ [.dr 1,.tm 47 0,.sl 15])],[(2981,3006,[24],[]),(2971,6009,[39],[]),(2961,12012,[54],[])]⟩ = .ok uY:=by kernel_rfl
theorem aLC (x:bL) (hx:okD aF x) (hp:(fun x=>aW aF x≤1000000000) x):uY.wp [kZ,cW,eA] [⟨aF,x⟩] [] (fun v=>v.as aF = (fun x=>x) x):=by
 obtain ⟨b,st,a,r⟩:=x
 obtain ⟨h1,h1s,h2,h2m,h3,h3m,h4,h4m⟩:=aB2 hp
 delta uY kZ cW eA;refine eS ?_;try with_reducible exact True.intro
 refine ⟨h1s,fun _ _=>?_⟩
 refine dG (fun k=>((k:Int),List.take k st)) (List.length st) rfl fun I μ k hk _ go=>?_
 dsimp only
 (refine gR ?_;try with_reducible exact True.intro)
 skip
 constructor
 ·intro hlt
  have hk':k < st.length:=by omega
  have hm:=h2m _ (List.getElem_mem hk')
  simp only [bD hk']
  (repeat' first | intro _ | (refine go _ ?_ ?_ ?_) | (refine go _ ?_ ?_) | (with_reducible apply And.intro))
  all_goals first | omega | (with_reducible exact hm) | (with_reducible exact hm.1) | (with_reducible exact hm.2) | (unfold maxLen;omega) | (simp only [List.length_take];unfold maxLen;omega) | (simp only [List.length_take];omega) | (rw [iB hk'];rfl)
 intro hge _
 rw [show List.take k st = st from List.take_of_length_le (by omega)]
 clear go
 refine dG (fun k=>((k:Int),List.take k a)) (List.length a) rfl fun I μ k hk _ go=>?_
 dsimp only
 (refine gR ?_;try with_reducible exact True.intro)
 skip
 constructor
 ·intro hlt
  have hk':k < a.length:=by omega
  have hm:=h3m _ (List.getElem_mem hk')
  simp only [bD hk']
  (repeat' first | intro _ | (refine go _ ?_ ?_ ?_) | (refine go _ ?_ ?_) | (with_reducible apply And.intro))
  all_goals first | omega | (with_reducible exact hm) | (with_reducible exact hm.1) | (with_reducible exact hm.2) | (unfold maxLen;omega) | (simp only [List.length_take];unfold maxLen;omega) | (simp only [List.length_take];omega) | (rw [iB hk'];rfl)
 intro hge _
 rw [show List.take k a = a from List.take_of_length_le (by omega)]
 clear go
 refine dG (fun k=>((k:Int),List.take k r)) (List.length r) rfl fun I μ k hk _ go=>?_
 dsimp only
 (refine gR ?_;try with_reducible exact True.intro)
 skip
 constructor
 ·intro hlt
  have hk':k < r.length:=by omega
  have hm:=h4m _ (List.getElem_mem hk')
  simp only [bD hk']
  (repeat' first | intro _ | (refine go _ ?_ ?_ ?_) | (refine go _ ?_ ?_) | (with_reducible apply And.intro))
  all_goals first | omega | (with_reducible exact hm) | (with_reducible exact hm.1) | (with_reducible exact hm.2) | (unfold maxLen;omega) | (simp only [List.length_take];unfold maxLen;omega) | (simp only [List.length_take];omega) | (rw [iB hk'];rfl)
 intro hge
 rw [show List.take k r = r from List.take_of_length_le (by omega)]
theorem aJS:Con.Holds Tryz.prog lW:=aT aY (aK aI0 (aK nB (aK sA aU))) aM3 fun x hx hp=>aLC x hx hp
noncomputable def iP:Con:=⟨61,aF,aF,[.val ⟨true,aF,[]⟩],[⟨true,aF,[2,2,2,2]⟩],false,none,
 ((fun x=>aW aF x≤1000000000):(bL)→Prop),
 ((fun x=>x):(bL)→(bL))⟩
def wE:T :=
 .loop (.pair tI aX) (.mk2 tI aX (.ci .i64 0) (.nl 126 aI)) <|
  .prim (.llen 126 aI) (.p1 aX (.pair (.slice 121 aA) (.pair aH aH)) (.vr 0)) <|
  .prim (.cmp .lss .i64) (.mk2 tI tI (.p1 tI aX (.vr 1)) (.vr 2)) <|
  .ite (.vr 3) (
   .prim (.lidx 126 aI) (.mk2 aX tI (.p1 aX (.pair (.slice 121 aA) (.pair aH aH)) (.vr 0)) (.p1 tI aX (.vr 1))) <|
   .prim (.lidx 126 aI) (.mk2 aX tI (.p1 aX (.pair (.slice 121 aA) (.pair aH aH)) (.vr 0)) (.p1 tI aX (.vr 1))) <|
   .prim (.lapp 3 tI 8) (.mk2 aB aB (.nl 3 tI) (.p1 aB aB (.vr 4))) <|
   .prim (.lapp 3 tI 8) (.mk2 aB aB (.nl 3 tI) (aQ aI 1 (.vr 5))) <|
   .prim (.lit 126 aI 1) (.mk2 aB aB (.vr 6) (.vr 7)) <|
   .prim (.lapp 126 aI 48) (.mk2 aX aX (aQ (.pair tI aX) 1 (.vr 1)) (.vr 8)) <|
   .prim (.ar .add .i64) (.mk2 tI tI (.p1 tI aX (.vr 1)) (.ci .i64 1)) <|
   .again 0 (.mk2 tI aX (.vr 10) (.vr 9))) (
   .loop (.pair tI (.slice 121 aA)) (.mk2 tI (.slice 121 aA) (.ci .i64 0) (.nl 121 aA)) <|
    .prim (.llen 121 aA) (aJ aF 1 (.vr 0)) <|
    .prim (.cmp .lss .i64) (.mk2 tI tI (.p1 tI (.slice 121 aA) (.vr 4)) (.vr 5)) <|
    .ite (.vr 6) (
     .prim (.lidx 121 aA) (.mk2 (.slice 121 aA) tI (aJ aF 1 (.vr 0)) (.p1 tI (.slice 121 aA) (.vr 4))) <|
     .call 0 (.vr 7) <|
     .prim (.lit 121 aA 1) (.vr 8) <|
     .prim (.lapp 121 aA 248) (.mk2 (.slice 121 aA) (.slice 121 aA) (aQ (.pair tI (.slice 121 aA)) 1 (.vr 4)) (.vr 9)) <|
     .prim (.ar .add .i64) (.mk2 tI tI (.p1 tI (.slice 121 aA) (.vr 4)) (.ci .i64 1)) <|
     .again 0 (.mk2 tI (.slice 121 aA) (.vr 11) (.vr 10))) (
     .loop (.pair tI aH) (.mk2 tI aH (.ci .i64 0) (.nl 157 aE)) <|
      .prim (.llen 157 aE) (aJ aF 2 (.vr 0)) <|
      .prim (.cmp .lss .i64) (.mk2 tI tI (.p1 tI aH (.vr 7)) (.vr 8)) <|
      .ite (.vr 9) (
       .prim (.lidx 157 aE) (.mk2 aH tI (aJ aF 2 (.vr 0)) (.p1 tI aH (.vr 7))) <|
       .call 1 (.vr 10) <|
       .prim (.lit 157 aE 1) (.vr 11) <|
       .prim (.lapp 157 aE 32) (.mk2 aH aH (aQ (.pair tI aH) 1 (.vr 7)) (.vr 12)) <|
       .prim (.ar .add .i64) (.mk2 tI tI (.p1 tI aH (.vr 7)) (.ci .i64 1)) <|
       .again 0 (.mk2 tI aH (.vr 14) (.vr 13))) (
       .loop (.pair tI aH) (.mk2 tI aH (.ci .i64 0) (.nl 157 aE)) <|
        .prim (.llen 157 aE) (aQ aF 3 (.vr 0)) <|
        .prim (.cmp .lss .i64) (.mk2 tI tI (.p1 tI aH (.vr 10)) (.vr 11)) <|
        .ite (.vr 12) (
         .prim (.lidx 157 aE) (.mk2 aH tI (aQ aF 3 (.vr 0)) (.p1 tI aH (.vr 10))) <|
         .call 1 (.vr 13) <|
         .prim (.lit 157 aE 1) (.vr 14) <|
         .prim (.lapp 157 aE 32) (.mk2 aH aH (aQ (.pair tI aH) 1 (.vr 10)) (.vr 15)) <|
         .prim (.ar .add .i64) (.mk2 tI tI (.p1 tI aH (.vr 10)) (.ci .i64 1)) <|
         .again 0 (.mk2 tI aH (.vr 17) (.vr 16))) (
         .ret (bF aF [(aQ (.pair tI aX) 1 (.vr 1)),(aQ (.pair tI (.slice 121 aA)) 1 (.vr 4)),(aQ (.pair tI aH) 1 (.vr 7)),(aQ (.pair tI aH) 1 (.vr 10))])))))
set_option maxRecDepth 100000 in
theorem aPL:bS Tryz.prog [dV,fN] iP false 3000 ⟨[(2991,1001,[.dr 8,.dr 0,.tm 4 0,.sl 12]),(2981,2004,mL 13 9 ++ [.dr 4,.tm 5 0,.sl 13]),(2971,4007,mL 42 38 ++ [.dr 5,.tm 6 0,.sl 14]),(2961,8010,mL 60 56 ++ [.dr 6,.tm 7 0,.sl 15])],[(2983,3004,[33,25],[]),(2973,6007,[52],[]),(2963,12010,[70],[]),(2953,24013,[88],[])]⟩ = .ok wE:=by kernel_rfl
theorem aOA (x:bL) (hx:okD aF x) (hp:(fun x=>aW aF x≤1000000000) x):wE.wp [dV,fN] [⟨aF,x⟩] [] (fun v=>v.as aF = (fun x=>x) x):=by
 obtain ⟨b,st,a,r⟩:=x
 obtain ⟨h1,h1s,h2,h2m,h3,h3m,h4,h4m⟩:=aB2 hp
 have hb:∀ x ∈ b,List.length x.1≤1000000000∧List.length x.2≤1000000000:=fun x hx=>⟨((lN (t:=aX) h1s).2 x hx).1.1,((lN (t:=aX) h1s).2 x hx).2.1⟩
 delta wE dV fN;refine eS ?_;try with_reducible exact True.intro
 refine dG (fun k=>((k:Int),List.take k b)) (List.length b) rfl fun I μ k hk _ go=>?_
 dsimp only
 (refine gR ?_;try with_reducible exact True.intro)
 intro _
 constructor
 ·intro hlt
  have hk':k < b.length:=by omega
  have hm:=hb _ (List.getElem_mem hk')
  simp only [bD hk']
  (repeat' first | intro _ | (refine go _ ?_ ?_ ?_) | (refine go _ ?_ ?_) | (with_reducible apply And.intro))
  all_goals first | omega | (with_reducible exact hm) | (with_reducible exact hm.1) | (with_reducible exact hm.2) | (unfold maxLen;omega) | (simp only [List.length_take];unfold maxLen;omega) | (simp only [List.length_take];omega) | (rw [iB hk'];rfl)
 intro hge
 rw [show List.take k b = b from List.take_of_length_le (by omega)]
 clear go
 refine dG (fun k=>((k:Int),List.take k st)) (List.length st) rfl fun I μ k hk _ go=>?_
 dsimp only
 (refine gR ?_;try with_reducible exact True.intro)
 intro _
 constructor
 ·intro hlt
  have hk':k < st.length:=by omega
  have hm:=h2m _ (List.getElem_mem hk')
  simp only [bD hk']
  (repeat' first | intro _ | (refine go _ ?_ ?_ ?_) | (refine go _ ?_ ?_) | (with_reducible apply And.intro))
  all_goals first | omega | (with_reducible exact hm) | (with_reducible exact hm.1) | (with_reducible exact hm.2) | (unfold maxLen;omega) | (simp only [List.length_take];unfold maxLen;omega) | (simp only [List.length_take];omega) | (rw [iB hk'];rfl)
 intro hge
 rw [show List.take k st = st from List.take_of_length_le (by omega)]
 clear go
 refine dG (fun k=>((k:Int),List.take k a)) (List.length a) rfl fun I μ k hk _ go=>?_
 dsimp only
 (refine gR ?_;try with_reducible exact True.intro)
 intro _
 constructor
 ·intro hlt
  have hk':k < a.length:=by omega
  have hm:=h3m _ (List.getElem_mem hk')
  simp only [bD hk']
  (repeat' first | intro _ | (refine go _ ?_ ?_ ?_) | (refine go _ ?_ ?_) | (with_reducible apply And.intro))
  all_goals first | omega | (with_reducible exact hm) | (with_reducible exact hm.1) | (with_reducible exact hm.2) | (unfold maxLen;omega) | (simp only [List.length_take];unfold maxLen;omega) | (simp only [List.length_take];omega) | (rw [iB hk'];rfl)
 intro hge
 rw [show List.take k a = a from List.take_of_length_le (by omega)]
 clear go
 refine dG (fun k=>((k:Int),List.take k r)) (List.length r) rfl fun I μ k hk _ go=>?_
 dsimp only
 (refine gR ?_;try with_reducible exact True.intro)
 intro _
 constructor
 ·intro hlt
  have hk':k < r.length:=by omega
  have hm:=h4m _ (List.getElem_mem hk')
  simp only [bD hk']
  (repeat' first | intro _ | (refine go _ ?_ ?_ ?_) | (refine go _ ?_ ?_) | (with_reducible apply And.intro))
  all_goals first | omega | (with_reducible exact hm) | (with_reducible exact hm.1) | (with_reducible exact hm.2) | (unfold maxLen;omega) | (simp only [List.length_take];unfold maxLen;omega) | (simp only [List.length_take];omega) | (rw [iB hk'];rfl)
 intro hge
 rw [show List.take k r = r from List.take_of_length_le (by omega)]
theorem aDT:Con.Holds Tryz.prog iP:=aT aY (aK rC (aK wZ aU)) aPL fun x hx hp=>aOA x hx hp
noncomputable def jX:Con:=⟨68,(.pair aF tI),aO,[.val ⟨true,aF,[]⟩,.val ⟨false,tI,[]⟩],[⟨true,aO,[0,0]⟩],false,none,
 ((fun _=>True):(bL × Int)→Prop),
 ((fun x=>bE x.1 x.2):(bL × Int)→(Int × Int))⟩
def aF7:T :=
 .prim (.cmp .lss .i64) (.mk2 tI tI (aQ (.pair aF tI) 1 (.vr 0)) (.ci .i64 0)) <|
 .ite (.vr 1) (
  .ret (.mk2 tI tI (.ci .i64 0) (.ci .i64 0))) (
  .prim (.llen 121 aA) (aJ aF 1 (.p1 aF tI (.vr 0))) <|
  .prim (.cmp .geq .i64) (.mk2 tI tI (aQ (.pair aF tI) 1 (.vr 0)) (.vr 2)) <|
  .ite (.vr 3) (
   .ret (.mk2 tI tI (.ci .i64 0) (.ci .i64 0))) (
   .prim (.lidx 121 aA) (.mk2 (.slice 121 aA) tI (aJ aF 1 (.p1 aF tI (.vr 0))) (aQ (.pair aF tI) 1 (.vr 0))) <|
   .prim (.cmp .lss .i64) (.mk2 tI tI (.p1 tI cT (.vr 4)) (.ci .i64 0)) <|
   .ite (.vr 5) (
    .ret (.mk2 tI tI (.ci .i64 0) (.ci .i64 0))) (
    .prim (.llen 95 aO) (aJ aA 1 (.vr 4)) <|
    .prim (.cmp .geq .i64) (.mk2 tI tI (.p1 tI cT (.vr 4)) (.vr 6)) <|
    .ite (.vr 7) (
     .ret (.mk2 tI tI (.ci .i64 0) (.ci .i64 0))) (
     .prim (.lidx 95 aO) (.mk2 vK tI (aJ aA 1 (.vr 4)) (.p1 tI cT (.vr 4))) <|
     .ret (.vr 8)))))
set_option maxRecDepth 100000 in
theorem bAJ:bS Tryz.prog [] jX false 3000 ⟨[],[]⟩ = .ok aF7:=by kernel_rfl
theorem aZ3 (x:bL × Int) (hx:okD (.pair aF tI) x) (hp:(fun _=>True) x):aF7.wp [] [⟨(.pair aF tI),x⟩] [] (fun v=>v.as aO = (fun x=>bE x.1 x.2) x):=by
 obtain ⟨p,s⟩:=x
 delta aF7;refine eS ?_;try with_reducible exact True.intro
 (refine gR ?_;try with_reducible exact True.intro)
 (repeat' first | intro _ | (with_reducible apply And.intro))
 all_goals first | omega | exact aPC (by omega) (by omega) (by omega) (by omega) | exact aUF (by omega) | skip
theorem aFV:Con.Holds Tryz.prog jX:=aT aY aU bAJ fun x hx hp=>aZ3 x hx hp
noncomputable def kC:Con:=⟨62,(.pair aF tI),aO,[.val ⟨true,aF,[]⟩,.val ⟨false,tI,[]⟩],[⟨true,aO,[0,0]⟩],false,none,
 ((fun _=>True):(bL × Int)→Prop),
 ((fun x=>bE x.1 x.2):(bL × Int)→(Int × Int))⟩
def aHF:T :=
 .prim (.llen 121 aA) (aJ aF 1 (.p1 aF tI (.vr 0))) <|
 .prim (.ar .sub .i64) (.mk2 tI tI (.vr 1) (.ci .i64 1)) <|
 .call 0 (bF (.pair tI aO) [(aQ (.pair aF tI) 1 (.vr 0)),(.ci .i64 0),(.vr 2)]) <|
 .prim .not (.vr 3) <|
 .ite (.vr 4) (
  .ret (.mk2 tI tI (.ci .i64 0) (.ci .i64 0))) (
  .prim (.lidx 121 aA) (.mk2 (.slice 121 aA) tI (aJ aF 1 (.p1 aF tI (.vr 0))) (aQ (.pair aF tI) 1 (.vr 0))) <|
  .prim (.lidx 121 aA) (.mk2 (.slice 121 aA) tI (aJ aF 1 (.p1 aF tI (.vr 0))) (aQ (.pair aF tI) 1 (.vr 0))) <|
  .prim (.llen 95 aO) (aJ aA 1 (.vr 6)) <|
  .prim (.ar .sub .i64) (.mk2 tI tI (.vr 7) (.ci .i64 1)) <|
  .call 0 (bF (.pair tI aO) [(.p1 tI cT (.vr 5)),(.ci .i64 0),(.vr 8)]) <|
  .prim .not (.vr 9) <|
  .ite (.vr 10) (
   .ret (.mk2 tI tI (.ci .i64 0) (.ci .i64 0))) (
   .prim (.lidx 121 aA) (.mk2 (.slice 121 aA) tI (aJ aF 1 (.p1 aF tI (.vr 0))) (aQ (.pair aF tI) 1 (.vr 0))) <|
   .prim (.lidx 121 aA) (.mk2 (.slice 121 aA) tI (aJ aF 1 (.p1 aF tI (.vr 0))) (aQ (.pair aF tI) 1 (.vr 0))) <|
   .prim (.lidx 95 aO) (.mk2 vK tI (aJ aA 1 (.vr 11)) (.p1 tI cT (.vr 12))) <|
   .ret (.vr 13)))
set_option maxRecDepth 100000 in
theorem aZM:bS Tryz.prog [bU] kC false 3000 ⟨[],[]⟩ = .ok aHF:=by kernel_rfl
theorem aYR (x:bL × Int) (hx:okD (.pair aF tI) x) (hp:(fun _=>True) x):aHF.wp [bU] [⟨(.pair aF tI),x⟩] [] (fun v=>v.as aO = (fun x=>bE x.1 x.2) x):=by
 obtain ⟨p,s⟩:=x
 have hm:∀ k,k < p.2.1.length→(p.2.1.getD k (aS aA)).2.1.length≤9223372036854775807:=fun k hk=>by rw [bD hk];exact (hx.1.2.1.2 _ (List.getElem_mem hk)).2.1.1
 have hm1:p.2.1.length≤9223372036854775807:=hx.1.2.1.1
 have hm2:=hm s.toNat
 delta aHF bU;refine eS ?_;try with_reducible exact True.intro
 (refine gR ?_;try with_reducible exact True.intro)
 (repeat' first | intro _ | (with_reducible apply And.intro))
 all_goals first | omega | exact aPC (by omega) (by omega) (by omega) (by omega) | exact aUF (by omega) | skip
theorem aH7:Con.Holds Tryz.prog kC:=aT aY (aK jB aU) aZM fun x hx hp=>aYR x hx hp
noncomputable def nG:Con:=⟨124,aE,.bool,[.val ⟨true,aE,[]⟩],[⟨false,.bool,[0]⟩],false,none,
 ((fun _=>True):(bZ)→Prop),
 ((fun x=>aDD x):(bZ)→(Bool))⟩
def xR:T :=
 .prim (.llen 161 aD) (aQ aE 1 (.vr 0)) <|
 .prim (.cmp .lss .i64) (.mk2 tI tI (.vr 1) (.p1 tI (.slice 161 aD) (.vr 0))) <|
 .ret (.vr 2)
set_option maxRecDepth 100000 in
theorem aNU:bS Tryz.prog [] nG false 3000 ⟨[],[]⟩ = .ok xR:=by kernel_rfl
theorem aPX (x:bZ) (hx:okD aE x) (hp:(fun _=>True) x):xR.wp [] [⟨aE,x⟩] [] (fun v=>v.as .bool = (fun x=>aDD x) x):=by
 delta xR;refine eS ?_;try with_reducible exact True.intro
 exact fun _=>rfl
theorem aOU:Con.Holds Tryz.prog nG:=aT aY aU aNU fun x hx hp=>aPX x hx hp
noncomputable def pZ:Con:=⟨116,aF,.bool,[.val ⟨true,aF,[]⟩],[⟨false,.bool,[0]⟩],false,none,
 ((fun _=>True):(bL)→Prop),
 ((fun x=>aY0 x):(bL)→(Bool))⟩
def zY:T :=
 .loop tI (.ci .i64 0) <|
  .prim (.llen 121 aA) (aJ aF 1 (.vr 0)) <|
  .prim (.cmp .lss .i64) (.mk2 tI tI (.vr 1) (.vr 2)) <|
  .ite (.vr 3) (
   .prim (.lidx 121 aA) (.mk2 (.slice 121 aA) tI (aJ aF 1 (.vr 0)) (.vr 1)) <|
   .prim (.lidx 121 aA) (.mk2 (.slice 121 aA) tI (aJ aF 1 (.vr 0)) (.vr 1)) <|
   .prim (.llen 95 aO) (aJ aA 1 (.vr 5)) <|
   .prim (.ar .sub .i64) (.mk2 tI tI (.vr 6) (.ci .i64 1)) <|
   .prim (.cmp .lss .i64) (.mk2 tI tI (.p1 tI cT (.vr 4)) (.vr 7)) <|
   .ite (.vr 8) (
    .ret (.cb false)) (
    .prim (.ar .add .i64) (.mk2 tI tI (.vr 1) (.ci .i64 1)) <|
    .again 0 (.vr 9))) (
   .ret (.cb true))
set_option maxRecDepth 100000 in
theorem aQJ:bS Tryz.prog [] pZ false 3000 ⟨[(2993,1001,[.dr 0,.tm 3 0])],[]⟩ = .ok zY:=by kernel_rfl
theorem aSB (x:bL) (hx:okD aF x) (hp:(fun _=>True) x):zY.wp [] [⟨aF,x⟩] [] (fun v=>v.as .bool = (fun x=>aY0 x) x):=by
 have hm:∀ k,k < x.2.1.length→(x.2.1.getD k (aS aA)).2.1.length≤9223372036854775807:=fun k hk=>by rw [bD hk];exact (hx.2.1.2 _ (List.getElem_mem hk)).2.1.1
 have hm1:x.2.1.length≤9223372036854775807:=hx.2.1.1
 delta zY;refine eS ?_;try with_reducible exact True.intro
 rw [aTY]
 refine aDX (fun k=>(k:Int)) (fun k=>(List.take k x.2.1).all aB3 = true) (List.length x.2.1) rfl rfl fun I μ k hk hG _ go=>?_
 try dsimp only
 (refine gR ?_;try with_reducible exact True.intro)
 intro _
 constructor
 ·intro hlt
  have hk':k < x.2.1.length:=by omega
  have hm2:=hm k hk'
  have e:=sP aB3 x.2.1 hk'
  have ng:∀ P:Prop,aB3 x.2.1[k] = false→false = x.2.1.all aB3:=fun _ h=>(aB1 hk' h).symm
  rw [bD hk'] at hm2
  simp only [bD hk']
  (repeat' first | intro _ | (refine go _ ?_ ?_ ?_) | (refine go _ ?_ ?_) | (with_reducible apply And.intro))
  all_goals first | omega | exact ng True (decide_eq_false (by omega)) | (rw [e,hG,Bool.true_and];exact decide_eq_true (by omega)) | rfl
 ·intro hge
  exact (aV6 hG (by omega)).symm
theorem aT2:Con.Holds Tryz.prog pZ:=aT aY aU aQJ fun x hx hp=>aSB x hx hp
noncomputable def iQ:Con:=⟨69,(.pair aF tI),.bool,[.val ⟨true,aF,[]⟩,.val ⟨false,tI,[]⟩],[⟨false,.bool,[0]⟩],false,none,
 ((fun _=>True):(bL × Int)→Prop),
 ((fun x=>dJ x.1 x.2):(bL × Int)→(Bool))⟩
def wG:T :=
 .call 0 (.p1 aF tI (.vr 0)) <|
 .prim .not (.vr 1) <|
 .ite (.vr 2) (
  .ret (.cb false)) (
  .prim (.cmp .lss .i64) (.mk2 tI tI (aQ (.pair aF tI) 1 (.vr 0)) (.ci .i64 0)) <|
  .ite (.vr 3) (
   .ret (.cb false)) (
   .prim (.llen 121 aA) (aJ aF 1 (.p1 aF tI (.vr 0))) <|
   .prim (.cmp .geq .i64) (.mk2 tI tI (aQ (.pair aF tI) 1 (.vr 0)) (.vr 4)) <|
   .ite (.vr 5) (
    .ret (.cb false)) (
    .prim (.llen 121 aA) (aJ aF 1 (.p1 aF tI (.vr 0))) <|
    .prim (.ar .sub .i64) (.mk2 tI tI (.vr 6) (.ci .i64 1)) <|
    .prim (.cmp .lss .i64) (.mk2 tI tI (aQ (.pair aF tI) 1 (.vr 0)) (.vr 7)) <|
    .call 1 (.vr 0) <|
    .prim (.cmp .eql .i64) (.mk2 tI tI (.p1 tI tI (.vr 9)) (.ci .i64 1)) <|
    .ite (.vr 10) (
     .prim (.cmp .gtr .i64) (.mk2 tI tI (aQ (.pair aF tI) 1 (.vr 0)) (.ci .i64 0)) <|
     .ite (.vr 11) (
      .prim (.ar .sub .i64) (.mk2 tI tI (aQ (.pair aF tI) 1 (.vr 0)) (.ci .i64 1)) <|
      .prim (.lidx 157 aE) (.mk2 aH tI (aJ aF 2 (.p1 aF tI (.vr 0))) (.vr 12)) <|
      .prim (.llen 161 aD) (aQ aE 1 (.vr 13)) <|
      .prim (.cmp .gtr .i64) (.mk2 tI tI (.vr 14) (.ci .i64 0)) <|
      .ret (.vr 15)) (
      .ret (.cb false))) (
     .prim (.cmp .eql .i64) (.mk2 tI tI (.p1 tI tI (.vr 9)) (.ci .i64 3)) <|
     .ite (.vr 11) (
      .ite (.vr 8) (
       .prim (.lidx 157 aE) (.mk2 aH tI (aJ aF 2 (.p1 aF tI (.vr 0))) (aQ (.pair aF tI) 1 (.vr 0))) <|
       .call 2 (.vr 12) <|
       .ret (.vr 13)) (
       .ret (.cb false))) (
      .prim (.cmp .eql .i64) (.mk2 tI tI (.p1 tI tI (.vr 9)) (.ci .i64 4)) <|
      .ite (.vr 12) (
       .ite (.vr 8) (
        .prim (.lidx 157 aE) (.mk2 aH tI (aQ aF 3 (.p1 aF tI (.vr 0))) (aQ (.pair aF tI) 1 (.vr 0))) <|
        .prim (.llen 161 aD) (aQ aE 1 (.vr 13)) <|
        .prim (.cmp .gtr .i64) (.mk2 tI tI (.vr 14) (.ci .i64 0)) <|
        .ret (.vr 15)) (
        .ret (.cb false))) (
       .prim (.cmp .eql .i64) (.mk2 tI tI (.p1 tI tI (.vr 9)) (.ci .i64 7)) <|
       .ite (.vr 13) (
        .prim (.cmp .gtr .i64) (.mk2 tI tI (aQ (.pair aF tI) 1 (.vr 0)) (.ci .i64 0)) <|
        .ite (.vr 14) (
         .prim (.ar .sub .i64) (.mk2 tI tI (aQ (.pair aF tI) 1 (.vr 0)) (.ci .i64 1)) <|
         .prim (.lidx 157 aE) (.mk2 aH tI (aQ aF 3 (.p1 aF tI (.vr 0))) (.vr 15)) <|
         .call 2 (.vr 16) <|
         .ret (.vr 17)) (
         .ret (.cb false))) (
        .prim (.cmp .eql .i64) (.mk2 tI tI (.p1 tI tI (.vr 9)) (.ci .i64 2)) <|
        .ite (.vr 14) (
         .ret (.cb true)) (
         .prim (.cmp .eql .i64) (.mk2 tI tI (.p1 tI tI (.vr 9)) (.ci .i64 5)) <|
         .ite (.vr 15) (
          .ret (.cb true)) (
          .prim (.cmp .eql .i64) (.mk2 tI tI (.p1 tI tI (.vr 9)) (.ci .i64 6)) <|
          .ite (.vr 16) (
           .ret (.cb true)) (
           .prim (.cmp .eql .i64) (.mk2 tI tI (.p1 tI tI (.vr 9)) (.ci .i64 8)) <|
           .ite (.vr 17) (
            .prim (.llen 121 aA) (aJ aF 1 (.p1 aF tI (.vr 0))) <|
            .loop tI (.ci .i64 0) <|
             .prim (.cmp .lss .i64) (.mk2 tI tI (.vr 19) (.vr 18)) <|
             .ite (.vr 20) (
              .prim (.lidx 121 aA) (.mk2 (.slice 121 aA) tI (aJ aF 1 (.p1 aF tI (.vr 0))) (.vr 19)) <|
              .prim (.llen 95 aO) (aJ aA 1 (.vr 21)) <|
              .prim (.ar .sub .i64) (.mk2 tI tI (.vr 22) (.ci .i64 1)) <|
              .prim (.cmp .lss .i64) (.mk2 tI tI (.p1 tI cT (.vr 21)) (.vr 23)) <|
              .ite (.vr 24) (
               .ret (.cb false)) (
               .prim (.ar .add .i64) (.mk2 tI tI (.vr 19) (.ci .i64 1)) <|
               .again 0 (.vr 25))) (
              .ret (.cb true))) (
            .ret (.cb false))))))))))))
set_option maxRecDepth 100000 in
theorem aN3:bS Tryz.prog [pG,jX,nG] iQ false 3000 ⟨[(2958,3072019,[.dr 90,.dr 88,.dr 89,.dr 84] ++ mL 87 85 ++ [.dr 71,.dr 72,.dr 58,.dr 59,.dr 47,.dr 48,.dr 32,.dr 33] ++ mL 31 28 ++ [.dr 5] ++ mL 27 8 ++ [.dr 2,.dr 0,.dr 1,.tm 93 0])],[]⟩ = .ok wG:=by kernel_rfl
set_option maxHeartbeats 1000000 in
theorem aO8 (x:bL × Int) (hx:okD (.pair aF tI) x) (hp:(fun _=>True) x):wG.wp [pG,jX,nG] [⟨(.pair aF tI),x⟩] [] (fun v=>v.as .bool = (fun x=>dJ x.1 x.2) x):=by
 obtain ⟨p,s⟩:=x
 have hm:∀ k,k < p.2.1.length→(p.2.1.getD k (aS aA)).2.1.length≤9223372036854775807:=fun k hk=>by rw [bD hk];exact (hx.1.2.1.2 _ (List.getElem_mem hk)).2.1.1
 have hm1:p.2.1.length≤9223372036854775807:=hx.1.2.1.1
 delta wG pG jX nG;refine eS ?_;try with_reducible exact True.intro
 (refine gR ?_;try with_reducible exact True.intro)
 refine ⟨fun h=>aOX (.inl h),fun h1=>⟨fun h=>aOX (.inr (.inl h)),fun h2 _=>⟨fun h=>aOX (.inr (.inr h)),fun h3 _=>⟨by omega,fun _ _=>?_⟩⟩⟩⟩
 have hp':=(mH.1 h1).1
 (repeat' first | intro _ | (with_reducible apply And.intro))
 all_goals first | omega | exact aXA h1 h2 h3 (.inl (by assumption)) | exact aXA h1 h2 h3 (.inr (.inl (by assumption))) | exact aXA h1 h2 h3 (.inr (.inr (by assumption))) | exact bD6 ⟨by assumption,by assumption,by assumption,by assumption,by assumption,by assumption,by assumption,by assumption⟩ | exact bD1 h1 h2 h3 (by assumption) (by omega) | exact bCN h1 h2 h3 (by assumption) (by omega) | exact bCY h1 h2 h3 (by assumption) (by omega) | exact bCS h1 h2 h3 (by assumption) (by omega) | exact bCT h1 h2 h3 (by assumption) (by omega) | exact bCR h1 h2 h3 (by assumption) (by omega) | exact bCW h1 h2 h3 (by assumption) (by omega) | exact bCX h1 h2 h3 (by assumption) (by omega) | skip
 rw [bDT h1 h2 h3 (by assumption),aTY]
 refine aDX (fun k=>(k:Int)) (fun k=>(List.take k p.2.1).all aB3 = true) (List.length p.2.1) rfl rfl fun I μ k hk hG _ go=>?_
 try dsimp only
 (refine gR ?_;try with_reducible exact True.intro)
 constructor
 ·intro hlt
  have hk':k < p.2.1.length:=by omega
  have hm2:=hm k hk'
  have e:=sP aB3 p.2.1 hk'
  have ng:∀ P:Prop,aB3 p.2.1[k] = false→false = p.2.1.all aB3:=fun _ h=>(aB1 hk' h).symm
  rw [bD hk'] at hm2
  simp only [bD hk']
  (repeat' first | intro _ | (refine go _ ?_ ?_ ?_) | (refine go _ ?_ ?_) | (with_reducible apply And.intro))
  all_goals first | omega | exact ng True (decide_eq_false (by omega)) | (rw [e,hG,Bool.true_and];exact decide_eq_true (by omega)) | rfl
 ·intro hge
  exact (aV6 hG (by omega)).symm
set_option maxHeartbeats 1000000 in
theorem aDL:Con.Holds Tryz.prog iQ:=aT aY (aK aSH (aK aFV (aK aOU aU))) aN3 fun x hx hp=>aO8 x hx hp
noncomputable def iS:Con:=⟨63,(.pair aF tI),.bool,[.val ⟨true,aF,[]⟩,.val ⟨false,tI,[]⟩],[⟨false,.bool,[0]⟩],false,none,
 ((fun _=>True):(bL × Int)→Prop),
 ((fun x=>dJ x.1 x.2):(bL × Int)→(Bool))⟩
def xU:T :=
 .call 0 (.p1 aF tI (.vr 0)) <|
 .prim .not (.vr 1) <|
 .ite (.vr 2) (
  .ret (.cb false)) (
  .prim (.llen 121 aA) (aJ aF 1 (.p1 aF tI (.vr 0))) <|
  .prim (.ar .sub .i64) (.mk2 tI tI (.vr 3) (.ci .i64 1)) <|
  .call 1 (bF (.pair tI aO) [(aQ (.pair aF tI) 1 (.vr 0)),(.ci .i64 0),(.vr 4)]) <|
  .prim .not (.vr 5) <|
  .ite (.vr 6) (
   .ret (.cb false)) (
   .call 2 (.vr 0) <|
   .prim (.cmp .eql .i64) (.mk2 tI tI (.p1 tI tI (.vr 7)) (.ci .i64 1)) <|
   .ite (.vr 8) (
    .prim (.cmp .gtr .i64) (.mk2 tI tI (aQ (.pair aF tI) 1 (.vr 0)) (.ci .i64 0)) <|
    .ite (.vr 9) (
     .prim (.ar .sub .i64) (.mk2 tI tI (aQ (.pair aF tI) 1 (.vr 0)) (.ci .i64 1)) <|
     .prim (.lidx 157 aE) (.mk2 aH tI (aJ aF 2 (.p1 aF tI (.vr 0))) (.vr 10)) <|
     .prim (.llen 161 aD) (aQ aE 1 (.vr 11)) <|
     .prim (.cmp .gtr .i64) (.mk2 tI tI (.vr 12) (.ci .i64 0)) <|
     .ret (.vr 13)) (
     .ret (.cb false))) (
    .prim (.cmp .eql .i64) (.mk2 tI tI (.p1 tI tI (.vr 7)) (.ci .i64 3)) <|
    .ite (.vr 9) (
     .prim (.llen 121 aA) (aJ aF 1 (.p1 aF tI (.vr 0))) <|
     .prim (.ar .sub .i64) (.mk2 tI tI (.vr 10) (.ci .i64 1)) <|
     .prim (.cmp .lss .i64) (.mk2 tI tI (aQ (.pair aF tI) 1 (.vr 0)) (.vr 11)) <|
     .ite (.vr 12) (
      .prim (.lidx 157 aE) (.mk2 aH tI (aJ aF 2 (.p1 aF tI (.vr 0))) (aQ (.pair aF tI) 1 (.vr 0))) <|
      .prim (.llen 161 aD) (aQ aE 1 (.vr 13)) <|
      .prim (.lidx 157 aE) (.mk2 aH tI (aJ aF 2 (.p1 aF tI (.vr 0))) (aQ (.pair aF tI) 1 (.vr 0))) <|
      .prim (.cmp .lss .i64) (.mk2 tI tI (.vr 14) (.p1 tI (.slice 161 aD) (.vr 15))) <|
      .ret (.vr 16)) (
      .ret (.cb false))) (
     .prim (.cmp .eql .i64) (.mk2 tI tI (.p1 tI tI (.vr 7)) (.ci .i64 4)) <|
     .ite (.vr 10) (
      .prim (.llen 121 aA) (aJ aF 1 (.p1 aF tI (.vr 0))) <|
      .prim (.ar .sub .i64) (.mk2 tI tI (.vr 11) (.ci .i64 1)) <|
      .prim (.cmp .lss .i64) (.mk2 tI tI (aQ (.pair aF tI) 1 (.vr 0)) (.vr 12)) <|
      .ite (.vr 13) (
       .prim (.lidx 157 aE) (.mk2 aH tI (aQ aF 3 (.p1 aF tI (.vr 0))) (aQ (.pair aF tI) 1 (.vr 0))) <|
       .prim (.llen 161 aD) (aQ aE 1 (.vr 14)) <|
       .prim (.cmp .gtr .i64) (.mk2 tI tI (.vr 15) (.ci .i64 0)) <|
       .ret (.vr 16)) (
       .ret (.cb false))) (
      .prim (.cmp .eql .i64) (.mk2 tI tI (.p1 tI tI (.vr 7)) (.ci .i64 7)) <|
      .ite (.vr 11) (
       .prim (.cmp .gtr .i64) (.mk2 tI tI (aQ (.pair aF tI) 1 (.vr 0)) (.ci .i64 0)) <|
       .ite (.vr 12) (
        .prim (.ar .sub .i64) (.mk2 tI tI (aQ (.pair aF tI) 1 (.vr 0)) (.ci .i64 1)) <|
        .prim (.ar .sub .i64) (.mk2 tI tI (aQ (.pair aF tI) 1 (.vr 0)) (.ci .i64 1)) <|
        .prim (.lidx 157 aE) (.mk2 aH tI (aQ aF 3 (.p1 aF tI (.vr 0))) (.vr 13)) <|
        .prim (.llen 161 aD) (aQ aE 1 (.vr 15)) <|
        .prim (.lidx 157 aE) (.mk2 aH tI (aQ aF 3 (.p1 aF tI (.vr 0))) (.vr 14)) <|
        .prim (.cmp .lss .i64) (.mk2 tI tI (.vr 16) (.p1 tI (.slice 161 aD) (.vr 17))) <|
        .ret (.vr 18)) (
        .ret (.cb false))) (
       .prim (.cmp .eql .i64) (.mk2 tI tI (.p1 tI tI (.vr 7)) (.ci .i64 2)) <|
       .ite (.vr 12) (
        .ret (.cb true)) (
        .prim (.cmp .eql .i64) (.mk2 tI tI (.p1 tI tI (.vr 7)) (.ci .i64 5)) <|
        .ite (.vr 13) (
         .ret (.cb true)) (
         .prim (.cmp .eql .i64) (.mk2 tI tI (.p1 tI tI (.vr 7)) (.ci .i64 6)) <|
         .ite (.vr 14) (
          .ret (.cb true)) (
          .prim (.cmp .eql .i64) (.mk2 tI tI (.p1 tI tI (.vr 7)) (.ci .i64 8)) <|
          .ite (.vr 15) (
           .call 3 (.p1 aF tI (.vr 0)) <|
           .ret (.vr 16)) (
           .ret (.cb false)))))))))))
set_option maxRecDepth 100000 in
theorem aNK:bS Tryz.prog [qD,bU,kC,pZ] iS false 3000 ⟨[],[]⟩ = .ok xU:=by kernel_rfl
set_option maxHeartbeats 1000000 in
theorem aPE (x:bL × Int) (hx:okD (.pair aF tI) x) (hp:(fun _=>True) x):xU.wp [qD,bU,kC,pZ] [⟨(.pair aF tI),x⟩] [] (fun v=>v.as .bool = (fun x=>dJ x.1 x.2) x):=by
 obtain ⟨p,s⟩:=x
 have hm1:p.2.1.length≤9223372036854775807:=hx.1.2.1.1
 delta xU qD bU kC pZ;refine eS ?_;try with_reducible exact True.intro
 (refine gR ?_;try with_reducible exact True.intro)
 refine ⟨fun h=>aOX (.inl h),fun h1 _=>⟨by omega,fun _=>⟨fun h=>aOX (.inr (by omega)),fun hs _=>?_⟩⟩⟩
 have h2:0≤s:=hs.1
 have h3:s < (p.2.1.length:Int):=by omega
 have hp':=(mH.1 h1).1
 (repeat' first | intro _ | (with_reducible apply And.intro))
 all_goals first | omega | exact aXA h1 h2 h3 (.inl (by assumption)) | exact aXA h1 h2 h3 (.inr (.inl (by assumption))) | exact aXA h1 h2 h3 (.inr (.inr (by assumption))) | exact bD6 ⟨by assumption,by assumption,by assumption,by assumption,by assumption,by assumption,by assumption,by assumption⟩ | exact bD1 h1 h2 h3 (by assumption) (by omega) | exact bCN h1 h2 h3 (by assumption) (by omega) | exact bCY h1 h2 h3 (by assumption) (by omega) | exact bCS h1 h2 h3 (by assumption) (by omega) | exact bCT h1 h2 h3 (by assumption) (by omega) | exact bCR h1 h2 h3 (by assumption) (by omega) | exact bCW h1 h2 h3 (by assumption) (by omega) | exact bCX h1 h2 h3 (by assumption) (by omega) | skip
 all_goals exact (bDT h1 h2 h3 (by assumption)).symm
set_option maxHeartbeats 1000000 in
theorem aDY:Con.Holds Tryz.prog iS:=aT aY (aK aR9 (aK jB (aK aH7 (aK aT2 aU)))) aNK fun x hx hp=>aPE x hx hp
end Go.Proofs.YtmfpkkbhnmkfdaaGreat
