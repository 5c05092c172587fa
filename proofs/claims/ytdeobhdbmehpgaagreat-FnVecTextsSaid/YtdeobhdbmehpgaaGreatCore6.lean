/- Core6: lemmas. No conditions. -/
import Derived.Test.YtdeobhdbmehpgaaGreatSeq5
import Derived.Test.YtdeobhdbmehpgaaGreatPipe4
import Derived.Test.YtdeobhdbmehpgaaGreatCpy2
import Derived.Test.YtdeobhdbmehpgaaGreatCe
namespace Go.Proofs.YtdeobhdbmehpgaaGreat
noncomputable section
open Go.ChangeShapes Go.WideShapes Go.ChangeAt Go.RowKit Go.Deep
set_option linter.unusedVariables false
set_option linter.unusedSimpArgs false
theorem aEU {e:TypeId} {l:bX} (h:aV9 (.slice e aE6) l):List.length l≤1000000000∧∀ y∈l,List.length y≤1000000000:=⟨h.1,fun y hy=>(h.2 y hy).1⟩
theorem bA8 {g:iN} (h:aV9 aX g):qX g:=aEU h.1
def lK (l:List dQ) (m:Int):Nat→Int
 | 0=>-1
 | k+1=>if lK l m k = -1∧(l.getD k (bG aC)).1=m then (k:Int) else lK l m k
def dT (l:List dQ) (m:Int):Int:=lK l m l.length
theorem aH0 (l:List dQ) (m:Int):(k:Nat)→-1≤lK l m k∧lK l m k<k
 | 0=>by unfold lK;omega
 | k+1=>by
  have:=aH0 l m k
  unfold lK;split <;> omega
theorem aG7 {l : List dQ} {m : Int} : {k n : Nat} → k ≤ n → lK l m k ≠ -1 → lK l m n = lK l m k
  | k, 0, h, _ => by have : k = 0 := by omega
                     subst this; rfl
  | k, n + 1, h, hk => by
    rcases Nat.lt_or_eq_of_le h with h | rfl
    · have e := aG7 (Nat.le_of_lt_succ h) hk
      rw [lK, if_neg (fun hh => hk (e ▸ hh.1)), e]
    · rfl
theorem aW5 {l:List dQ} {m:Int} {k:Nat} (hk:k<l.length) (h:lK l m k = -1) (hm:(l.getD k (bG aC)).1=m):(k:Int)=dT l m:=by
 have e:lK l m (k+1)=k:=by rw[lK,if_pos ⟨h,hm⟩]
 unfold dT
 rw[aG7 (k:=k+1) hk (by omega),e]
theorem aVU {l:List dQ} {m:Int} {k:Nat} (h:lK l m k = -1) (hm:¬ (l.getD k (bG aC)).1=m):lK l m (k+1) = -1:=by rw[lK,if_neg (fun hh=>hm hh.2),h]
def cY:Con:=⟨130,(.bEL (.slice 80 aC) tI),tI,[.val ⟨false,(.slice 80 aC),[]⟩,.val ⟨false,tI,[]⟩],[⟨false,tI,[0]⟩],false,none,
 ((fun _=>True):((List dQ) × Int)→Prop),
 ((fun x=>dT x.1 x.2):((List dQ) × Int)→(Int))⟩
def rC:T:=.loop tI (.ci .i64 0) <|
 .bEM (.bEP 80 aC) (.p1 (.slice 80 aC) tI (.Z 0)) <|
 .bEM (.cmp .lss .i64) (.bEN tI tI (.Z 1) (.Z 2)) <|
 .ite (.Z 3) (
  .bEM (.bEQ 80 aC) (.bEN (.slice 80 aC) tI (.p1 (.slice 80 aC) tI (.Z 0)) (.Z 1)) <|
  .bEM (.cmp .eql .i64) (.bEN tI tI (.p1 tI aE (.Z 4)) (aN (.bEL (.slice 80 aC) tI) 1 (.Z 0))) <|
  .ite (.Z 5) (
   .ret (.Z 1)) (
   .bEM (.ar .add .i64) (.bEN tI tI (.Z 1) (.ci .i64 1)) <|
   .bEO 0 (.Z 6))) (
  .ret (.ci .i64 (-1)))
set_option maxRecDepth 100000 in
theorem aI8:bJ Tryz.prog [] cY false 3000 ⟨[(2993,1001,[.tm 5 0])],[]⟩ = .ok rC:=by kernel_rfl
theorem aI6 (x:(List dQ) × Int) (hx:okD (.bEL (.slice 80 aC) tI) x) (hp:(fun _=>True) x):rC.wp [] [⟨(.bEL (.slice 80 aC) tI),x⟩] [] (fun v=>v.as tI=(fun x=>dT x.1 x.2) x):=by
 obtain ⟨l,m⟩:=x
 have hm:l.length≤9223372036854775807:=hx.1.1
 delta rC;refine eE ?_;try with_reducible exact True.intro
 (repeat' first|intro _|(with_reducible apply And.intro))
 all_goals first|omega|(unfold maxLen;omega)|skip
 refine aNT (fun k=>(k:Int)) (fun k=>lK l m k = -1) (List.length l) rfl rfl fun I μ k hk hg _ go=>?_
 try dsimp only
 (refine fJ ?_;try with_reducible exact True.intro)
 (repeat' first|intro _|(refine go _ ?_ ?_ ?_)|(refine go _ ?_ ?_)|(with_reducible apply And.intro))
 all_goals first|omega|exact aW5 (by omega) hg (by assumption)|exact aVU hg (by assumption)|rfl|(have e:k=List.length l:=(by omega);subst e;exact hg.symm)
theorem qU:Con.Holds Tryz.prog cY:=aQ aR aO aI8 aI6
end
end Go.Proofs.YtdeobhdbmehpgaaGreat
