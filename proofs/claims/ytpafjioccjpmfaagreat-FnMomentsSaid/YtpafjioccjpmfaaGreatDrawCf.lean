/- DrawCf: lemmas. No conditions. -/
import Derived.Test.YtpafjioccjpmfaaGreatDrawR
import Derived.Test.YtpafjioccjpmfaaGreatCoreA
namespace Go.Proofs.YtpafjioccjpmfaaGreat
noncomputable section
set_option maxRecDepth 100000
open Go.ChangeShapes Go.WideShapes Go.ChangeAt Go.RowKit Go.Deep
set_option linter.unusedVariables false
set_option linter.unusedSimpArgs false
def uD (n k b:Nat) (c:bB) (l:bL):Prop:=List.length c.1≤n∧(∀ o∈(c.1:bE),List.length o.2.2.2≤40)∧List.length c.2.1≤k∧List.length c.2.2.2.1≤k+1∧List.length c.2.2.2.2.1≤k∧List.length c.2.2.2.2.2≤k+1 ∧
 List.length l≤b∧∀ p∈(l:List cB),List.length p.1≤7∧List.length p.2≤7
theorem bNZ (c:bB) (s micro:Int):0≤jD c s micro∧jD c s micro≤330:=by
 unfold jD
 split
 ·rename_i h
  obtain ⟨h1,h2,h3,h4⟩:=h
  have hb:=aGZ c s
  have hs:s≤(c.2.1.length:Int):=Int.not_lt.1 fun hh=>by rw[pX (.inr (.inr hh))] at h1;exact absurd h1 (Int.lt_irrefl _)
  have q1:=aZM (k:=min micro ((c.2.1.length:Int)+1 - s)) (v:=fY c s) (by omega) (by omega) (by omega) (by omega)
  have q2:=aZM (k:=micro) (v:=fY c s) (by omega) (by omega) (by omega) (by omega)
  split <;> split <;> omega
 ·omega
def cuB (l:List Int) (n:Nat) (j:Int):Prop:=(∀ i,i<l.length→cutAt l n i=true)∧(0<l.length→l.getD (l.length - 1) 0<j)
theorem aBT {l:List Int} {v:Int} {j:Nat} (hj:j<l.length):(l++[v]).getD j 0=l.getD j 0:=by
 rw[List.getD_eq_getElem?_getD,List.getD_eq_getElem?_getD,List.getElem?_append_left hj]
theorem aGI {l:List Int} {v:Int}:(l++[v]).getD l.length 0=v:=by
 rw[List.getD_eq_getElem?_getD,List.getElem?_append_right (Nat.le_refl _),Nat.sub_self];rfl
theorem bHM {l:List Int} {n:Nat} {j:Int} (h:cuB l n j) (h1:1≤j) (h2:j≤(n:Int) - 1):cuB (l++[j]) n (j+1):=by
 have el:(l++[j]).length=l.length+1:=by rw[List.length_append];rfl
 refine ⟨fun i hlt=>?_,fun _=>?_⟩
 ·rw[el] at hlt
  rcases Nat.lt_or_eq_of_le (Nat.le_of_lt_succ hlt) with h3|rfl
  ·have:=h.1 i h3
   unfold cutAt at this ⊢
   rw[aBT h3,aBT (show i - 1<l.length by omega)];exact this
  ·unfold cutAt
   rw[aGI,decide_eq_true_eq]
   refine ⟨h1,h2,?_⟩
   by_cases h0:l.length=0
   ·exact .inl h0
   ·rw[aBT (show l.length - 1<l.length by omega)];exact .inr (h.2 (by omega))
 ·rw[el,Nat.add_sub_cancel,aGI];omega
theorem bGE {l:List Int} {n:Nat} {j:Int} (h:cuB l n j):cuB l n (j+1):=⟨h.1,fun h0=>by have:=h.2 h0;omega⟩
theorem bKR {n:Nat} {j:Int}:cuB [] n j:=⟨fun i h=>absurd h (Nat.not_lt_zero _),fun h=>absurd h (Nat.lt_irrefl _)⟩
def liB (c:bB) (n:Int) (l:List Int):Prop:=∀ k,k<l.length→jD c (k:Int) n≤l.getD k 0∧l.getD k 0≤100000
theorem bI2 {c:bB} {n:Int} {l:List Int} {v:Int} (h:liB c n l) (h1:jD c (l.length:Int) n≤v) (h2:v≤100000):liB c n (l++[v]):=fun k hk=>by
 rw[List.length_append,List.length_singleton] at hk
 rcases Nat.lt_or_eq_of_le (Nat.le_of_lt_succ hk) with h3|rfl
 ·rw[aBT h3];exact h k h3
 ·rw[aGI];exact ⟨h1,h2⟩
theorem bHY {m:bE} {cuts:List Int} {d:Int} {rd:List Bool} {cp lm:List Int} {b:List cB} (h1:bO m=true) (h2:eK m b=true) (h3:iL m cuts=true) (h4:cuts.length≤3) (h5:d=1∨d=2)
  (h6:rd.length=cuts.length+1) (h7:cp.length=cuts.length) (h8:∀ v∈cp,1≤v∧v≤5) (h9:lm.length=cuts.length+1) (h10:liB (m,cuts,d,rd,cp,[]) (b.length:Int) lm):cE (m,cuts,d,rd,cp,lm) b=0:=by
 have es:bC m cuts=(cuts.length:Int)+1:=xE h3
 refine (bNS (c:=(m,cuts,d,rd,cp,lm)) h1 h2 ?_ h5 ?_ ?_ ?_).symm
 ·show ¬ (bC m cuts=0∨4<bC m cuts)
  omega
 ·show (rd.length:Int)=bC m cuts
  omega
 ·exact aZG h7 (List.all_eq_true.2 fun v hv=>decide_eq_true (h8 v hv))
 ·show (decide ((lm.length:Int)=bC m cuts)&&(List.range lm.length).all (aOF (m,cuts,d,rd,cp,lm) (b.length:Int)))=true
  rw[decide_eq_true (show (lm.length:Int)=bC m cuts by omega),Bool.true_and,List.all_eq_true]
  intro k hk
  exact decide_eq_true (h10 k (List.mem_range.1 hk))
def aDO:Con:=⟨79,(.bPW (.bPW (.slice 5 (.int .u8)) aD) aE),(.bPW aB (.bPW (.slice 5 (.int .u8)) aD)),[.box 91 ⟨true,(.bPW (.slice 5 (.int .u8)) aD),[]⟩,.val ⟨true,aE,[]⟩],[⟨false,aB,[2]⟩],false,none,
 ((fun x=>0≤x.1.2.1∧x.2.length≤9):(aN × bE)→Prop),
 ((fun _=>aP (.bPW aB (.bPW (.slice 5 (.int .u8)) aD))):(aN × bE)→(bK × aN))⟩
def aDK:T:=.loop (.bPW tI (.bPW (.slice 5 (.int .u8)) (.bPW tI aI))) (bP (.bPW tI (.bPW (.slice 5 (.int .u8)) (.bPW tI aI))) [(.ci .i64 1),(.p1 (.slice 5 (.int .u8)) aD (.p1 (.bPW (.slice 5 (.int .u8)) aD) aE (.Z 0))),(aH (.bPW (.slice 5 (.int .u8)) aD) 1 (.p1 (.bPW (.slice 5 (.int .u8)) aD) aE (.Z 0))),(aS (.bPW (.slice 5 (.int .u8)) aD) 2 (.p1 (.bPW (.slice 5 (.int .u8)) aD) aE (.Z 0))),(.nl 3 tI)]) <|
 .bPX (.bQ0 80 bU) (aS (.bPW (.bPW (.slice 5 (.int .u8)) aD) aE) 1 (.Z 0)) <|
 .bPX (.cmp .lss .i64) (.bPY tI tI (.p1 tI (.bPW (.slice 5 (.int .u8)) (.bPW tI aI)) (.Z 1)) (.Z 2)) <|
 .ite (.Z 3) (
  .call 0 (.bPY (.bPW (.slice 5 (.int .u8)) aD) tI (bP (.bPW (.slice 5 (.int .u8)) aD) [(aH (.bPW tI (.bPW (.slice 5 (.int .u8)) (.bPW tI aI))) 1 (.Z 1)),(aH (.bPW tI (.bPW (.slice 5 (.int .u8)) (.bPW tI aI))) 2 (.Z 1)),(aH (.bPW tI (.bPW (.slice 5 (.int .u8)) (.bPW tI aI))) 3 (.Z 1))]) (.ci .i64 2)) <|
  .ite (.p1 .bool (.bPW (.slice 5 (.int .u8)) aD) (.Z 4)) (
   .bPX (.bQ0 3 tI) (aS (.bPW tI (.bPW (.slice 5 (.int .u8)) (.bPW tI aI))) 4 (.Z 1)) <|
   .bPX (.cmp .lss .i64) (.bPY tI tI (.Z 5) (.ci .i64 3)) <|
   .ite (.Z 6) (
    .bPX (.lit 3 tI 1) (.p1 tI (.bPW (.slice 5 (.int .u8)) (.bPW tI aI)) (.Z 1)) <|
    .bPX (.bQ3 3 tI 8) (.bPY aB aB (aS (.bPW tI (.bPW (.slice 5 (.int .u8)) (.bPW tI aI))) 4 (.Z 1)) (.Z 7)) <|
    .bPX (.ar .add .i64) (.bPY tI tI (.p1 tI (.bPW (.slice 5 (.int .u8)) (.bPW tI aI)) (.Z 1)) (.ci .i64 1)) <|
    .bPZ 0 (bP (.bPW tI (.bPW (.slice 5 (.int .u8)) (.bPW tI aI))) [(.Z 9),(aH (.bPW .bool (.bPW (.slice 5 (.int .u8)) aD)) 1 (.Z 4)),(aH (.bPW .bool (.bPW (.slice 5 (.int .u8)) aD)) 2 (.Z 4)),(aS (.bPW .bool (.bPW (.slice 5 (.int .u8)) aD)) 3 (.Z 4)),(.Z 8)])) (
    .bPX (.ar .add .i64) (.bPY tI tI (.p1 tI (.bPW (.slice 5 (.int .u8)) (.bPW tI aI)) (.Z 1)) (.ci .i64 1)) <|
    .bPZ 0 (bP (.bPW tI (.bPW (.slice 5 (.int .u8)) (.bPW tI aI))) [(.Z 7),(aH (.bPW .bool (.bPW (.slice 5 (.int .u8)) aD)) 1 (.Z 4)),(aH (.bPW .bool (.bPW (.slice 5 (.int .u8)) aD)) 2 (.Z 4)),(aS (.bPW .bool (.bPW (.slice 5 (.int .u8)) aD)) 3 (.Z 4)),(aS (.bPW tI (.bPW (.slice 5 (.int .u8)) (.bPW tI aI))) 4 (.Z 1))]))) (
   .bPX (.ar .add .i64) (.bPY tI tI (.p1 tI (.bPW (.slice 5 (.int .u8)) (.bPW tI aI)) (.Z 1)) (.ci .i64 1)) <|
   .bPZ 0 (bP (.bPW tI (.bPW (.slice 5 (.int .u8)) (.bPW tI aI))) [(.Z 5),(aH (.bPW .bool (.bPW (.slice 5 (.int .u8)) aD)) 1 (.Z 4)),(aH (.bPW .bool (.bPW (.slice 5 (.int .u8)) aD)) 2 (.Z 4)),(aS (.bPW .bool (.bPW (.slice 5 (.int .u8)) aD)) 3 (.Z 4)),(aS (.bPW tI (.bPW (.slice 5 (.int .u8)) (.bPW tI aI))) 4 (.Z 1))]))) (
  .ret (bP (.bPW aB (.bPW (.slice 5 (.int .u8)) aD)) [(aS (.bPW tI (.bPW (.slice 5 (.int .u8)) (.bPW tI aI))) 4 (.Z 1)),(aH (.bPW tI (.bPW (.slice 5 (.int .u8)) (.bPW tI aI))) 1 (.Z 1)),(aH (.bPW tI (.bPW (.slice 5 (.int .u8)) (.bPW tI aI))) 2 (.Z 1)),(aH (.bPW tI (.bPW (.slice 5 (.int .u8)) (.bPW tI aI))) 3 (.Z 1))]))
theorem aZS (f:(aN × bE)→(bK × aN)):bW Tryz.prog [iV] { aDO with fn:=f } false 3000 ⟨[(2991,1001,[.dr 7,.dr 1,.tm 6 0,.on 5,.bx 1 0,.bx 1 1,.bx 1 2,.sl 3])],[]⟩ = .ok aDK:=by kernel_rfl
theorem aZN (x:aN × bE) (hx:okD (.bPW (.bPW (.slice 5 (.int .u8)) aD) aE) x) (hp:(fun x=>0≤x.1.2.1∧x.2.length≤9) x):aDK.wp [iV] [⟨(.bPW (.bPW (.slice 5 (.int .u8)) aD) aE),x⟩] [] (fun v=>(fun x r=>(r.1.length≤3∧∀ i,i<r.1.length→cutAt r.1 x.2.length i=true)∧0≤r.2.2.1:(aN × bE)→(bK × aN)→Prop) x (v.as (.bPW aB (.bPW (.slice 5 (.int .u8)) aD)))):=by
 obtain ⟨c,m⟩:=x
 obtain ⟨hp,hm⟩:0≤c.2.1∧List.length m≤9:=hp
 delta aDK iV;refine dY ?_
 refine eD ?_
 refine ⟨fun s=>@LE.le Int _ 1 s.1∧@LE.le Int _ s.1 10∧(List.length s.2.2.2.2≤3∧cuB s.2.2.2.2 (List.length m) s.1)∧@LE.le Int _ 0 s.2.2.1,fun s=>(20 - s.1:Int).toNat,⟨by show (1:Int)≤1;omega,by show (1:Int)≤10;omega,⟨Nat.zero_le _,bKR⟩,hp⟩,fun s hs hI=>?_⟩
 obtain ⟨j,b,i,h,l⟩:=s
 obtain ⟨e1,e2,⟨e3,e5⟩,e4⟩:=hI
 change Int at j
 change List Int at l
 change (1:Int)≤j at e1
 change j≤10 at e2
 change List.length l≤3 at e3
 change cuB l (List.length m) j at e5
 change 0≤(i:Int) at e4
 have q:=aE9 ((b,i,h),2) ⟨⟨hs.2.1,hs.2.2.1,hs.2.2.2.1⟩,okI (by omega) (by omega)⟩ e4
 generalize nB ((b,i,h),2)=r at q ⊢;obtain ⟨n1,c1⟩:=r;obtain ⟨kq1,uq1⟩:=q;dsimp only at uq1 ⊢
 try dsimp only
 (refine eD ?_;try with_reducible exact True.intro)
 (repeat' first|intro _|(with_reducible apply And.intro))
 all_goals first|omega|(unfold maxLen;omega)|exact uq1|exact e4|exact bHM e5 (by omega) (by omega)|exact bGE e5|exact e5.1 _ (by assumption)|skip
theorem aD8:∃ f:(aN × bE)→(bK × aN),(∀ x,okD (.bPW (.bPW (.slice 5 (.int .u8)) aD) aE) x→(fun x=>0≤x.1.2.1∧x.2.length≤9) x→(fun x r=>(r.1.length≤3∧∀ i,i<r.1.length→cutAt r.1 x.2.length i=true)∧0≤r.2.2.1:(aN × bE)→(bK × aN)→Prop) x (f x))∧Con.Holds Tryz.prog { aDO with fn:=f }:=iX (C:=aDO) aZ (aG yR aT) aZS (fun x r=>(r.1.length≤3∧∀ i,i<r.1.length→cutAt r.1 x.2.length i=true)∧0≤r.2.2.1:(aN × bE)→(bK × aN)→Prop) aZN
def sZ:(aN × bE)→(bK × aN):=Classical.choose aD8
def xV:Con:=⟨79,(.bPW (.bPW (.slice 5 (.int .u8)) aD) aE),(.bPW aB (.bPW (.slice 5 (.int .u8)) aD)),[.box 91 ⟨true,(.bPW (.slice 5 (.int .u8)) aD),[]⟩,.val ⟨true,aE,[]⟩],[⟨false,aB,[2]⟩],false,none,
 ((fun x=>0≤x.1.2.1∧x.2.length≤9):(aN × bE)→Prop),
 ((sZ):(aN × bE)→(bK × aN))⟩
theorem aYH:∀ x,okD (.bPW (.bPW (.slice 5 (.int .u8)) aD) aE) x→(fun x=>0≤x.1.2.1∧x.2.length≤9) x→(fun x r=>(r.1.length≤3∧∀ i,i<r.1.length→cutAt r.1 x.2.length i=true)∧0≤r.2.2.1:(aN × bE)→(bK × aN)→Prop) x (sZ x):=(Classical.choose_spec aD8).1
theorem aKS:Con.Holds Tryz.prog xV:=(Classical.choose_spec aD8).2
theorem bAA (x:aN × bE) (hx:okD (.bPW (.bPW (.slice 5 (.int .u8)) aD) aE) x) (hp:(fun x=>0≤x.1.2.1∧x.2.length≤9) x):okD (.bPW aB (.bPW (.slice 5 (.int .u8)) aD)) (sZ x)∧(fun x r=>(r.1.length≤3∧∀ i,i<r.1.length→cutAt r.1 x.2.length i=true)∧0≤r.2.2.1:(aN × bE)→(bK × aN)→Prop) x (sZ x):=⟨aKS.ok x hp hx,aYH x hx hp⟩
def vE:Con:=⟨45,(.bPW (.slice 5 (.int .u8)) aD),(.bPW aC (.bPW aF (.bPW (.slice 5 (.int .u8)) aD))),[.box 91 ⟨true,(.bPW (.slice 5 (.int .u8)) aD),[]⟩],[⟨true,aC,[1,2,0,2,2,2]⟩,⟨false,aF,[1]⟩],false,none,
 ((fun x=>0≤x.2.1):(aN)→Prop),
 ((fun _=>aP (.bPW aC (.bPW aF (.bPW (.slice 5 (.int .u8)) aD)))):(aN)→(bB × (bL × aN)))⟩
def vJ:T:=.call 0 (.Z 0) <|.call 1 (.bPY (.bPW (.slice 5 (.int .u8)) aD) aE (aS (.bPW aE (.bPW (.slice 5 (.int .u8)) aD)) 1 (.Z 1)) (.p1 aE (.bPW (.slice 5 (.int .u8)) aD) (.Z 1))) <|.call 2 (.bPY (.bPW (.slice 5 (.int .u8)) aD) tI (aS (.bPW aB (.bPW (.slice 5 (.int .u8)) aD)) 1 (.Z 2)) (.ci .i64 2)) <|
 .bPX (.ar .add .i64) (.bPY tI tI (.ci .i64 1) (.p1 tI (.bPW (.slice 5 (.int .u8)) aD) (.Z 3))) <|
 .bPX .not (.cb true) <|
 .call 3 (.bPY (.bPW (.slice 5 (.int .u8)) aD) aE (aS (.bPW tI (.bPW (.slice 5 (.int .u8)) aD)) 1 (.Z 3)) (.p1 aE (.bPW (.slice 5 (.int .u8)) aD) (.Z 1))) <|
 .loop (.bPW tI (.bPW (.slice 5 (.int .u8)) (.bPW tI (.bPW tI (.bPW cA aB))))) (bP (.bPW tI (.bPW (.slice 5 (.int .u8)) (.bPW tI (.bPW tI (.bPW cA aB))))) [(.ci .i64 0),(aH (.bPW aF (.bPW (.slice 5 (.int .u8)) aD)) 1 (.Z 6)),(aH (.bPW aF (.bPW (.slice 5 (.int .u8)) aD)) 2 (.Z 6)),(aS (.bPW aF (.bPW (.slice 5 (.int .u8)) aD)) 3 (.Z 6)),(.nl 4 .bool),(.nl 3 tI)]) <|
  .bPX (.bQ0 3 tI) (.p1 aB (.bPW (.slice 5 (.int .u8)) aD) (.Z 2)) <|
  .bPX (.cmp .leq .i64) (.bPY tI tI (.p1 tI (.bPW (.slice 5 (.int .u8)) (.bPW tI (.bPW tI (.bPW cA aB)))) (.Z 7)) (.Z 8)) <|
  .ite (.Z 9) (
   .call 4 (.bPY (.bPW (.slice 5 (.int .u8)) aD) tI (bP (.bPW (.slice 5 (.int .u8)) aD) [(aH (.bPW tI (.bPW (.slice 5 (.int .u8)) (.bPW tI (.bPW tI (.bPW cA aB))))) 1 (.Z 7)),(aH (.bPW tI (.bPW (.slice 5 (.int .u8)) (.bPW tI (.bPW tI (.bPW cA aB))))) 2 (.Z 7)),(aH (.bPW tI (.bPW (.slice 5 (.int .u8)) (.bPW tI (.bPW tI (.bPW cA aB))))) 3 (.Z 7))]) (.ci .i64 3)) <|
   .bPX (.lit 4 .bool 1) (.p1 .bool (.bPW (.slice 5 (.int .u8)) aD) (.Z 10)) <|
   .bPX (.bQ3 4 .bool 1) (.bPY cA cA (aH (.bPW tI (.bPW (.slice 5 (.int .u8)) (.bPW tI (.bPW tI (.bPW cA aB))))) 4 (.Z 7)) (.Z 11)) <|
   .bPX (.cmp .gtr .i64) (.bPY tI tI (.p1 tI (.bPW (.slice 5 (.int .u8)) (.bPW tI (.bPW tI (.bPW cA aB)))) (.Z 7)) (.ci .i64 0)) <|
   .ite (.Z 13) (
    .call 2 (.bPY (.bPW (.slice 5 (.int .u8)) aD) tI (aS (.bPW .bool (.bPW (.slice 5 (.int .u8)) aD)) 1 (.Z 10)) (.ci .i64 3)) <|
    .bPX (.ar .add .i64) (.bPY tI tI (.ci .i64 1) (.p1 tI (.bPW (.slice 5 (.int .u8)) aD) (.Z 14))) <|
    .bPX (.lit 3 tI 1) (.Z 15) <|
    .bPX (.bQ3 3 tI 8) (.bPY aB aB (aS (.bPW tI (.bPW (.slice 5 (.int .u8)) (.bPW tI (.bPW tI (.bPW cA aB))))) 5 (.Z 7)) (.Z 16)) <|
    .bPX (.ar .add .i64) (.bPY tI tI (.p1 tI (.bPW (.slice 5 (.int .u8)) (.bPW tI (.bPW tI (.bPW cA aB)))) (.Z 7)) (.ci .i64 1)) <|
    .bPZ 0 (bP (.bPW tI (.bPW (.slice 5 (.int .u8)) (.bPW tI (.bPW tI (.bPW cA aB))))) [(.Z 18),(aH (.bPW tI (.bPW (.slice 5 (.int .u8)) aD)) 1 (.Z 14)),(aH (.bPW tI (.bPW (.slice 5 (.int .u8)) aD)) 2 (.Z 14)),(aS (.bPW tI (.bPW (.slice 5 (.int .u8)) aD)) 3 (.Z 14)),(.Z 12),(.Z 17)])) (
    .bPX (.ar .add .i64) (.bPY tI tI (.p1 tI (.bPW (.slice 5 (.int .u8)) (.bPW tI (.bPW tI (.bPW cA aB)))) (.Z 7)) (.ci .i64 1)) <|
    .bPZ 0 (bP (.bPW tI (.bPW (.slice 5 (.int .u8)) (.bPW tI (.bPW tI (.bPW cA aB))))) [(.Z 14),(aH (.bPW .bool (.bPW (.slice 5 (.int .u8)) aD)) 1 (.Z 10)),(aH (.bPW .bool (.bPW (.slice 5 (.int .u8)) aD)) 2 (.Z 10)),(aS (.bPW .bool (.bPW (.slice 5 (.int .u8)) aD)) 3 (.Z 10)),(.Z 12),(aS (.bPW tI (.bPW (.slice 5 (.int .u8)) (.bPW tI (.bPW tI (.bPW cA aB))))) 5 (.Z 7))]))) (
   .loop (.bPW tI (.bPW (.slice 5 (.int .u8)) (.bPW tI aI))) (bP (.bPW tI (.bPW (.slice 5 (.int .u8)) (.bPW tI aI))) [(.ci .i64 0),(aH (.bPW tI (.bPW (.slice 5 (.int .u8)) (.bPW tI (.bPW tI (.bPW cA aB))))) 1 (.Z 7)),(aH (.bPW tI (.bPW (.slice 5 (.int .u8)) (.bPW tI (.bPW tI (.bPW cA aB))))) 2 (.Z 7)),(aH (.bPW tI (.bPW (.slice 5 (.int .u8)) (.bPW tI (.bPW tI (.bPW cA aB))))) 3 (.Z 7)),(.nl 3 tI)]) <|
    .bPX (.bQ0 3 tI) (.p1 aB (.bPW (.slice 5 (.int .u8)) aD) (.Z 2)) <|
    .bPX (.cmp .leq .i64) (.bPY tI tI (.p1 tI (.bPW (.slice 5 (.int .u8)) (.bPW tI aI)) (.Z 10)) (.Z 11)) <|
    .ite (.Z 12) (
     .bPX (.bQ0 108 aQ) (.p1 aF (.bPW (.slice 5 (.int .u8)) aD) (.Z 6)) <|
     .call 5 (bP (.bPW aC aD) [(bP aC [(.p1 aE (.bPW (.slice 5 (.int .u8)) aD) (.Z 1)),(.p1 aB (.bPW (.slice 5 (.int .u8)) aD) (.Z 2)),(.Z 4),(aH (.bPW tI (.bPW (.slice 5 (.int .u8)) (.bPW tI (.bPW tI (.bPW cA aB))))) 4 (.Z 7)),(aS (.bPW tI (.bPW (.slice 5 (.int .u8)) (.bPW tI (.bPW tI (.bPW cA aB))))) 5 (.Z 7)),(aS (.bPW tI (.bPW (.slice 5 (.int .u8)) (.bPW tI aI))) 4 (.Z 10))]),(.p1 tI (.bPW (.slice 5 (.int .u8)) (.bPW tI aI)) (.Z 10)),(.Z 13)]) <|
     .bPX (.lit 3 tI 3) (bP (.bPW tI aD) [(.ci .i64 0),(.ci .i64 0),(.ci .i64 7)]) <|
     .call 6 (.bPY (.bPW (.slice 5 (.int .u8)) aD) aB (bP (.bPW (.slice 5 (.int .u8)) aD) [(aH (.bPW tI (.bPW (.slice 5 (.int .u8)) (.bPW tI aI))) 1 (.Z 10)),(aH (.bPW tI (.bPW (.slice 5 (.int .u8)) (.bPW tI aI))) 2 (.Z 10)),(aH (.bPW tI (.bPW (.slice 5 (.int .u8)) (.bPW tI aI))) 3 (.Z 10))]) (.Z 15)) <|
     .bPX (.ar .add .i64) (.bPY tI tI (.Z 14) (.p1 tI (.bPW (.slice 5 (.int .u8)) aD) (.Z 16))) <|
     .bPX (.lit 3 tI 1) (.Z 17) <|
     .bPX (.bQ3 3 tI 8) (.bPY aB aB (aS (.bPW tI (.bPW (.slice 5 (.int .u8)) (.bPW tI aI))) 4 (.Z 10)) (.Z 18)) <|
     .bPX (.ar .add .i64) (.bPY tI tI (.p1 tI (.bPW (.slice 5 (.int .u8)) (.bPW tI aI)) (.Z 10)) (.ci .i64 1)) <|
     .bPZ 0 (bP (.bPW tI (.bPW (.slice 5 (.int .u8)) (.bPW tI aI))) [(.Z 20),(aH (.bPW tI (.bPW (.slice 5 (.int .u8)) aD)) 1 (.Z 16)),(aH (.bPW tI (.bPW (.slice 5 (.int .u8)) aD)) 2 (.Z 16)),(aS (.bPW tI (.bPW (.slice 5 (.int .u8)) aD)) 3 (.Z 16)),(.Z 19)])) (
     .ret (bP (.bPW aC (.bPW aF (.bPW (.slice 5 (.int .u8)) aD))) [(bP aC [(.p1 aE (.bPW (.slice 5 (.int .u8)) aD) (.Z 1)),(.p1 aB (.bPW (.slice 5 (.int .u8)) aD) (.Z 2)),(.Z 4),(aH (.bPW tI (.bPW (.slice 5 (.int .u8)) (.bPW tI (.bPW tI (.bPW cA aB))))) 4 (.Z 7)),(aS (.bPW tI (.bPW (.slice 5 (.int .u8)) (.bPW tI (.bPW tI (.bPW cA aB))))) 5 (.Z 7)),(aS (.bPW tI (.bPW (.slice 5 (.int .u8)) (.bPW tI aI))) 4 (.Z 10))]),(.p1 aF (.bPW (.slice 5 (.int .u8)) aD) (.Z 6)),(aH (.bPW tI (.bPW (.slice 5 (.int .u8)) (.bPW tI aI))) 1 (.Z 10)),(aH (.bPW tI (.bPW (.slice 5 (.int .u8)) (.bPW tI aI))) 2 (.Z 10)),(aH (.bPW tI (.bPW (.slice 5 (.int .u8)) (.bPW tI aI))) 3 (.Z 10))])))
theorem aNG (f:(aN)→(bB × (bL × aN))):bW Tryz.prog [lJ,xV,bN,lV,iV,fB,cM] { vE with fn:=f } false 3000 ⟨[(2987,1007,jV 21 16++[.dr 14,.dr 13,.dr 11,.dr 15,.dr 12,.dr 4,.dr 10,.dr 9,.tm 7 0,.bx 1 0,.bx 1 1,.bx 1 2,.sl 18,.sl 19]),(2977,2010,jV 26 22++[.dr 7,.tm 8 0,.bx 1 0,.bx 1 1,.bx 1 2,.sl 20])],[(2994,1002,[],[8]),(2969,6013,[61],[])]⟩ = .ok vJ:=by kernel_rfl
theorem aO7 (x:aN) (hx:okD (.bPW (.slice 5 (.int .u8)) aD) x) (hp:(fun x=>0≤x.2.1) x):vJ.wp [lJ,xV,bN,lV,iV,fB,cM] [⟨(.bPW (.slice 5 (.int .u8)) aD),x⟩] [] (fun v=>(fun x r=>(uD 6 3 4 r.1 r.2.1∧cE r.1 r.2.1=0)∧1≤r.1.2.2.2.1.length∧1≤r.1.2.2.2.2.2.length∧(∀ v∈r.1.2.2.2.2.2,0≤v∧v≤400)∧0≤r.2.2.2.1:(aN)→(bB × (bL × aN))→Prop) x (v.as (.bPW aC (.bPW aF (.bPW (.slice 5 (.int .u8)) aD))))):=by
 have q1:=aI2 x hx hp
 delta vJ lJ xV bN lV iV fB cM;refine dY ?_
 refine eD ?_
 refine ⟨hp,fun _=>?_⟩
 generalize nP x=r at q1 ⊢;obtain ⟨m,c1⟩:=r;obtain ⟨k1,u1⟩:=q1;have km:=k1.1;replace k1:okD mM c1:=k1.2;dsimp only at u1 ⊢
 change List cZ at m
 have hl6:List.length m≤6:=u1.2.1
 have hP:∀ o∈m,List.length o.2.2.2≤40:=fun o ho=>by have:=bAX (u1.2.2.1 o ho);omega
 refine ⟨⟨u1.2.2.2,by omega⟩,fun _=>?_⟩
 have q2:=bAA (c1,m) ⟨k1,km⟩ ⟨u1.2.2.2,by show List.length m≤9;omega⟩
 generalize sZ (c1,m)=r at q2 ⊢;obtain ⟨cuts,c2⟩:=r;obtain ⟨k2,u2⟩:=q2;replace k2:okD mM c2:=k2.2;dsimp only at u2 ⊢
 change List Int at cuts
 have hc3:List.length cuts≤3:=u2.1.1
 have hmB:bO m=true:=u1.1.2
 have hcB:iL m cuts=true:=(rO m cuts).2 ⟨hmB,u2.1.2⟩
 refine ⟨u2.2,fun _=>?_⟩
 have q3:=cK (c2,2) ⟨k2,okI (by omega) (by omega)⟩ u2.2
 generalize cF (c2,2)=r at q3 ⊢;obtain ⟨d,c3⟩:=r;obtain ⟨k3,u3⟩:=q3;replace k3:okD mM c3:=k3.2;dsimp only at u3 ⊢
 have hd:0≤d∧d<2:=⟨u3.1,u3.2.1 (by decide)⟩
 refine ⟨by omega,fun _=>⟨u3.2.2.2,fun _=>?_⟩⟩
 have q4:=aIA (c3,m) ⟨k3,km⟩ u3.2.2.2
 generalize nN (c3,m)=r at q4 ⊢;obtain ⟨b,c4⟩:=r;obtain ⟨k4,u4⟩:=q4;replace k4:okD mM c4:=k4.2;dsimp only at u4 ⊢
 change List cB at b
 have hb4:List.length b≤4:=u4.2.1
 have hbv:∀ p∈b,List.length p.1≤7∧List.length p.2≤7:=fun p hp=>by have:=u4.2.2.1 p hp;omega
 have hc4:=u4.2.2.2
 have hbB:eK m b=true:=u4.1.2 hmB
 clear u4 u3 u2 u1
 refine ⟨fun s=>@LE.le Int _ 0 s.1∧@LE.le Int _ s.1 ((List.length cuts:Int)+1)∧((List.length s.2.2.2.2.1:Nat):Int)=s.1∧(((List.length s.2.2.2.2.2:Nat):Int)=max 0 (s.1 - 1:Int)∧∀ v∈s.2.2.2.2.2,@LE.le Int _ 1 v∧@LE.le Int _ v 5)∧@LE.le Int _ 0 s.2.2.1,fun s=>(20 - s.1:Int).toNat,⟨Int.le_refl _,by show (0:Int)≤_;omega,rfl,⟨rfl,fun v hv=>by cases hv⟩,hc4⟩,fun s hs hI=>?_⟩
 obtain ⟨s,bf,i,h,rd,cp⟩:=s
 obtain ⟨e1,e2,e3,⟨e4,e6⟩,e5⟩:=hI
 change Int at s
 change List Bool at rd
 change List Int at cp
 change (0:Int)≤s at e1
 change s≤(List.length cuts:Int)+1 at e2
 change ((List.length rd:Nat):Int)=s at e3
 change ((List.length cp:Nat):Int)=max 0 (s - 1) at e4
 change ∀ v∈cp,1≤v∧v≤5 at e6
 change 0≤(i:Int) at e5
 have kq:okD mM (bf,i,h):=⟨hs.2.1,hs.2.2.1,hs.2.2.2.1⟩
 try dsimp only
 refine fun _=>⟨fun hlt=>?_,fun hge=>?_⟩
 ·have q5:=aE9 ((bf,i,h),3) ⟨kq,okI (by omega) (by omega)⟩ e5
  refine ⟨e5,fun _=>?_⟩
  generalize nB ((bf,i,h),3)=r at q5 ⊢;obtain ⟨b5,c5⟩:=r;obtain ⟨k5,u5⟩:=q5;replace k5:okD mM c5:=k5.2;dsimp only at u5 ⊢
  have q6:=cK (c5,3) ⟨k5,okI (by omega) (by omega)⟩ u5
  generalize cF (c5,3)=r at q6 ⊢;obtain ⟨n6,c6⟩:=r;obtain ⟨k6,u6⟩:=q6;dsimp only at u6 ⊢
  have hn6:0≤n6∧n6<3:=⟨u6.1,u6.2.1 (by decide)⟩
  have hc6:=u6.2.2.2
  clear u6
  have e7:∀ v∈cp++[1+n6],1≤v∧v≤5:=fun v hv=>by
   rcases List.mem_append.1 hv with hv|hv
   ·exact e6 v hv
   ·rw[List.mem_singleton] at hv;omega
  simp only[uP,List.length_append,List.length_cons,List.length_nil]
  (repeat' first|intro _|(with_reducible apply And.intro))
  all_goals first|omega|(unfold maxLen;omega)|exact u5|exact hc6|exact (e6 _ (by assumption)).1|exact (e6 _ (by assumption)).2|exact (e7 _ (by assumption)).1|exact (e7 _ (by assumption)).2|skip
 have hrd:List.length rd=List.length cuts+1:=by omega
 have hcp:List.length cp=List.length cuts:=by omega
 refine ⟨fun t=>@LE.le Int _ 0 t.1∧@LE.le Int _ t.1 ((List.length cuts:Int)+1)∧((List.length t.2.2.2.2:Nat):Int)=t.1∧((∀ v∈t.2.2.2.2,@LE.le Int _ 0 v∧@LE.le Int _ v 400)∧liB (m,cuts,1+d,rd,cp,[]) (List.length b:Int) t.2.2.2.2)∧@LE.le Int _ 0 t.2.2.1,fun t=>(20 - t.1:Int).toNat,⟨Int.le_refl _,by show (0:Int)≤_;omega,rfl,⟨fun v hv=>(by cases hv),fun k hk=>absurd hk (Nat.not_lt_zero _)⟩,e5⟩,fun t ht hJ=>?_⟩
 obtain ⟨t,bf,i,h,lm⟩:=t
 obtain ⟨g1,g2,g3,⟨g4,g8⟩,g5⟩:=hJ
 change Int at t
 change List Int at lm
 change (0:Int)≤t at g1
 change t≤(List.length cuts:Int)+1 at g2
 change ((List.length lm:Nat):Int)=t at g3
 change ∀ v∈lm,0≤v∧v≤400 at g4
 change liB (m,cuts,1+d,rd,cp,[]) (List.length b:Int) lm at g8
 change 0≤(i:Int) at g5
 have kq':okD mM (bf,i,h):=⟨ht.2.1,ht.2.2.1,ht.2.2.2.1⟩
 try dsimp only
 refine fun _=>⟨fun hlt=>?_,fun hge=>?_⟩
 ·refine fun _=>⟨⟨⟨by show List.length m≤_;omega,fun o ho=>by have:=hP o ho;omega⟩,by show List.length cuts≤_;omega,by show List.length rd≤_;omega,by show List.length cp≤_;omega,by show List.length lm≤_;omega⟩,fun _ hlit=>⟨⟨g5,by simp⟩,fun _=>?_⟩⟩
  have q7:=kH ((bf,i,h),[0,0,7]) ⟨kq',hlit⟩ ⟨g5,by simp⟩
  generalize gY ((bf,i,h),[0,0,7])=r at q7 ⊢;obtain ⟨n7,c7⟩:=r;obtain ⟨k7,u7⟩:=q7;dsimp only at u7 ⊢
  have hc7:=u7.2
  have hn7:0≤n7∧n7≤7:=by
   have:=u7.1
   simp only[List.mem_cons,List.not_mem_nil,or_false] at this
   omega
  have pb:=bNZ (m,cuts,1+d,rd,cp,lm) t (b.length:Int)
  have g9:liB (m,cuts,1+d,rd,cp,[]) (List.length b:Int) (lm++[jD (m,cuts,1+d,rd,cp,lm) t (b.length:Int)+n7]):=bI2 g8 (by rw[g3];show jD (m,cuts,1+d,rd,cp,lm) t (b.length:Int)≤_;omega) (by omega)
  generalize jD (m,cuts,1+d,rd,cp,lm) t (b.length:Int)=pk at pb g9 ⊢
  clear u7
  have g6:∀ v∈lm++[pk+n7],0≤v∧v≤400:=fun v hv=>by
   rcases List.mem_append.1 hv with hv|hv
   ·exact g4 v hv
   ·rw[List.mem_singleton] at hv;omega
  simp only[uP,List.length_append,List.length_cons,List.length_nil]
  (repeat' first|intro _|(with_reducible apply And.intro))
  all_goals first|omega|(unfold maxLen;omega)|exact hc7|exact (g6 _ (by assumption)).1|exact (g6 _ (by assumption)).2|exact g9|exact (g9 _ (by assumption)).1|exact (g9 _ (by assumption)).2|skip
 ·exact ⟨⟨⟨by show List.length m≤6;omega,hP,hc3,by show List.length rd≤4;omega,by show List.length cp≤3;omega,by show List.length lm≤4;omega,hb4,hbv⟩,bHY hmB hbB hcB hc3 (by omega) hrd hcp e6 (by omega) g8⟩,by show 1≤List.length rd;omega,by show 1≤List.length lm;omega,g4,g5⟩
theorem wD:∃ f:(aN)→(bB × (bL × aN)),(∀ x,okD (.bPW (.slice 5 (.int .u8)) aD) x→(fun x=>0≤x.2.1) x→(fun x r=>(uD 6 3 4 r.1 r.2.1∧cE r.1 r.2.1=0)∧1≤r.1.2.2.2.1.length∧1≤r.1.2.2.2.2.2.length∧(∀ v∈r.1.2.2.2.2.2,0≤v∧v≤400)∧0≤r.2.2.2.1:(aN)→(bB × (bL × aN))→Prop) x (f x))∧Con.Holds Tryz.prog { vE with fn:=f }:=iX (C:=vE) aZ (aG aBJ (aG aKS (aG eV (aG zW (aG yR (aG yU (aG jA aT))))))) aNG (fun x r=>(uD 6 3 4 r.1 r.2.1∧cE r.1 r.2.1=0)∧1≤r.1.2.2.2.1.length∧1≤r.1.2.2.2.2.2.length∧(∀ v∈r.1.2.2.2.2.2,0≤v∧v≤400)∧0≤r.2.2.2.1:(aN)→(bB × (bL × aN))→Prop) aO7
def mQ:(aN)→(bB × (bL × aN)):=Classical.choose wD
def pP:Con:=⟨45,(.bPW (.slice 5 (.int .u8)) aD),(.bPW aC (.bPW aF (.bPW (.slice 5 (.int .u8)) aD))),[.box 91 ⟨true,(.bPW (.slice 5 (.int .u8)) aD),[]⟩],[⟨true,aC,[1,2,0,2,2,2]⟩,⟨false,aF,[1]⟩],false,none,
 ((fun x=>0≤x.2.1):(aN)→Prop),
 ((mQ):(aN)→(bB × (bL × aN)))⟩
theorem aNE:∀ x,okD (.bPW (.slice 5 (.int .u8)) aD) x→(fun x=>0≤x.2.1) x→(fun x r=>(uD 6 3 4 r.1 r.2.1∧cE r.1 r.2.1=0)∧1≤r.1.2.2.2.1.length∧1≤r.1.2.2.2.2.2.length∧(∀ v∈r.1.2.2.2.2.2,0≤v∧v≤400)∧0≤r.2.2.2.1:(aN)→(bB × (bL × aN))→Prop) x (mQ x):=(Classical.choose_spec wD).1
theorem aCZ:Con.Holds Tryz.prog pP:=(Classical.choose_spec wD).2
theorem aNA (x:aN) (hx:okD (.bPW (.slice 5 (.int .u8)) aD) x) (hp:(fun x=>0≤x.2.1) x):okD (.bPW aC (.bPW aF (.bPW (.slice 5 (.int .u8)) aD))) (mQ x)∧(fun x r=>(uD 6 3 4 r.1 r.2.1∧cE r.1 r.2.1=0)∧1≤r.1.2.2.2.1.length∧1≤r.1.2.2.2.2.2.length∧(∀ v∈r.1.2.2.2.2.2,0≤v∧v≤400)∧0≤r.2.2.2.1:(aN)→(bB × (bL × aN))→Prop) x (mQ x):=⟨aCZ.ok x hp hx,aNE x hx hp⟩
def aEH:Con:=⟨22,(.bPW (.slice 5 (.int .u8)) aD),(.bPW aC (.bPW aF (.bPW (.slice 5 (.int .u8)) aD))),[.box 91 ⟨true,(.bPW (.slice 5 (.int .u8)) aD),[]⟩],[⟨true,aC,[0,0,0,0,0,0]⟩,⟨false,aF,[0]⟩],false,none,
 ((fun x=>0≤x.2.1):(aN)→Prop),
 ((fun _=>aP (.bPW aC (.bPW aF (.bPW (.slice 5 (.int .u8)) aD)))):(aN)→(bB × (bL × aN)))⟩
def aEJ:T:=.call 0 (.Z 0) <|.call 1 (.bPY (.bPW (.slice 5 (.int .u8)) aD) tI (aS (.bPW aC (.bPW aF (.bPW (.slice 5 (.int .u8)) aD))) 2 (.Z 1)) (.ci .i64 16)) <|
 .bPX (.cmp .eql .i64) (.bPY tI tI (.p1 tI (.bPW (.slice 5 (.int .u8)) aD) (.Z 2)) (.ci .i64 0)) <|
 .ite (.Z 3) (
  .call 2 (aS (.bPW tI (.bPW (.slice 5 (.int .u8)) aD)) 1 (.Z 2)) <|
  .ret (bP (.bPW aC (.bPW aF (.bPW (.slice 5 (.int .u8)) aD))) [(.bPY aE (.bPW aB (.bPW tI (.bPW cA aQ))) (.p1 aE (.bPW (.slice 5 (.int .u8)) aD) (.Z 4)) (aS aC 1 (.p1 aC (.bPW aF (.bPW (.slice 5 (.int .u8)) aD)) (.Z 1)))),(aH (.bPW aC (.bPW aF (.bPW (.slice 5 (.int .u8)) aD))) 1 (.Z 1)),(aS (.bPW aE (.bPW (.slice 5 (.int .u8)) aD)) 1 (.Z 4))])) (
  .bPX (.cmp .eql .i64) (.bPY tI tI (.p1 tI (.bPW (.slice 5 (.int .u8)) aD) (.Z 2)) (.ci .i64 1)) <|
  .ite (.Z 4) (
   .call 1 (.bPY (.bPW (.slice 5 (.int .u8)) aD) tI (aS (.bPW tI (.bPW (.slice 5 (.int .u8)) aD)) 1 (.Z 2)) (.ci .i64 8)) <|
   .bPX (.lit 3 tI 1) (.p1 tI (.bPW (.slice 5 (.int .u8)) aD) (.Z 5)) <|
   .bPX (.bQ3 3 tI 8) (.bPY aB aB (aH aC 1 (.p1 aC (.bPW aF (.bPW (.slice 5 (.int .u8)) aD)) (.Z 1))) (.Z 6)) <|
   .ret (bP (.bPW aC (.bPW aF (.bPW (.slice 5 (.int .u8)) aD))) [(bP aC [(.p1 aE (.bPW aB (.bPW tI (.bPW cA aQ))) (.p1 aC (.bPW aF (.bPW (.slice 5 (.int .u8)) aD)) (.Z 1))),(.Z 7),(aS aC 2 (.p1 aC (.bPW aF (.bPW (.slice 5 (.int .u8)) aD)) (.Z 1)))]),(aH (.bPW aC (.bPW aF (.bPW (.slice 5 (.int .u8)) aD))) 1 (.Z 1)),(aS (.bPW tI (.bPW (.slice 5 (.int .u8)) aD)) 1 (.Z 5))])) (
   .bPX (.cmp .eql .i64) (.bPY tI tI (.p1 tI (.bPW (.slice 5 (.int .u8)) aD) (.Z 2)) (.ci .i64 2)) <|
   .ite (.Z 5) (
    .bPX (.lit 3 tI 2) (.bPY tI tI (.ci .i64 0) (.ci .i64 3)) <|
    .call 3 (.bPY (.bPW (.slice 5 (.int .u8)) aD) aB (aS (.bPW tI (.bPW (.slice 5 (.int .u8)) aD)) 1 (.Z 2)) (.Z 6)) <|
    .ret (bP (.bPW aC (.bPW aF (.bPW (.slice 5 (.int .u8)) aD))) [(bP aC [(.p1 aE (.bPW aB (.bPW tI (.bPW cA aQ))) (.p1 aC (.bPW aF (.bPW (.slice 5 (.int .u8)) aD)) (.Z 1))),(aH aC 1 (.p1 aC (.bPW aF (.bPW (.slice 5 (.int .u8)) aD)) (.Z 1))),(.p1 tI (.bPW (.slice 5 (.int .u8)) aD) (.Z 7)),(aS aC 3 (.p1 aC (.bPW aF (.bPW (.slice 5 (.int .u8)) aD)) (.Z 1)))]),(aH (.bPW aC (.bPW aF (.bPW (.slice 5 (.int .u8)) aD))) 1 (.Z 1)),(aS (.bPW tI (.bPW (.slice 5 (.int .u8)) aD)) 1 (.Z 7))])) (
    .bPX (.cmp .eql .i64) (.bPY tI tI (.p1 tI (.bPW (.slice 5 (.int .u8)) aD) (.Z 2)) (.ci .i64 3)) <|
    .ite (.Z 6) (
     .bPX (.bQ0 4 .bool) (aH aC 3 (.p1 aC (.bPW aF (.bPW (.slice 5 (.int .u8)) aD)) (.Z 1))) <|
     .bPX (.ar .sub .i64) (.bPY tI tI (.Z 7) (.ci .i64 1)) <|
     .bPX (.bQ2 4 .bool) (bP (.bPW cA aD) [(aH aC 3 (.p1 aC (.bPW aF (.bPW (.slice 5 (.int .u8)) aD)) (.Z 1))),(.ci .i64 0),(.Z 8)]) <|
     .ret (bP (.bPW aC (.bPW aF (.bPW (.slice 5 (.int .u8)) aD))) [(bP aC [(.p1 aE (.bPW aB (.bPW tI (.bPW cA aQ))) (.p1 aC (.bPW aF (.bPW (.slice 5 (.int .u8)) aD)) (.Z 1))),(aH aC 1 (.p1 aC (.bPW aF (.bPW (.slice 5 (.int .u8)) aD)) (.Z 1))),(aH aC 2 (.p1 aC (.bPW aF (.bPW (.slice 5 (.int .u8)) aD)) (.Z 1))),(.Z 9),(aS aC 4 (.p1 aC (.bPW aF (.bPW (.slice 5 (.int .u8)) aD)) (.Z 1)))]),(aH (.bPW aC (.bPW aF (.bPW (.slice 5 (.int .u8)) aD))) 1 (.Z 1)),(aS (.bPW tI (.bPW (.slice 5 (.int .u8)) aD)) 1 (.Z 2))])) (
     .bPX (.cmp .eql .i64) (.bPY tI tI (.p1 tI (.bPW (.slice 5 (.int .u8)) aD) (.Z 2)) (.ci .i64 4)) <|
     .ite (.Z 7) (
      .bPX (.bQ0 3 tI) (aH aC 4 (.p1 aC (.bPW aF (.bPW (.slice 5 (.int .u8)) aD)) (.Z 1))) <|
      .bPX (.cmp .gtr .i64) (.bPY tI tI (.Z 8) (.ci .i64 0)) <|
      .ite (.Z 9) (
       .bPX (.lit 3 tI 3) (bP (.bPW tI aD) [(.ci .i64 0),(.ci .i64 5),(.ci .i64 6)]) <|
       .call 3 (.bPY (.bPW (.slice 5 (.int .u8)) aD) aB (aS (.bPW tI (.bPW (.slice 5 (.int .u8)) aD)) 1 (.Z 2)) (.Z 10)) <|
       .bPX (.bQ1 3 tI) (.bPY aB tI (aH aC 4 (.p1 aC (.bPW aF (.bPW (.slice 5 (.int .u8)) aD)) (.Z 1))) (.ci .i64 0)) <|
       .bPX (.bQ4 3 tI) (bP (.bPW aB aD) [(aH aC 4 (.p1 aC (.bPW aF (.bPW (.slice 5 (.int .u8)) aD)) (.Z 1))),(.ci .i64 0),(.p1 tI (.bPW (.slice 5 (.int .u8)) aD) (.Z 11))]) <|
       .ret (bP (.bPW aC (.bPW aF (.bPW (.slice 5 (.int .u8)) aD))) [(bP aC [(.p1 aE (.bPW aB (.bPW tI (.bPW cA aQ))) (.p1 aC (.bPW aF (.bPW (.slice 5 (.int .u8)) aD)) (.Z 1))),(aH aC 1 (.p1 aC (.bPW aF (.bPW (.slice 5 (.int .u8)) aD)) (.Z 1))),(aH aC 2 (.p1 aC (.bPW aF (.bPW (.slice 5 (.int .u8)) aD)) (.Z 1))),(aH aC 3 (.p1 aC (.bPW aF (.bPW (.slice 5 (.int .u8)) aD)) (.Z 1))),(.Z 13),(aS aC 5 (.p1 aC (.bPW aF (.bPW (.slice 5 (.int .u8)) aD)) (.Z 1)))]),(aH (.bPW aC (.bPW aF (.bPW (.slice 5 (.int .u8)) aD))) 1 (.Z 1)),(aS (.bPW tI (.bPW (.slice 5 (.int .u8)) aD)) 1 (.Z 11))])) (
       .ret (bP (.bPW aC (.bPW aF (.bPW (.slice 5 (.int .u8)) aD))) [(.p1 aC (.bPW aF (.bPW (.slice 5 (.int .u8)) aD)) (.Z 1)),(aH (.bPW aC (.bPW aF (.bPW (.slice 5 (.int .u8)) aD))) 1 (.Z 1)),(aS (.bPW tI (.bPW (.slice 5 (.int .u8)) aD)) 1 (.Z 2))]))) (
      .bPX (.cmp .eql .i64) (.bPY tI tI (.p1 tI (.bPW (.slice 5 (.int .u8)) aD) (.Z 2)) (.ci .i64 5)) <|
      .ite (.Z 8) (
       .bPX (.bQ1 3 tI) (.bPY aB tI (aS aC 5 (.p1 aC (.bPW aF (.bPW (.slice 5 (.int .u8)) aD)) (.Z 1))) (.ci .i64 0)) <|
       .bPX (.bQ1 3 tI) (.bPY aB tI (aS aC 5 (.p1 aC (.bPW aF (.bPW (.slice 5 (.int .u8)) aD)) (.Z 1))) (.ci .i64 0)) <|
       .bPX (.ar .sub .i64) (.bPY tI tI (.Z 10) (.ci .i64 1)) <|
       .bPX (.lit 3 tI 4) (bP (.bPW tI (.bPW tI aD)) [(.Z 11),(.ci .i64 100000),(.ci .i64 100001),(.ci .i64 0)]) <|
       .call 3 (.bPY (.bPW (.slice 5 (.int .u8)) aD) aB (aS (.bPW tI (.bPW (.slice 5 (.int .u8)) aD)) 1 (.Z 2)) (.Z 12)) <|
       .bPX (.bQ1 3 tI) (.bPY aB tI (aS aC 5 (.p1 aC (.bPW aF (.bPW (.slice 5 (.int .u8)) aD)) (.Z 1))) (.ci .i64 0)) <|
       .bPX (.bQ4 3 tI) (bP (.bPW aB aD) [(aS aC 5 (.p1 aC (.bPW aF (.bPW (.slice 5 (.int .u8)) aD)) (.Z 1))),(.ci .i64 0),(.p1 tI (.bPW (.slice 5 (.int .u8)) aD) (.Z 13))]) <|
       .ret (bP (.bPW aC (.bPW aF (.bPW (.slice 5 (.int .u8)) aD))) [(bP aC [(.p1 aE (.bPW aB (.bPW tI (.bPW cA aQ))) (.p1 aC (.bPW aF (.bPW (.slice 5 (.int .u8)) aD)) (.Z 1))),(aH aC 1 (.p1 aC (.bPW aF (.bPW (.slice 5 (.int .u8)) aD)) (.Z 1))),(aH aC 2 (.p1 aC (.bPW aF (.bPW (.slice 5 (.int .u8)) aD)) (.Z 1))),(aH aC 3 (.p1 aC (.bPW aF (.bPW (.slice 5 (.int .u8)) aD)) (.Z 1))),(aH aC 4 (.p1 aC (.bPW aF (.bPW (.slice 5 (.int .u8)) aD)) (.Z 1))),(.Z 15)]),(aH (.bPW aC (.bPW aF (.bPW (.slice 5 (.int .u8)) aD))) 1 (.Z 1)),(aS (.bPW tI (.bPW (.slice 5 (.int .u8)) aD)) 1 (.Z 13))])) (
       .bPX (.cmp .eql .i64) (.bPY tI tI (.p1 tI (.bPW (.slice 5 (.int .u8)) aD) (.Z 2)) (.ci .i64 6)) <|
       .ite (.Z 9) (
        .call 4 (.bPY (.bPW (.slice 5 (.int .u8)) aD) aE (aS (.bPW tI (.bPW (.slice 5 (.int .u8)) aD)) 1 (.Z 2)) (.p1 aE (.bPW aB (.bPW tI (.bPW cA aQ))) (.p1 aC (.bPW aF (.bPW (.slice 5 (.int .u8)) aD)) (.Z 1)))) <|
        .ret (.bPY aC (.bPW aF (.bPW (.slice 5 (.int .u8)) aD)) (.p1 aC (.bPW aF (.bPW (.slice 5 (.int .u8)) aD)) (.Z 1)) (.Z 10))) (
        .bPX (.cmp .eql .i64) (.bPY tI tI (.p1 tI (.bPW (.slice 5 (.int .u8)) aD) (.Z 2)) (.ci .i64 7)) <|
        .ite (.Z 10) (
         .bPX (.bQ0 3 tI) (aS aC 5 (.p1 aC (.bPW aF (.bPW (.slice 5 (.int .u8)) aD)) (.Z 1))) <|
         .bPX (.bQ2 3 tI) (bP (.bPW aB aD) [(aS aC 5 (.p1 aC (.bPW aF (.bPW (.slice 5 (.int .u8)) aD)) (.Z 1))),(.ci .i64 1),(.Z 11)]) <|
         .ret (bP (.bPW aC (.bPW aF (.bPW (.slice 5 (.int .u8)) aD))) [(bP aC [(.p1 aE (.bPW aB (.bPW tI (.bPW cA aQ))) (.p1 aC (.bPW aF (.bPW (.slice 5 (.int .u8)) aD)) (.Z 1))),(aH aC 1 (.p1 aC (.bPW aF (.bPW (.slice 5 (.int .u8)) aD)) (.Z 1))),(aH aC 2 (.p1 aC (.bPW aF (.bPW (.slice 5 (.int .u8)) aD)) (.Z 1))),(aH aC 3 (.p1 aC (.bPW aF (.bPW (.slice 5 (.int .u8)) aD)) (.Z 1))),(aH aC 4 (.p1 aC (.bPW aF (.bPW (.slice 5 (.int .u8)) aD)) (.Z 1))),(.Z 12)]),(aH (.bPW aC (.bPW aF (.bPW (.slice 5 (.int .u8)) aD))) 1 (.Z 1)),(aS (.bPW tI (.bPW (.slice 5 (.int .u8)) aD)) 1 (.Z 2))])) (
         .ret (bP (.bPW aC (.bPW aF (.bPW (.slice 5 (.int .u8)) aD))) [(.p1 aC (.bPW aF (.bPW (.slice 5 (.int .u8)) aD)) (.Z 1)),(aH (.bPW aC (.bPW aF (.bPW (.slice 5 (.int .u8)) aD))) 1 (.Z 1)),(aS (.bPW tI (.bPW (.slice 5 (.int .u8)) aD)) 1 (.Z 2))])))))))))
theorem aX5 (f:(aN)→(bB × (bL × aN))):bW Tryz.prog [pP,bN,aBR,cM,nR] { aEH with fn:=f } false 3000 ⟨[],[(2982,12006,[30],[]),(2979,24007,[],[10]),(2973,112010,[52],[]),(2973,96009,[65],[]),(2967,384011,[],[12])]⟩ = .ok aEJ:=by kernel_rfl
theorem aX2 (x:aN) (hx:okD (.bPW (.slice 5 (.int .u8)) aD) x) (hp:(fun x=>0≤x.2.1) x):aEJ.wp [pP,bN,aBR,cM,nR] [⟨(.bPW (.slice 5 (.int .u8)) aD),x⟩] [] (fun v=>(fun x r=>uD 9 4 6 r.1 r.2.1:(aN)→(bB × (bL × aN))→Prop) x (v.as (.bPW aC (.bPW aF (.bPW (.slice 5 (.int .u8)) aD))))):=by
 have q1:=aNA x hx hp
 delta aEJ pP bN aBR cM nR;refine dY ?_
 refine eD ?_
 refine ⟨hp,fun _=>?_⟩
 generalize mQ x=r at q1 ⊢;obtain ⟨c,b,c1⟩:=r;obtain ⟨k1,u1⟩:=q1;have kc:=k1.1;replace k1:okD mM c1:=k1.2.2;dsimp only at u1 ⊢
 obtain ⟨m,cuts,d,rd,cp,lm⟩:=c
 obtain ⟨⟨⟨h1,h2,h3,h4,h5,h6,h7,h8⟩,_⟩,w1,w2,w3,w4⟩:=u1
 change List cZ at m
 change List Int at cuts
 change List Bool at rd
 change List Int at cp
 change List Int at lm
 change List cB at b
 dsimp only at *
 have q2:=cK (c1,16) ⟨k1,okI (by omega) (by omega)⟩ w4
 refine ⟨w4,fun _=>?_⟩
 generalize cF (c1,16)=r at q2 ⊢;obtain ⟨n2,c2⟩:=r;obtain ⟨k2,u2⟩:=q2;replace k2:okD mM c2:=k2.2;dsimp only at u2 ⊢
 have hc2:=u2.2.2.2
 have q3:=(bF5 c2 k2 hc2).2
 have q4:=(aLN (c2,m) ⟨k2,kc.1⟩ hc2).2
 generalize wU c2=r3 at q3 ⊢
 generalize kW (c2,m)=r4 at q4 ⊢
 obtain ⟨m3,c3⟩:=r3
 obtain ⟨b4,c4⟩:=r4
 clear u2
 dsimp only at q3 q4
 have hl0:0≤lm.getD 0 (aP tI)∧lm.getD 0 (aP tI)≤400:=by
  cases lm with
  | nil=>exact absurd w2 (by simp)
  | cons v l=>exact w3 v (by simp)
 (repeat' first|intro _|(with_reducible apply And.intro))
 all_goals first|omega|(unfold maxLen;omega)|exact hc2|(rename_i hh;cases hh;done)|skip
 all_goals try (unfold uD;refine ⟨?_,?_,?_,?_,?_,?_,?_,?_⟩ <;> (try dsimp only) <;> first|assumption|omega|exact q3.2.1|exact q4.2.1|(simp only[List.length_append,List.length_set,List.length_take,List.length_drop,List.length_cons,List.length_nil];omega))
theorem aDB:∃ f:(aN)→(bB × (bL × aN)),(∀ x,okD (.bPW (.slice 5 (.int .u8)) aD) x→(fun x=>0≤x.2.1) x→(fun x r=>uD 9 4 6 r.1 r.2.1:(aN)→(bB × (bL × aN))→Prop) x (f x))∧Con.Holds Tryz.prog { aEH with fn:=f }:=iX (C:=aEH) aZ (aG aCZ (aG eV (aG aPW (aG jA (aG aAH aT))))) aX5 (fun x r=>uD 9 4 6 r.1 r.2.1:(aN)→(bB × (bL × aN))→Prop) aX2
def xW:(aN)→(bB × (bL × aN)):=Classical.choose aDB
def nA:Con:=⟨22,(.bPW (.slice 5 (.int .u8)) aD),(.bPW aC (.bPW aF (.bPW (.slice 5 (.int .u8)) aD))),[.box 91 ⟨true,(.bPW (.slice 5 (.int .u8)) aD),[]⟩],[⟨true,aC,[0,0,0,0,0,0]⟩,⟨false,aF,[0]⟩],false,none,
 ((fun x=>0≤x.2.1):(aN)→Prop),
 ((xW):(aN)→(bB × (bL × aN)))⟩
theorem aX6:∀ x,okD (.bPW (.slice 5 (.int .u8)) aD) x→(fun x=>0≤x.2.1) x→(fun x r=>uD 9 4 6 r.1 r.2.1:(aN)→(bB × (bL × aN))→Prop) x (xW x):=(Classical.choose_spec aDB).1
theorem aEP:Con.Holds Tryz.prog nA:=(Classical.choose_spec aDB).2
theorem aK2 (x:aN) (hx:okD (.bPW (.slice 5 (.int .u8)) aD) x) (hp:(fun x=>0≤x.2.1) x):okD (.bPW aC (.bPW aF (.bPW (.slice 5 (.int .u8)) aD))) (xW x)∧(fun x r=>uD 9 4 6 r.1 r.2.1:(aN)→(bB × (bL × aN))→Prop) x (xW x):=⟨aEP.ok x hp hx,aX6 x hx hp⟩
end
end Go.Proofs.YtpafjioccjpmfaaGreat
