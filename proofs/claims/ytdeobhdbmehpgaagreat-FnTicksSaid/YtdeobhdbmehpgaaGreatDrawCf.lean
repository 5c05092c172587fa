/- DrawCf: lemmas. No conditions. -/
import Derived.Test.YtdeobhdbmehpgaaGreatDrawR
import Derived.Test.YtdeobhdbmehpgaaGreatCoreA
namespace Go.Proofs.YtdeobhdbmehpgaaGreat
noncomputable section
set_option maxRecDepth 100000
open Go.ChangeShapes Go.WideShapes Go.ChangeAt Go.RowKit Go.Deep
set_option linter.unusedVariables false
set_option linter.unusedSimpArgs false
def aYJ (n k b:Nat) (c:bZ) (l:dL):Prop:=List.length c.1≤n∧(∀ o∈(c.1:bD),List.length o.2.2.2≤40)∧List.length c.2.1≤k∧List.length c.2.2.2.1≤k+1∧List.length c.2.2.2.2.1≤k∧List.length c.2.2.2.2.2≤k+1 ∧
 List.length l≤b∧∀ p∈(l:List bP),List.length p.1≤7∧List.length p.2≤7
theorem bMC (c:bZ) (s micro:Int):0≤nU c s micro∧nU c s micro≤330:=by
 unfold nU
 split
 ·rename_i h
  obtain ⟨h1,h2,h3,h4⟩:=h
  have hb:=aWS c s
  have hs:s≤(c.2.1.length:Int):=Int.not_lt.1 fun hh=>by rw[aJ4 (.inr (.inr hh))] at h1;exact absurd h1 (Int.lt_irrefl _)
  have q1:=bJC (k:=min micro ((c.2.1.length:Int)+1 - s)) (v:=lE c s) (by omega) (by omega) (by omega) (by omega)
  have q2:=bJC (k:=micro) (v:=lE c s) (by omega) (by omega) (by omega) (by omega)
  split <;> split <;> omega
 ·omega
def cuB (l:List Int) (n:Nat) (j:Int):Prop:=(∀ i,i<l.length→cutAt l n i=true)∧(0<l.length→l.getD (l.length - 1) 0<j)
theorem aBI {l:List Int} {v:Int} {j:Nat} (hj:j<l.length):(l++[v]).getD j 0=l.getD j 0:=by
 rw[List.getD_eq_getElem?_getD,List.getD_eq_getElem?_getD,List.getElem?_append_left hj]
theorem aH2 {l:List Int} {v:Int}:(l++[v]).getD l.length 0=v:=by
 rw[List.getD_eq_getElem?_getD,List.getElem?_append_right (Nat.le_refl _),Nat.sub_self];rfl
theorem bHC {l:List Int} {n:Nat} {j:Int} (h:cuB l n j) (h1:1≤j) (h2:j≤(n:Int) - 1):cuB (l++[j]) n (j+1):=by
 have el:(l++[j]).length=l.length+1:=by rw[List.length_append];rfl
 refine ⟨fun i hlt=>?_,fun _=>?_⟩
 ·rw[el] at hlt
  rcases Nat.lt_or_eq_of_le (Nat.le_of_lt_succ hlt) with h3|rfl
  ·have:=h.1 i h3
   unfold cutAt at this ⊢
   rw[aBI h3,aBI (show i - 1<l.length by omega)];exact this
  ·unfold cutAt
   rw[aH2,decide_eq_true_eq]
   refine ⟨h1,h2,?_⟩
   by_cases h0:l.length=0
   ·exact .inl h0
   ·rw[aBI (show l.length - 1<l.length by omega)];exact .inr (h.2 (by omega))
 ·rw[el,Nat.add_sub_cancel,aH2];omega
theorem bF0 {l:List Int} {n:Nat} {j:Int} (h:cuB l n j):cuB l n (j+1):=⟨h.1,fun h0=>by have:=h.2 h0;omega⟩
theorem bK1 {n:Nat} {j:Int}:cuB [] n j:=⟨fun i h=>absurd h (Nat.not_lt_zero _),fun h=>absurd h (Nat.lt_irrefl _)⟩
def liB (c:bZ) (n:Int) (l:List Int):Prop:=∀ k,k<l.length→nU c (k:Int) n≤l.getD k 0∧l.getD k 0≤100000
theorem bFK {c:bZ} {n:Int} {l:List Int} {v:Int} (h:liB c n l) (h1:nU c (l.length:Int) n≤v) (h2:v≤100000):liB c n (l++[v]):=fun k hk=>by
 rw[List.length_append,List.length_singleton] at hk
 rcases Nat.lt_or_eq_of_le (Nat.le_of_lt_succ hk) with h3|rfl
 ·rw[aBI h3];exact h k h3
 ·rw[aH2];exact ⟨h1,h2⟩
theorem bFN {m:bD} {cuts:List Int} {d:Int} {rd:List Bool} {cp lm:List Int} {b:List bP} (h1:bW m=true) (h2:eN m b=true) (h3:lN m cuts=true) (h4:cuts.length≤3) (h5:d=1∨d=2)
  (h6:rd.length=cuts.length+1) (h7:cp.length=cuts.length) (h8:∀ v∈cp,1≤v∧v≤5) (h9:lm.length=cuts.length+1) (h10:liB (m,cuts,d,rd,cp,[]) (b.length:Int) lm):eQ (m,cuts,d,rd,cp,lm) b=0:=by
 have es:bV m cuts=(cuts.length:Int)+1:=aF2 h3
 refine (bNK (c:=(m,cuts,d,rd,cp,lm)) h1 h2 ?_ h5 ?_ ?_ ?_).symm
 ·show ¬ (bV m cuts=0∨4<bV m cuts)
  omega
 ·show (rd.length:Int)=bV m cuts
  omega
 ·exact bGT h7 (List.all_eq_true.2 fun v hv=>decide_eq_true (h8 v hv))
 ·show (decide ((lm.length:Int)=bV m cuts)&&(List.range lm.length).all (bBH (m,cuts,d,rd,cp,lm) (b.length:Int)))=true
  rw[decide_eq_true (show (lm.length:Int)=bV m cuts by omega),Bool.true_and,List.all_eq_true]
  intro k hk
  exact decide_eq_true (h10 k (List.mem_range.1 hk))
def aD9:Con:=⟨141,(.bNT (.bNT (.slice 5 (.int .u8)) aE) aK),(.bNT aB (.bNT (.slice 5 (.int .u8)) aE)),[.box 97 ⟨true,(.bNT (.slice 5 (.int .u8)) aE),[]⟩,.val ⟨true,aK,[]⟩],[⟨false,aB,[2]⟩],false,none,
 ((fun x=>0≤x.1.2.1∧x.2.length≤9):(aU × bD)→Prop),
 ((fun _=>aV (.bNT aB (.bNT (.slice 5 (.int .u8)) aE))):(aU × bD)→(bK × aU))⟩
def aDP:T:=.loop (.bNT tI (.bNT (.slice 5 (.int .u8)) (.bNT tI aF))) (bB (.bNT tI (.bNT (.slice 5 (.int .u8)) (.bNT tI aF))) [(.ci .i64 1),(.p1 (.slice 5 (.int .u8)) aE (.p1 (.bNT (.slice 5 (.int .u8)) aE) aK (.Z 0))),(aJ (.bNT (.slice 5 (.int .u8)) aE) 1 (.p1 (.bNT (.slice 5 (.int .u8)) aE) aK (.Z 0))),(aO (.bNT (.slice 5 (.int .u8)) aE) 2 (.p1 (.bNT (.slice 5 (.int .u8)) aE) aK (.Z 0))),(.nl 3 tI)]) <|
 .bNU (.bNX 78 bG) (aO (.bNT (.bNT (.slice 5 (.int .u8)) aE) aK) 1 (.Z 0)) <|
 .bNU (.cmp .lss .i64) (.bNV tI tI (.p1 tI (.bNT (.slice 5 (.int .u8)) (.bNT tI aF)) (.Z 1)) (.Z 2)) <|
 .ite (.Z 3) (
  .call 0 (.bNV (.bNT (.slice 5 (.int .u8)) aE) tI (bB (.bNT (.slice 5 (.int .u8)) aE) [(aJ (.bNT tI (.bNT (.slice 5 (.int .u8)) (.bNT tI aF))) 1 (.Z 1)),(aJ (.bNT tI (.bNT (.slice 5 (.int .u8)) (.bNT tI aF))) 2 (.Z 1)),(aJ (.bNT tI (.bNT (.slice 5 (.int .u8)) (.bNT tI aF))) 3 (.Z 1))]) (.ci .i64 2)) <|
  .ite (.p1 .bool (.bNT (.slice 5 (.int .u8)) aE) (.Z 4)) (
   .bNU (.bNX 3 tI) (aO (.bNT tI (.bNT (.slice 5 (.int .u8)) (.bNT tI aF))) 4 (.Z 1)) <|
   .bNU (.cmp .lss .i64) (.bNV tI tI (.Z 5) (.ci .i64 3)) <|
   .ite (.Z 6) (
    .bNU (.lit 3 tI 1) (.p1 tI (.bNT (.slice 5 (.int .u8)) (.bNT tI aF)) (.Z 1)) <|
    .bNU (.bO0 3 tI 8) (.bNV aB aB (aO (.bNT tI (.bNT (.slice 5 (.int .u8)) (.bNT tI aF))) 4 (.Z 1)) (.Z 7)) <|
    .bNU (.ar .add .i64) (.bNV tI tI (.p1 tI (.bNT (.slice 5 (.int .u8)) (.bNT tI aF)) (.Z 1)) (.ci .i64 1)) <|
    .bNW 0 (bB (.bNT tI (.bNT (.slice 5 (.int .u8)) (.bNT tI aF))) [(.Z 9),(aJ (.bNT .bool (.bNT (.slice 5 (.int .u8)) aE)) 1 (.Z 4)),(aJ (.bNT .bool (.bNT (.slice 5 (.int .u8)) aE)) 2 (.Z 4)),(aO (.bNT .bool (.bNT (.slice 5 (.int .u8)) aE)) 3 (.Z 4)),(.Z 8)])) (
    .bNU (.ar .add .i64) (.bNV tI tI (.p1 tI (.bNT (.slice 5 (.int .u8)) (.bNT tI aF)) (.Z 1)) (.ci .i64 1)) <|
    .bNW 0 (bB (.bNT tI (.bNT (.slice 5 (.int .u8)) (.bNT tI aF))) [(.Z 7),(aJ (.bNT .bool (.bNT (.slice 5 (.int .u8)) aE)) 1 (.Z 4)),(aJ (.bNT .bool (.bNT (.slice 5 (.int .u8)) aE)) 2 (.Z 4)),(aO (.bNT .bool (.bNT (.slice 5 (.int .u8)) aE)) 3 (.Z 4)),(aO (.bNT tI (.bNT (.slice 5 (.int .u8)) (.bNT tI aF))) 4 (.Z 1))]))) (
   .bNU (.ar .add .i64) (.bNV tI tI (.p1 tI (.bNT (.slice 5 (.int .u8)) (.bNT tI aF)) (.Z 1)) (.ci .i64 1)) <|
   .bNW 0 (bB (.bNT tI (.bNT (.slice 5 (.int .u8)) (.bNT tI aF))) [(.Z 5),(aJ (.bNT .bool (.bNT (.slice 5 (.int .u8)) aE)) 1 (.Z 4)),(aJ (.bNT .bool (.bNT (.slice 5 (.int .u8)) aE)) 2 (.Z 4)),(aO (.bNT .bool (.bNT (.slice 5 (.int .u8)) aE)) 3 (.Z 4)),(aO (.bNT tI (.bNT (.slice 5 (.int .u8)) (.bNT tI aF))) 4 (.Z 1))]))) (
  .ret (bB (.bNT aB (.bNT (.slice 5 (.int .u8)) aE)) [(aO (.bNT tI (.bNT (.slice 5 (.int .u8)) (.bNT tI aF))) 4 (.Z 1)),(aJ (.bNT tI (.bNT (.slice 5 (.int .u8)) (.bNT tI aF))) 1 (.Z 1)),(aJ (.bNT tI (.bNT (.slice 5 (.int .u8)) (.bNT tI aF))) 2 (.Z 1)),(aJ (.bNT tI (.bNT (.slice 5 (.int .u8)) (.bNT tI aF))) 3 (.Z 1))]))
theorem aZ4 (f:(aU × bD)→(bK × aU)):bM Tryz.prog [iO] { aD9 with fn:=f } false 3000 ⟨[(2991,1001,[.dr 7,.dr 1,.tm 6 0,.on 5,.bx 1 0,.bx 1 1,.bx 1 2,.sl 3])],[]⟩ = .ok aDP:=by kernel_rfl
theorem bAD (x:aU × bD) (hx:okD (.bNT (.bNT (.slice 5 (.int .u8)) aE) aK) x) (hp:(fun x=>0≤x.1.2.1∧x.2.length≤9) x):aDP.wp [iO] [⟨(.bNT (.bNT (.slice 5 (.int .u8)) aE) aK),x⟩] [] (fun v=>(fun x r=>(r.1.length≤3∧∀ i,i<r.1.length→cutAt r.1 x.2.length i=true)∧0≤r.2.2.1:(aU × bD)→(bK × aU)→Prop) x (v.as (.bNT aB (.bNT (.slice 5 (.int .u8)) aE)))):=by
 obtain ⟨c,m⟩:=x
 obtain ⟨hp,hm⟩:0≤c.2.1∧List.length m≤9:=hp
 delta aDP iO;refine dB ?_
 refine dT ?_
 refine ⟨fun s=>@LE.le Int _ 1 s.1∧@LE.le Int _ s.1 10∧(List.length s.2.2.2.2≤3∧cuB s.2.2.2.2 (List.length m) s.1)∧@LE.le Int _ 0 s.2.2.1,fun s=>(20 - s.1:Int).toNat,⟨by show (1:Int)≤1;omega,by show (1:Int)≤10;omega,⟨Nat.zero_le _,bK1⟩,hp⟩,fun s hs hI=>?_⟩
 obtain ⟨j,b,i,h,l⟩:=s
 obtain ⟨e1,e2,⟨e3,e5⟩,e4⟩:=hI
 change Int at j
 change List Int at l
 change (1:Int)≤j at e1
 change j≤10 at e2
 change List.length l≤3 at e3
 change cuB l (List.length m) j at e5
 change 0≤(i:Int) at e4
 have q:=aD0 ((b,i,h),2) ⟨⟨hs.2.1,hs.2.2.1,hs.2.2.2.1⟩,okI (by omega) (by omega)⟩ e4
 generalize mH ((b,i,h),2)=r at q ⊢;obtain ⟨n1,c1⟩:=r;obtain ⟨kq1,uq1⟩:=q;dsimp only at uq1 ⊢
 try dsimp only
 (refine dT ?_;try with_reducible exact True.intro)
 (repeat' first|intro _|(with_reducible apply And.intro))
 all_goals first|omega|(unfold maxLen;omega)|exact uq1|exact e4|exact bHC e5 (by omega) (by omega)|exact bF0 e5|exact e5.1 _ (by assumption)|skip
theorem aEC:∃ f:(aU × bD)→(bK × aU),(∀ x,okD (.bNT (.bNT (.slice 5 (.int .u8)) aE) aK) x→(fun x=>0≤x.1.2.1∧x.2.length≤9) x→(fun x r=>(r.1.length≤3∧∀ i,i<r.1.length→cutAt r.1 x.2.length i=true)∧0≤r.2.2.1:(aU × bD)→(bK × aU)→Prop) x (f x))∧Con.Holds Tryz.prog { aD9 with fn:=f }:=lO (C:=aD9) aW (aH yI aR) aZ4 (fun x r=>(r.1.length≤3∧∀ i,i<r.1.length→cutAt r.1 x.2.length i=true)∧0≤r.2.2.1:(aU × bD)→(bK × aU)→Prop) bAD
def rE:(aU × bD)→(bK × aU):=Classical.choose aEC
def wX:Con:=⟨141,(.bNT (.bNT (.slice 5 (.int .u8)) aE) aK),(.bNT aB (.bNT (.slice 5 (.int .u8)) aE)),[.box 97 ⟨true,(.bNT (.slice 5 (.int .u8)) aE),[]⟩,.val ⟨true,aK,[]⟩],[⟨false,aB,[2]⟩],false,none,
 ((fun x=>0≤x.1.2.1∧x.2.length≤9):(aU × bD)→Prop),
 ((rE):(aU × bD)→(bK × aU))⟩
theorem aXQ:∀ x,okD (.bNT (.bNT (.slice 5 (.int .u8)) aE) aK) x→(fun x=>0≤x.1.2.1∧x.2.length≤9) x→(fun x r=>(r.1.length≤3∧∀ i,i<r.1.length→cutAt r.1 x.2.length i=true)∧0≤r.2.2.1:(aU × bD)→(bK × aU)→Prop) x (rE x):=(Classical.choose_spec aEC).1
theorem aM1:Con.Holds Tryz.prog wX:=(Classical.choose_spec aEC).2
theorem aZX (x:aU × bD) (hx:okD (.bNT (.bNT (.slice 5 (.int .u8)) aE) aK) x) (hp:(fun x=>0≤x.1.2.1∧x.2.length≤9) x):okD (.bNT aB (.bNT (.slice 5 (.int .u8)) aE)) (rE x)∧(fun x r=>(r.1.length≤3∧∀ i,i<r.1.length→cutAt r.1 x.2.length i=true)∧0≤r.2.2.1:(aU × bD)→(bK × aU)→Prop) x (rE x):=⟨aM1.ok x hp hx,aXQ x hx hp⟩
def vD:Con:=⟨104,(.bNT (.slice 5 (.int .u8)) aE),(.bNT aQ (.bNT aN (.bNT (.slice 5 (.int .u8)) aE))),[.box 97 ⟨true,(.bNT (.slice 5 (.int .u8)) aE),[]⟩],[⟨true,aQ,[1,2,0,2,2,2]⟩,⟨false,aN,[1]⟩],false,none,
 ((fun x=>0≤x.2.1):(aU)→Prop),
 ((fun _=>aV (.bNT aQ (.bNT aN (.bNT (.slice 5 (.int .u8)) aE)))):(aU)→(bZ × (dL × aU)))⟩
def vB:T:=.call 0 (.Z 0) <|.call 1 (.bNV (.bNT (.slice 5 (.int .u8)) aE) aK (aO (.bNT aK (.bNT (.slice 5 (.int .u8)) aE)) 1 (.Z 1)) (.p1 aK (.bNT (.slice 5 (.int .u8)) aE) (.Z 1))) <|.call 2 (.bNV (.bNT (.slice 5 (.int .u8)) aE) tI (aO (.bNT aB (.bNT (.slice 5 (.int .u8)) aE)) 1 (.Z 2)) (.ci .i64 2)) <|
 .bNU (.ar .add .i64) (.bNV tI tI (.ci .i64 1) (.p1 tI (.bNT (.slice 5 (.int .u8)) aE) (.Z 3))) <|
 .bNU .not (.cb true) <|
 .call 3 (.bNV (.bNT (.slice 5 (.int .u8)) aE) aK (aO (.bNT tI (.bNT (.slice 5 (.int .u8)) aE)) 1 (.Z 3)) (.p1 aK (.bNT (.slice 5 (.int .u8)) aE) (.Z 1))) <|
 .loop (.bNT tI (.bNT (.slice 5 (.int .u8)) (.bNT tI (.bNT tI (.bNT cQ aB))))) (bB (.bNT tI (.bNT (.slice 5 (.int .u8)) (.bNT tI (.bNT tI (.bNT cQ aB))))) [(.ci .i64 0),(aJ (.bNT aN (.bNT (.slice 5 (.int .u8)) aE)) 1 (.Z 6)),(aJ (.bNT aN (.bNT (.slice 5 (.int .u8)) aE)) 2 (.Z 6)),(aO (.bNT aN (.bNT (.slice 5 (.int .u8)) aE)) 3 (.Z 6)),(.nl 4 .bool),(.nl 3 tI)]) <|
  .bNU (.bNX 3 tI) (.p1 aB (.bNT (.slice 5 (.int .u8)) aE) (.Z 2)) <|
  .bNU (.cmp .leq .i64) (.bNV tI tI (.p1 tI (.bNT (.slice 5 (.int .u8)) (.bNT tI (.bNT tI (.bNT cQ aB)))) (.Z 7)) (.Z 8)) <|
  .ite (.Z 9) (
   .call 4 (.bNV (.bNT (.slice 5 (.int .u8)) aE) tI (bB (.bNT (.slice 5 (.int .u8)) aE) [(aJ (.bNT tI (.bNT (.slice 5 (.int .u8)) (.bNT tI (.bNT tI (.bNT cQ aB))))) 1 (.Z 7)),(aJ (.bNT tI (.bNT (.slice 5 (.int .u8)) (.bNT tI (.bNT tI (.bNT cQ aB))))) 2 (.Z 7)),(aJ (.bNT tI (.bNT (.slice 5 (.int .u8)) (.bNT tI (.bNT tI (.bNT cQ aB))))) 3 (.Z 7))]) (.ci .i64 3)) <|
   .bNU (.lit 4 .bool 1) (.p1 .bool (.bNT (.slice 5 (.int .u8)) aE) (.Z 10)) <|
   .bNU (.bO0 4 .bool 1) (.bNV cQ cQ (aJ (.bNT tI (.bNT (.slice 5 (.int .u8)) (.bNT tI (.bNT tI (.bNT cQ aB))))) 4 (.Z 7)) (.Z 11)) <|
   .bNU (.cmp .gtr .i64) (.bNV tI tI (.p1 tI (.bNT (.slice 5 (.int .u8)) (.bNT tI (.bNT tI (.bNT cQ aB)))) (.Z 7)) (.ci .i64 0)) <|
   .ite (.Z 13) (
    .call 2 (.bNV (.bNT (.slice 5 (.int .u8)) aE) tI (aO (.bNT .bool (.bNT (.slice 5 (.int .u8)) aE)) 1 (.Z 10)) (.ci .i64 3)) <|
    .bNU (.ar .add .i64) (.bNV tI tI (.ci .i64 1) (.p1 tI (.bNT (.slice 5 (.int .u8)) aE) (.Z 14))) <|
    .bNU (.lit 3 tI 1) (.Z 15) <|
    .bNU (.bO0 3 tI 8) (.bNV aB aB (aO (.bNT tI (.bNT (.slice 5 (.int .u8)) (.bNT tI (.bNT tI (.bNT cQ aB))))) 5 (.Z 7)) (.Z 16)) <|
    .bNU (.ar .add .i64) (.bNV tI tI (.p1 tI (.bNT (.slice 5 (.int .u8)) (.bNT tI (.bNT tI (.bNT cQ aB)))) (.Z 7)) (.ci .i64 1)) <|
    .bNW 0 (bB (.bNT tI (.bNT (.slice 5 (.int .u8)) (.bNT tI (.bNT tI (.bNT cQ aB))))) [(.Z 18),(aJ (.bNT tI (.bNT (.slice 5 (.int .u8)) aE)) 1 (.Z 14)),(aJ (.bNT tI (.bNT (.slice 5 (.int .u8)) aE)) 2 (.Z 14)),(aO (.bNT tI (.bNT (.slice 5 (.int .u8)) aE)) 3 (.Z 14)),(.Z 12),(.Z 17)])) (
    .bNU (.ar .add .i64) (.bNV tI tI (.p1 tI (.bNT (.slice 5 (.int .u8)) (.bNT tI (.bNT tI (.bNT cQ aB)))) (.Z 7)) (.ci .i64 1)) <|
    .bNW 0 (bB (.bNT tI (.bNT (.slice 5 (.int .u8)) (.bNT tI (.bNT tI (.bNT cQ aB))))) [(.Z 14),(aJ (.bNT .bool (.bNT (.slice 5 (.int .u8)) aE)) 1 (.Z 10)),(aJ (.bNT .bool (.bNT (.slice 5 (.int .u8)) aE)) 2 (.Z 10)),(aO (.bNT .bool (.bNT (.slice 5 (.int .u8)) aE)) 3 (.Z 10)),(.Z 12),(aO (.bNT tI (.bNT (.slice 5 (.int .u8)) (.bNT tI (.bNT tI (.bNT cQ aB))))) 5 (.Z 7))]))) (
   .loop (.bNT tI (.bNT (.slice 5 (.int .u8)) (.bNT tI aF))) (bB (.bNT tI (.bNT (.slice 5 (.int .u8)) (.bNT tI aF))) [(.ci .i64 0),(aJ (.bNT tI (.bNT (.slice 5 (.int .u8)) (.bNT tI (.bNT tI (.bNT cQ aB))))) 1 (.Z 7)),(aJ (.bNT tI (.bNT (.slice 5 (.int .u8)) (.bNT tI (.bNT tI (.bNT cQ aB))))) 2 (.Z 7)),(aJ (.bNT tI (.bNT (.slice 5 (.int .u8)) (.bNT tI (.bNT tI (.bNT cQ aB))))) 3 (.Z 7)),(.nl 3 tI)]) <|
    .bNU (.bNX 3 tI) (.p1 aB (.bNT (.slice 5 (.int .u8)) aE) (.Z 2)) <|
    .bNU (.cmp .leq .i64) (.bNV tI tI (.p1 tI (.bNT (.slice 5 (.int .u8)) (.bNT tI aF)) (.Z 10)) (.Z 11)) <|
    .ite (.Z 12) (
     .bNU (.bNX 94 aM) (.p1 aN (.bNT (.slice 5 (.int .u8)) aE) (.Z 6)) <|
     .call 5 (bB (.bNT aQ aE) [(bB aQ [(.p1 aK (.bNT (.slice 5 (.int .u8)) aE) (.Z 1)),(.p1 aB (.bNT (.slice 5 (.int .u8)) aE) (.Z 2)),(.Z 4),(aJ (.bNT tI (.bNT (.slice 5 (.int .u8)) (.bNT tI (.bNT tI (.bNT cQ aB))))) 4 (.Z 7)),(aO (.bNT tI (.bNT (.slice 5 (.int .u8)) (.bNT tI (.bNT tI (.bNT cQ aB))))) 5 (.Z 7)),(aO (.bNT tI (.bNT (.slice 5 (.int .u8)) (.bNT tI aF))) 4 (.Z 10))]),(.p1 tI (.bNT (.slice 5 (.int .u8)) (.bNT tI aF)) (.Z 10)),(.Z 13)]) <|
     .bNU (.lit 3 tI 3) (bB (.bNT tI aE) [(.ci .i64 0),(.ci .i64 0),(.ci .i64 7)]) <|
     .call 6 (.bNV (.bNT (.slice 5 (.int .u8)) aE) aB (bB (.bNT (.slice 5 (.int .u8)) aE) [(aJ (.bNT tI (.bNT (.slice 5 (.int .u8)) (.bNT tI aF))) 1 (.Z 10)),(aJ (.bNT tI (.bNT (.slice 5 (.int .u8)) (.bNT tI aF))) 2 (.Z 10)),(aJ (.bNT tI (.bNT (.slice 5 (.int .u8)) (.bNT tI aF))) 3 (.Z 10))]) (.Z 15)) <|
     .bNU (.ar .add .i64) (.bNV tI tI (.Z 14) (.p1 tI (.bNT (.slice 5 (.int .u8)) aE) (.Z 16))) <|
     .bNU (.lit 3 tI 1) (.Z 17) <|
     .bNU (.bO0 3 tI 8) (.bNV aB aB (aO (.bNT tI (.bNT (.slice 5 (.int .u8)) (.bNT tI aF))) 4 (.Z 10)) (.Z 18)) <|
     .bNU (.ar .add .i64) (.bNV tI tI (.p1 tI (.bNT (.slice 5 (.int .u8)) (.bNT tI aF)) (.Z 10)) (.ci .i64 1)) <|
     .bNW 0 (bB (.bNT tI (.bNT (.slice 5 (.int .u8)) (.bNT tI aF))) [(.Z 20),(aJ (.bNT tI (.bNT (.slice 5 (.int .u8)) aE)) 1 (.Z 16)),(aJ (.bNT tI (.bNT (.slice 5 (.int .u8)) aE)) 2 (.Z 16)),(aO (.bNT tI (.bNT (.slice 5 (.int .u8)) aE)) 3 (.Z 16)),(.Z 19)])) (
     .ret (bB (.bNT aQ (.bNT aN (.bNT (.slice 5 (.int .u8)) aE))) [(bB aQ [(.p1 aK (.bNT (.slice 5 (.int .u8)) aE) (.Z 1)),(.p1 aB (.bNT (.slice 5 (.int .u8)) aE) (.Z 2)),(.Z 4),(aJ (.bNT tI (.bNT (.slice 5 (.int .u8)) (.bNT tI (.bNT tI (.bNT cQ aB))))) 4 (.Z 7)),(aO (.bNT tI (.bNT (.slice 5 (.int .u8)) (.bNT tI (.bNT tI (.bNT cQ aB))))) 5 (.Z 7)),(aO (.bNT tI (.bNT (.slice 5 (.int .u8)) (.bNT tI aF))) 4 (.Z 10))]),(.p1 aN (.bNT (.slice 5 (.int .u8)) aE) (.Z 6)),(aJ (.bNT tI (.bNT (.slice 5 (.int .u8)) (.bNT tI aF))) 1 (.Z 10)),(aJ (.bNT tI (.bNT (.slice 5 (.int .u8)) (.bNT tI aF))) 2 (.Z 10)),(aJ (.bNT tI (.bNT (.slice 5 (.int .u8)) (.bNT tI aF))) 3 (.Z 10))])))
theorem aN1 (f:(aU)→(bZ × (dL × aU))):bM Tryz.prog [tL,wX,bS,tX,iO,kT,cO] { vD with fn:=f } false 3000 ⟨[(2987,1007,iT 21 16++[.dr 14,.dr 13,.dr 11,.dr 15,.dr 12,.dr 4,.dr 10,.dr 9,.tm 7 0,.bx 1 0,.bx 1 1,.bx 1 2,.sl 18,.sl 19]),(2977,2010,iT 26 22++[.dr 7,.tm 8 0,.bx 1 0,.bx 1 1,.bx 1 2,.sl 20])],[(2994,1002,[],[8]),(2969,6013,[61],[])]⟩ = .ok vB:=by kernel_rfl
theorem aMD (x:aU) (hx:okD (.bNT (.slice 5 (.int .u8)) aE) x) (hp:(fun x=>0≤x.2.1) x):vB.wp [tL,wX,bS,tX,iO,kT,cO] [⟨(.bNT (.slice 5 (.int .u8)) aE),x⟩] [] (fun v=>(fun x r=>(aYJ 6 3 4 r.1 r.2.1∧eQ r.1 r.2.1=0)∧1≤r.1.2.2.2.1.length∧1≤r.1.2.2.2.2.2.length∧(∀ v∈r.1.2.2.2.2.2,0≤v∧v≤400)∧0≤r.2.2.2.1:(aU)→(bZ × (dL × aU))→Prop) x (v.as (.bNT aQ (.bNT aN (.bNT (.slice 5 (.int .u8)) aE))))):=by
 have q1:=aTF x hx hp
 delta vB tL wX bS tX iO kT cO;refine dB ?_
 refine dT ?_
 refine ⟨hp,fun _=>?_⟩
 generalize pD x=r at q1 ⊢;obtain ⟨m,c1⟩:=r;obtain ⟨k1,u1⟩:=q1;have km:=k1.1;replace k1:okD nT c1:=k1.2;dsimp only at u1 ⊢
 change List dJ at m
 have hl6:List.length m≤6:=u1.2.1
 have hP:∀ o∈m,List.length o.2.2.2≤40:=fun o ho=>by have:=bLG (u1.2.2.1 o ho);omega
 refine ⟨⟨u1.2.2.2,by omega⟩,fun _=>?_⟩
 have q2:=aZX (c1,m) ⟨k1,km⟩ ⟨u1.2.2.2,by show List.length m≤9;omega⟩
 generalize rE (c1,m)=r at q2 ⊢;obtain ⟨cuts,c2⟩:=r;obtain ⟨k2,u2⟩:=q2;replace k2:okD nT c2:=k2.2;dsimp only at u2 ⊢
 change List Int at cuts
 have hc3:List.length cuts≤3:=u2.1.1
 have hmB:bW m=true:=u1.1.2
 have hcB:lN m cuts=true:=(wK m cuts).2 ⟨hmB,u2.1.2⟩
 refine ⟨u2.2,fun _=>?_⟩
 have q3:=cR (c2,2) ⟨k2,okI (by omega) (by omega)⟩ u2.2
 generalize cI (c2,2)=r at q3 ⊢;obtain ⟨d,c3⟩:=r;obtain ⟨k3,u3⟩:=q3;replace k3:okD nT c3:=k3.2;dsimp only at u3 ⊢
 have hd:0≤d∧d<2:=⟨u3.1,u3.2.1 (by decide)⟩
 refine ⟨by omega,fun _=>⟨u3.2.2.2,fun _=>?_⟩⟩
 have q4:=aV2 (c3,m) ⟨k3,km⟩ u3.2.2.2
 generalize pA (c3,m)=r at q4 ⊢;obtain ⟨b,c4⟩:=r;obtain ⟨k4,u4⟩:=q4;replace k4:okD nT c4:=k4.2;dsimp only at u4 ⊢
 change List bP at b
 have hb4:List.length b≤4:=u4.2.1
 have hbv:∀ p∈b,List.length p.1≤7∧List.length p.2≤7:=fun p hp=>by have:=u4.2.2.1 p hp;omega
 have hc4:=u4.2.2.2
 have hbB:eN m b=true:=u4.1.2 hmB
 clear u4 u3 u2 u1
 refine ⟨fun s=>@LE.le Int _ 0 s.1∧@LE.le Int _ s.1 ((List.length cuts:Int)+1)∧((List.length s.2.2.2.2.1:Nat):Int)=s.1∧(((List.length s.2.2.2.2.2:Nat):Int)=max 0 (s.1 - 1:Int)∧∀ v∈s.2.2.2.2.2,@LE.le Int _ 1 v∧@LE.le Int _ v 5)∧@LE.le Int _ 0 s.2.2.1,fun s=>(20 - s.1:Int).toNat,⟨Int.le_refl _,by show (0:Int)≤_;omega,rfl,⟨rfl,fun v hv=>by cases hv⟩,hc4⟩,fun s hs hI=>?_⟩
 obtain ⟨s,bf,i,h,rd,cp⟩:=s
 obtain ⟨e1,e2,e3,⟨e4,e6⟩,e5⟩:=hI
 change Int at s
 change List Bool at rd
 change List Int at cp
 change (0:Int)≤s at e1
 change s≤(List.length cuts:Int)+1 at e2
 change ((List.length rd:Nat):Int)=s at e3
 change ((List.length cp:Nat):Int)=max 0 (s - 1) at e4
 change ∀ v∈cp,1≤v∧v≤5 at e6
 change 0≤(i:Int) at e5
 have kq:okD nT (bf,i,h):=⟨hs.2.1,hs.2.2.1,hs.2.2.2.1⟩
 try dsimp only
 refine fun _=>⟨fun hlt=>?_,fun hge=>?_⟩
 ·have q5:=aD0 ((bf,i,h),3) ⟨kq,okI (by omega) (by omega)⟩ e5
  refine ⟨e5,fun _=>?_⟩
  generalize mH ((bf,i,h),3)=r at q5 ⊢;obtain ⟨b5,c5⟩:=r;obtain ⟨k5,u5⟩:=q5;replace k5:okD nT c5:=k5.2;dsimp only at u5 ⊢
  have q6:=cR (c5,3) ⟨k5,okI (by omega) (by omega)⟩ u5
  generalize cI (c5,3)=r at q6 ⊢;obtain ⟨n6,c6⟩:=r;obtain ⟨k6,u6⟩:=q6;dsimp only at u6 ⊢
  have hn6:0≤n6∧n6<3:=⟨u6.1,u6.2.1 (by decide)⟩
  have hc6:=u6.2.2.2
  clear u6
  have e7:∀ v∈cp++[1+n6],1≤v∧v≤5:=fun v hv=>by
   rcases List.mem_append.1 hv with hv|hv
   ·exact e6 v hv
   ·rw[List.mem_singleton] at hv;omega
  simp only[nS,List.length_append,List.length_cons,List.length_nil]
  (repeat' first|intro _|(with_reducible apply And.intro))
  all_goals first|omega|(unfold maxLen;omega)|exact u5|exact hc6|exact (e6 _ (by assumption)).1|exact (e6 _ (by assumption)).2|exact (e7 _ (by assumption)).1|exact (e7 _ (by assumption)).2|skip
 have hrd:List.length rd=List.length cuts+1:=by omega
 have hcp:List.length cp=List.length cuts:=by omega
 refine ⟨fun t=>@LE.le Int _ 0 t.1∧@LE.le Int _ t.1 ((List.length cuts:Int)+1)∧((List.length t.2.2.2.2:Nat):Int)=t.1∧((∀ v∈t.2.2.2.2,@LE.le Int _ 0 v∧@LE.le Int _ v 400)∧liB (m,cuts,1+d,rd,cp,[]) (List.length b:Int) t.2.2.2.2)∧@LE.le Int _ 0 t.2.2.1,fun t=>(20 - t.1:Int).toNat,⟨Int.le_refl _,by show (0:Int)≤_;omega,rfl,⟨fun v hv=>(by cases hv),fun k hk=>absurd hk (Nat.not_lt_zero _)⟩,e5⟩,fun t ht hJ=>?_⟩
 obtain ⟨t,bf,i,h,lm⟩:=t
 obtain ⟨g1,g2,g3,⟨g4,g8⟩,g5⟩:=hJ
 change Int at t
 change List Int at lm
 change (0:Int)≤t at g1
 change t≤(List.length cuts:Int)+1 at g2
 change ((List.length lm:Nat):Int)=t at g3
 change ∀ v∈lm,0≤v∧v≤400 at g4
 change liB (m,cuts,1+d,rd,cp,[]) (List.length b:Int) lm at g8
 change 0≤(i:Int) at g5
 have kq':okD nT (bf,i,h):=⟨ht.2.1,ht.2.2.1,ht.2.2.2.1⟩
 try dsimp only
 refine fun _=>⟨fun hlt=>?_,fun hge=>?_⟩
 ·refine fun _=>⟨⟨⟨by show List.length m≤_;omega,fun o ho=>by have:=hP o ho;omega⟩,by show List.length cuts≤_;omega,by show List.length rd≤_;omega,by show List.length cp≤_;omega,by show List.length lm≤_;omega⟩,fun _ hlit=>⟨⟨g5,by simp⟩,fun _=>?_⟩⟩
  have q7:=lX ((bf,i,h),[0,0,7]) ⟨kq',hlit⟩ ⟨g5,by simp⟩
  generalize gM ((bf,i,h),[0,0,7])=r at q7 ⊢;obtain ⟨n7,c7⟩:=r;obtain ⟨k7,u7⟩:=q7;dsimp only at u7 ⊢
  have hc7:=u7.2
  have hn7:0≤n7∧n7≤7:=by
   have:=u7.1
   simp only[List.mem_cons,List.not_mem_nil,or_false] at this
   omega
  have pb:=bMC (m,cuts,1+d,rd,cp,lm) t (b.length:Int)
  have g9:liB (m,cuts,1+d,rd,cp,[]) (List.length b:Int) (lm++[nU (m,cuts,1+d,rd,cp,lm) t (b.length:Int)+n7]):=bFK g8 (by rw[g3];show nU (m,cuts,1+d,rd,cp,lm) t (b.length:Int)≤_;omega) (by omega)
  generalize nU (m,cuts,1+d,rd,cp,lm) t (b.length:Int)=pk at pb g9 ⊢
  clear u7
  have g6:∀ v∈lm++[pk+n7],0≤v∧v≤400:=fun v hv=>by
   rcases List.mem_append.1 hv with hv|hv
   ·exact g4 v hv
   ·rw[List.mem_singleton] at hv;omega
  simp only[nS,List.length_append,List.length_cons,List.length_nil]
  (repeat' first|intro _|(with_reducible apply And.intro))
  all_goals first|omega|(unfold maxLen;omega)|exact hc7|exact (g6 _ (by assumption)).1|exact (g6 _ (by assumption)).2|exact g9|exact (g9 _ (by assumption)).1|exact (g9 _ (by assumption)).2|skip
 ·exact ⟨⟨⟨by show List.length m≤6;omega,hP,hc3,by show List.length rd≤4;omega,by show List.length cp≤3;omega,by show List.length lm≤4;omega,hb4,hbv⟩,bFN hmB hbB hcB hc3 (by omega) hrd hcp e6 (by omega) g8⟩,by show 1≤List.length rd;omega,by show 1≤List.length lm;omega,g4,g5⟩
theorem vI:∃ f:(aU)→(bZ × (dL × aU)),(∀ x,okD (.bNT (.slice 5 (.int .u8)) aE) x→(fun x=>0≤x.2.1) x→(fun x r=>(aYJ 6 3 4 r.1 r.2.1∧eQ r.1 r.2.1=0)∧1≤r.1.2.2.2.1.length∧1≤r.1.2.2.2.2.2.length∧(∀ v∈r.1.2.2.2.2.2,0≤v∧v≤400)∧0≤r.2.2.2.1:(aU)→(bZ × (dL × aU))→Prop) x (f x))∧Con.Holds Tryz.prog { vD with fn:=f }:=lO (C:=vD) aW (aH aI3 (aH aM1 (aH fU (aH aI1 (aH yI (aH aJ5 (aH jW aR))))))) aN1 (fun x r=>(aYJ 6 3 4 r.1 r.2.1∧eQ r.1 r.2.1=0)∧1≤r.1.2.2.2.1.length∧1≤r.1.2.2.2.2.2.length∧(∀ v∈r.1.2.2.2.2.2,0≤v∧v≤400)∧0≤r.2.2.2.1:(aU)→(bZ × (dL × aU))→Prop) aMD
def mD:(aU)→(bZ × (dL × aU)):=Classical.choose vI
def oN:Con:=⟨104,(.bNT (.slice 5 (.int .u8)) aE),(.bNT aQ (.bNT aN (.bNT (.slice 5 (.int .u8)) aE))),[.box 97 ⟨true,(.bNT (.slice 5 (.int .u8)) aE),[]⟩],[⟨true,aQ,[1,2,0,2,2,2]⟩,⟨false,aN,[1]⟩],false,none,
 ((fun x=>0≤x.2.1):(aU)→Prop),
 ((mD):(aU)→(bZ × (dL × aU)))⟩
theorem aMH:∀ x,okD (.bNT (.slice 5 (.int .u8)) aE) x→(fun x=>0≤x.2.1) x→(fun x r=>(aYJ 6 3 4 r.1 r.2.1∧eQ r.1 r.2.1=0)∧1≤r.1.2.2.2.1.length∧1≤r.1.2.2.2.2.2.length∧(∀ v∈r.1.2.2.2.2.2,0≤v∧v≤400)∧0≤r.2.2.2.1:(aU)→(bZ × (dL × aU))→Prop) x (mD x):=(Classical.choose_spec vI).1
theorem aCJ:Con.Holds Tryz.prog oN:=(Classical.choose_spec vI).2
theorem aML (x:aU) (hx:okD (.bNT (.slice 5 (.int .u8)) aE) x) (hp:(fun x=>0≤x.2.1) x):okD (.bNT aQ (.bNT aN (.bNT (.slice 5 (.int .u8)) aE))) (mD x)∧(fun x r=>(aYJ 6 3 4 r.1 r.2.1∧eQ r.1 r.2.1=0)∧1≤r.1.2.2.2.1.length∧1≤r.1.2.2.2.2.2.length∧(∀ v∈r.1.2.2.2.2.2,0≤v∧v≤400)∧0≤r.2.2.2.1:(aU)→(bZ × (dL × aU))→Prop) x (mD x):=⟨aCJ.ok x hp hx,aMH x hx hp⟩
end
end Go.Proofs.YtdeobhdbmehpgaaGreat
