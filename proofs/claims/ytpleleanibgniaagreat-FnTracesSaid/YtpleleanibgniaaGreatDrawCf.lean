/- DrawCf: lemmas. No conditions. -/
import Derived.Test.YtpleleanibgniaaGreatDrawR
import Derived.Test.YtpleleanibgniaaGreatCoreA
namespace Go.Proofs.YtpleleanibgniaaGreat
noncomputable section
set_option maxRecDepth 100000
open Go.ChangeShapes Go.WideShapes Go.ChangeAt Go.RowKit Go.Deep
set_option linter.unusedVariables false
set_option linter.unusedSimpArgs false
def wM (n k b:Nat) (c:bK) (l:bS):Prop:=List.length c.1≤n∧(∀ o∈(c.1:aW),List.length o.2.2.2≤40)∧List.length c.2.1≤k∧List.length c.2.2.2.1≤k+1∧List.length c.2.2.2.2.1≤k∧List.length c.2.2.2.2.2≤k+1 ∧
 List.length l≤b∧∀ p∈(l:List cI),List.length p.1≤7∧List.length p.2≤7
theorem bHP (c:bK) (s micro:Int):0≤lX c s micro∧lX c s micro≤330:=by
 unfold lX
 split
 ·rename_i h
  obtain ⟨h1,h2,h3,h4⟩:=h
  have hb:=aTX c s
  have hs:s≤(c.2.1.length:Int):=Int.not_lt.1 fun hh=>by rw[aGI (.inr (.inr hh))] at h1;exact absurd h1 (Int.lt_irrefl _)
  have q1:=bDI (k:=min micro ((c.2.1.length:Int)+1 - s)) (v:=jD c s) (by omega) (by omega) (by omega) (by omega)
  have q2:=bDI (k:=micro) (v:=jD c s) (by omega) (by omega) (by omega) (by omega)
  split <;> split <;> omega
 ·omega
def cuB (l:List Int) (n:Nat) (j:Int):Prop:=(∀ i,i<l.length→cutAt l n i=true)∧(0<l.length→l.getD (l.length - 1) 0<j)
theorem zL {l:List Int} {v:Int} {j:Nat} (hj:j<l.length):(l++[v]).getD j 0=l.getD j 0:=by
 rw[List.getD_eq_getElem?_getD,List.getD_eq_getElem?_getD,List.getElem?_append_left hj]
theorem aDY {l:List Int} {v:Int}:(l++[v]).getD l.length 0=v:=by
 rw[List.getD_eq_getElem?_getD,List.getElem?_append_right (Nat.le_refl _),Nat.sub_self];rfl
theorem bCO {l:List Int} {n:Nat} {j:Int} (h:cuB l n j) (h1:1≤j) (h2:j≤(n:Int) - 1):cuB (l++[j]) n (j+1):=by
 have el:(l++[j]).length=l.length+1:=by rw[List.length_append];rfl
 refine ⟨fun i hlt=>?_,fun _=>?_⟩
 ·rw[el] at hlt
  rcases Nat.lt_or_eq_of_le (Nat.le_of_lt_succ hlt) with h3|rfl
  ·have:=h.1 i h3
   unfold cutAt at this ⊢
   rw[zL h3,zL (show i - 1<l.length by omega)];exact this
  ·unfold cutAt
   rw[aDY,decide_eq_true_eq]
   refine ⟨h1,h2,?_⟩
   by_cases h0:l.length=0
   ·exact .inl h0
   ·rw[zL (show l.length - 1<l.length by omega)];exact .inr (h.2 (by omega))
 ·rw[el,Nat.add_sub_cancel,aDY];omega
theorem bCY {l:List Int} {n:Nat} {j:Int} (h:cuB l n j):cuB l n (j+1):=⟨h.1,fun h0=>by have:=h.2 h0;omega⟩
theorem bFJ {n:Nat} {j:Int}:cuB [] n j:=⟨fun i h=>absurd h (Nat.not_lt_zero _),fun h=>absurd h (Nat.lt_irrefl _)⟩
def liB (c:bK) (n:Int) (l:List Int):Prop:=∀ k,k<l.length→lX c (k:Int) n≤l.getD k 0∧l.getD k 0≤100000
theorem bAN {c:bK} {n:Int} {l:List Int} {v:Int} (h:liB c n l) (h1:lX c (l.length:Int) n≤v) (h2:v≤100000):liB c n (l++[v]):=fun k hk=>by
 rw[List.length_append,List.length_singleton] at hk
 rcases Nat.lt_or_eq_of_le (Nat.le_of_lt_succ hk) with h3|rfl
 ·rw[zL h3];exact h k h3
 ·rw[aDY];exact ⟨h1,h2⟩
theorem bBA {m:aW} {cuts:List Int} {d:Int} {rd:List Bool} {cp lm:List Int} {b:List cI} (h1:bT m=true) (h2:dY m b=true) (h3:jY m cuts=true) (h4:cuts.length≤3) (h5:d=1∨d=2)
  (h6:rd.length=cuts.length+1) (h7:cp.length=cuts.length) (h8:∀ v∈cp,1≤v∧v≤5) (h9:lm.length=cuts.length+1) (h10:liB (m,cuts,d,rd,cp,[]) (b.length:Int) lm):dH (m,cuts,d,rd,cp,lm) b=0:=by
 have es:bL m cuts=(cuts.length:Int)+1:=aC6 h3
 refine (bI5 (c:=(m,cuts,d,rd,cp,lm)) h1 h2 ?_ h5 ?_ ?_ ?_).symm
 ·show ¬ (bL m cuts=0∨4<bL m cuts)
  omega
 ·show (rd.length:Int)=bL m cuts
  omega
 ·exact bC9 h7 (List.all_eq_true.2 fun v hv=>decide_eq_true (h8 v hv))
 ·show (decide ((lm.length:Int)=bL m cuts)&&(List.range lm.length).all (aVY (m,cuts,d,rd,cp,lm) (b.length:Int)))=true
  rw[decide_eq_true (show (lm.length:Int)=bL m cuts by omega),Bool.true_and,List.all_eq_true]
  intro k hk
  exact decide_eq_true (h10 k (List.mem_range.1 hk))
def aAN:Con:=⟨64,(.bJ2 (.bJ2 (.slice 5 (.int .u8)) aC) aD),(.bJ2 aB (.bJ2 (.slice 5 (.int .u8)) aC)),[.box 90 ⟨true,(.bJ2 (.slice 5 (.int .u8)) aC),[]⟩,.val ⟨true,aD,[]⟩],[⟨false,aB,[2]⟩],false,none,
 ((fun x=>0≤x.1.2.1∧x.2.length≤9):(aL × aW)→Prop),
 ((fun _=>aS (.bJ2 aB (.bJ2 (.slice 5 (.int .u8)) aC))):(aL × aW)→(bH × aL))⟩
def aAO:T:=.loop (.bJ2 tI (.bJ2 (.slice 5 (.int .u8)) (.bJ2 tI aI))) (bJ (.bJ2 tI (.bJ2 (.slice 5 (.int .u8)) (.bJ2 tI aI))) [(.ci .i64 1),(.p1 (.slice 5 (.int .u8)) aC (.p1 (.bJ2 (.slice 5 (.int .u8)) aC) aD (.Z 0))),(aJ (.bJ2 (.slice 5 (.int .u8)) aC) 1 (.p1 (.bJ2 (.slice 5 (.int .u8)) aC) aD (.Z 0))),(aR (.bJ2 (.slice 5 (.int .u8)) aC) 2 (.p1 (.bJ2 (.slice 5 (.int .u8)) aC) aD (.Z 0))),(.nl 3 tI)]) <|
 .bJ3 (.bJ6 93 bN) (aR (.bJ2 (.bJ2 (.slice 5 (.int .u8)) aC) aD) 1 (.Z 0)) <|
 .bJ3 (.cmp .lss .i64) (.bJ4 tI tI (.p1 tI (.bJ2 (.slice 5 (.int .u8)) (.bJ2 tI aI)) (.Z 1)) (.Z 2)) <|
 .ite (.Z 3) (
  .call 0 (.bJ4 (.bJ2 (.slice 5 (.int .u8)) aC) tI (bJ (.bJ2 (.slice 5 (.int .u8)) aC) [(aJ (.bJ2 tI (.bJ2 (.slice 5 (.int .u8)) (.bJ2 tI aI))) 1 (.Z 1)),(aJ (.bJ2 tI (.bJ2 (.slice 5 (.int .u8)) (.bJ2 tI aI))) 2 (.Z 1)),(aJ (.bJ2 tI (.bJ2 (.slice 5 (.int .u8)) (.bJ2 tI aI))) 3 (.Z 1))]) (.ci .i64 2)) <|
  .ite (.p1 .bool (.bJ2 (.slice 5 (.int .u8)) aC) (.Z 4)) (
   .bJ3 (.bJ6 3 tI) (aR (.bJ2 tI (.bJ2 (.slice 5 (.int .u8)) (.bJ2 tI aI))) 4 (.Z 1)) <|
   .bJ3 (.cmp .lss .i64) (.bJ4 tI tI (.Z 5) (.ci .i64 3)) <|
   .ite (.Z 6) (
    .bJ3 (.lit 3 tI 1) (.p1 tI (.bJ2 (.slice 5 (.int .u8)) (.bJ2 tI aI)) (.Z 1)) <|
    .bJ3 (.bJ9 3 tI 8) (.bJ4 aB aB (aR (.bJ2 tI (.bJ2 (.slice 5 (.int .u8)) (.bJ2 tI aI))) 4 (.Z 1)) (.Z 7)) <|
    .bJ3 (.ar .add .i64) (.bJ4 tI tI (.p1 tI (.bJ2 (.slice 5 (.int .u8)) (.bJ2 tI aI)) (.Z 1)) (.ci .i64 1)) <|
    .bJ5 0 (bJ (.bJ2 tI (.bJ2 (.slice 5 (.int .u8)) (.bJ2 tI aI))) [(.Z 9),(aJ (.bJ2 .bool (.bJ2 (.slice 5 (.int .u8)) aC)) 1 (.Z 4)),(aJ (.bJ2 .bool (.bJ2 (.slice 5 (.int .u8)) aC)) 2 (.Z 4)),(aR (.bJ2 .bool (.bJ2 (.slice 5 (.int .u8)) aC)) 3 (.Z 4)),(.Z 8)])) (
    .bJ3 (.ar .add .i64) (.bJ4 tI tI (.p1 tI (.bJ2 (.slice 5 (.int .u8)) (.bJ2 tI aI)) (.Z 1)) (.ci .i64 1)) <|
    .bJ5 0 (bJ (.bJ2 tI (.bJ2 (.slice 5 (.int .u8)) (.bJ2 tI aI))) [(.Z 7),(aJ (.bJ2 .bool (.bJ2 (.slice 5 (.int .u8)) aC)) 1 (.Z 4)),(aJ (.bJ2 .bool (.bJ2 (.slice 5 (.int .u8)) aC)) 2 (.Z 4)),(aR (.bJ2 .bool (.bJ2 (.slice 5 (.int .u8)) aC)) 3 (.Z 4)),(aR (.bJ2 tI (.bJ2 (.slice 5 (.int .u8)) (.bJ2 tI aI))) 4 (.Z 1))]))) (
   .bJ3 (.ar .add .i64) (.bJ4 tI tI (.p1 tI (.bJ2 (.slice 5 (.int .u8)) (.bJ2 tI aI)) (.Z 1)) (.ci .i64 1)) <|
   .bJ5 0 (bJ (.bJ2 tI (.bJ2 (.slice 5 (.int .u8)) (.bJ2 tI aI))) [(.Z 5),(aJ (.bJ2 .bool (.bJ2 (.slice 5 (.int .u8)) aC)) 1 (.Z 4)),(aJ (.bJ2 .bool (.bJ2 (.slice 5 (.int .u8)) aC)) 2 (.Z 4)),(aR (.bJ2 .bool (.bJ2 (.slice 5 (.int .u8)) aC)) 3 (.Z 4)),(aR (.bJ2 tI (.bJ2 (.slice 5 (.int .u8)) (.bJ2 tI aI))) 4 (.Z 1))]))) (
  .ret (bJ (.bJ2 aB (.bJ2 (.slice 5 (.int .u8)) aC)) [(aR (.bJ2 tI (.bJ2 (.slice 5 (.int .u8)) (.bJ2 tI aI))) 4 (.Z 1)),(aJ (.bJ2 tI (.bJ2 (.slice 5 (.int .u8)) (.bJ2 tI aI))) 1 (.Z 1)),(aJ (.bJ2 tI (.bJ2 (.slice 5 (.int .u8)) (.bJ2 tI aI))) 2 (.Z 1)),(aJ (.bJ2 tI (.bJ2 (.slice 5 (.int .u8)) (.bJ2 tI aI))) 3 (.Z 1))]))
theorem aSI (f:(aL × aW)→(bH × aL)):bV Tryz.prog [gN] { aAN with fn:=f } false 3000 ⟨[(2991,1001,[.dr 7,.dr 1,.tm 6 0,.on 5,.bx 1 0,.bx 1 1,.bx 1 2,.sl 3])],[]⟩ = .ok aAO:=by kernel_rfl
theorem aTA (x:aL × aW) (hx:okD (.bJ2 (.bJ2 (.slice 5 (.int .u8)) aC) aD) x) (hp:(fun x=>0≤x.1.2.1∧x.2.length≤9) x):aAO.wp [gN] [⟨(.bJ2 (.bJ2 (.slice 5 (.int .u8)) aC) aD),x⟩] [] (fun v=>(fun x r=>(r.1.length≤3∧∀ i,i<r.1.length→cutAt r.1 x.2.length i=true)∧0≤r.2.2.1:(aL × aW)→(bH × aL)→Prop) x (v.as (.bJ2 aB (.bJ2 (.slice 5 (.int .u8)) aC)))):=by
 obtain ⟨c,m⟩:=x
 obtain ⟨hp,hm⟩:0≤c.2.1∧List.length m≤9:=hp
 delta aAO gN;refine eE ?_
 refine eL ?_
 refine ⟨fun s=>@LE.le Int _ 1 s.1∧@LE.le Int _ s.1 10∧(List.length s.2.2.2.2≤3∧cuB s.2.2.2.2 (List.length m) s.1)∧@LE.le Int _ 0 s.2.2.1,fun s=>(20 - s.1:Int).toNat,⟨by show (1:Int)≤1;omega,by show (1:Int)≤10;omega,⟨Nat.zero_le _,bFJ⟩,hp⟩,fun s hs hI=>?_⟩
 obtain ⟨j,b,i,h,l⟩:=s
 obtain ⟨e1,e2,⟨e3,e5⟩,e4⟩:=hI
 change Int at j
 change List Int at l
 change (1:Int)≤j at e1
 change j≤10 at e2
 change List.length l≤3 at e3
 change cuB l (List.length m) j at e5
 change 0≤(i:Int) at e4
 have q:=aBP ((b,i,h),2) ⟨⟨hs.2.1,hs.2.2.1,hs.2.2.2.1⟩,okI (by omega) (by omega)⟩ e4
 generalize kP ((b,i,h),2)=r at q ⊢;obtain ⟨n1,c1⟩:=r;obtain ⟨kq1,uq1⟩:=q;dsimp only at uq1 ⊢
 try dsimp only
 (refine eL ?_;try with_reducible exact True.intro)
 (repeat' first|intro _|(with_reducible apply And.intro))
 all_goals first|omega|(unfold maxLen;omega)|exact uq1|exact e4|exact bCO e5 (by omega) (by omega)|exact bCY e5|exact e5.1 _ (by assumption)|skip
theorem aBO:∃ f:(aL × aW)→(bH × aL),(∀ x,okD (.bJ2 (.bJ2 (.slice 5 (.int .u8)) aC) aD) x→(fun x=>0≤x.1.2.1∧x.2.length≤9) x→(fun x r=>(r.1.length≤3∧∀ i,i<r.1.length→cutAt r.1 x.2.length i=true)∧0≤r.2.2.1:(aL × aW)→(bH × aL)→Prop) x (f x))∧Con.Holds Tryz.prog { aAN with fn:=f }:=gY (C:=aAN) aX (aG vA aT) aSI (fun x r=>(r.1.length≤3∧∀ i,i<r.1.length→cutAt r.1 x.2.length i=true)∧0≤r.2.2.1:(aL × aW)→(bH × aL)→Prop) aTA
def pJ:(aL × aW)→(bH × aL):=Classical.choose aBO
def vB:Con:=⟨64,(.bJ2 (.bJ2 (.slice 5 (.int .u8)) aC) aD),(.bJ2 aB (.bJ2 (.slice 5 (.int .u8)) aC)),[.box 90 ⟨true,(.bJ2 (.slice 5 (.int .u8)) aC),[]⟩,.val ⟨true,aD,[]⟩],[⟨false,aB,[2]⟩],false,none,
 ((fun x=>0≤x.1.2.1∧x.2.length≤9):(aL × aW)→Prop),
 ((pJ):(aL × aW)→(bH × aL))⟩
theorem aRY:∀ x,okD (.bJ2 (.bJ2 (.slice 5 (.int .u8)) aC) aD) x→(fun x=>0≤x.1.2.1∧x.2.length≤9) x→(fun x r=>(r.1.length≤3∧∀ i,i<r.1.length→cutAt r.1 x.2.length i=true)∧0≤r.2.2.1:(aL × aW)→(bH × aL)→Prop) x (pJ x):=(Classical.choose_spec aBO).1
theorem aH3:Con.Holds Tryz.prog vB:=(Classical.choose_spec aBO).2
theorem aSQ (x:aL × aW) (hx:okD (.bJ2 (.bJ2 (.slice 5 (.int .u8)) aC) aD) x) (hp:(fun x=>0≤x.1.2.1∧x.2.length≤9) x):okD (.bJ2 aB (.bJ2 (.slice 5 (.int .u8)) aC)) (pJ x)∧(fun x r=>(r.1.length≤3∧∀ i,i<r.1.length→cutAt r.1 x.2.length i=true)∧0≤r.2.2.1:(aL × aW)→(bH × aL)→Prop) x (pJ x):=⟨aH3.ok x hp hx,aRY x hx hp⟩
def rJ:Con:=⟨37,(.bJ2 (.slice 5 (.int .u8)) aC),(.bJ2 aE (.bJ2 aF (.bJ2 (.slice 5 (.int .u8)) aC))),[.box 90 ⟨true,(.bJ2 (.slice 5 (.int .u8)) aC),[]⟩],[⟨true,aE,[1,2,0,2,2,2]⟩,⟨false,aF,[1]⟩],false,none,
 ((fun x=>0≤x.2.1):(aL)→Prop),
 ((fun _=>aS (.bJ2 aE (.bJ2 aF (.bJ2 (.slice 5 (.int .u8)) aC)))):(aL)→(bK × (bS × aL)))⟩
def rU:T:=.call 0 (.Z 0) <|.call 1 (.bJ4 (.bJ2 (.slice 5 (.int .u8)) aC) aD (aR (.bJ2 aD (.bJ2 (.slice 5 (.int .u8)) aC)) 1 (.Z 1)) (.p1 aD (.bJ2 (.slice 5 (.int .u8)) aC) (.Z 1))) <|.call 2 (.bJ4 (.bJ2 (.slice 5 (.int .u8)) aC) tI (aR (.bJ2 aB (.bJ2 (.slice 5 (.int .u8)) aC)) 1 (.Z 2)) (.ci .i64 2)) <|
 .bJ3 (.ar .add .i64) (.bJ4 tI tI (.ci .i64 1) (.p1 tI (.bJ2 (.slice 5 (.int .u8)) aC) (.Z 3))) <|
 .bJ3 .not (.cb true) <|
 .call 3 (.bJ4 (.bJ2 (.slice 5 (.int .u8)) aC) aD (aR (.bJ2 tI (.bJ2 (.slice 5 (.int .u8)) aC)) 1 (.Z 3)) (.p1 aD (.bJ2 (.slice 5 (.int .u8)) aC) (.Z 1))) <|
 .loop (.bJ2 tI (.bJ2 (.slice 5 (.int .u8)) (.bJ2 tI (.bJ2 tI (.bJ2 cB aB))))) (bJ (.bJ2 tI (.bJ2 (.slice 5 (.int .u8)) (.bJ2 tI (.bJ2 tI (.bJ2 cB aB))))) [(.ci .i64 0),(aJ (.bJ2 aF (.bJ2 (.slice 5 (.int .u8)) aC)) 1 (.Z 6)),(aJ (.bJ2 aF (.bJ2 (.slice 5 (.int .u8)) aC)) 2 (.Z 6)),(aR (.bJ2 aF (.bJ2 (.slice 5 (.int .u8)) aC)) 3 (.Z 6)),(.nl 4 .bool),(.nl 3 tI)]) <|
  .bJ3 (.bJ6 3 tI) (.p1 aB (.bJ2 (.slice 5 (.int .u8)) aC) (.Z 2)) <|
  .bJ3 (.cmp .leq .i64) (.bJ4 tI tI (.p1 tI (.bJ2 (.slice 5 (.int .u8)) (.bJ2 tI (.bJ2 tI (.bJ2 cB aB)))) (.Z 7)) (.Z 8)) <|
  .ite (.Z 9) (
   .call 4 (.bJ4 (.bJ2 (.slice 5 (.int .u8)) aC) tI (bJ (.bJ2 (.slice 5 (.int .u8)) aC) [(aJ (.bJ2 tI (.bJ2 (.slice 5 (.int .u8)) (.bJ2 tI (.bJ2 tI (.bJ2 cB aB))))) 1 (.Z 7)),(aJ (.bJ2 tI (.bJ2 (.slice 5 (.int .u8)) (.bJ2 tI (.bJ2 tI (.bJ2 cB aB))))) 2 (.Z 7)),(aJ (.bJ2 tI (.bJ2 (.slice 5 (.int .u8)) (.bJ2 tI (.bJ2 tI (.bJ2 cB aB))))) 3 (.Z 7))]) (.ci .i64 3)) <|
   .bJ3 (.lit 4 .bool 1) (.p1 .bool (.bJ2 (.slice 5 (.int .u8)) aC) (.Z 10)) <|
   .bJ3 (.bJ9 4 .bool 1) (.bJ4 cB cB (aJ (.bJ2 tI (.bJ2 (.slice 5 (.int .u8)) (.bJ2 tI (.bJ2 tI (.bJ2 cB aB))))) 4 (.Z 7)) (.Z 11)) <|
   .bJ3 (.cmp .gtr .i64) (.bJ4 tI tI (.p1 tI (.bJ2 (.slice 5 (.int .u8)) (.bJ2 tI (.bJ2 tI (.bJ2 cB aB)))) (.Z 7)) (.ci .i64 0)) <|
   .ite (.Z 13) (
    .call 2 (.bJ4 (.bJ2 (.slice 5 (.int .u8)) aC) tI (aR (.bJ2 .bool (.bJ2 (.slice 5 (.int .u8)) aC)) 1 (.Z 10)) (.ci .i64 3)) <|
    .bJ3 (.ar .add .i64) (.bJ4 tI tI (.ci .i64 1) (.p1 tI (.bJ2 (.slice 5 (.int .u8)) aC) (.Z 14))) <|
    .bJ3 (.lit 3 tI 1) (.Z 15) <|
    .bJ3 (.bJ9 3 tI 8) (.bJ4 aB aB (aR (.bJ2 tI (.bJ2 (.slice 5 (.int .u8)) (.bJ2 tI (.bJ2 tI (.bJ2 cB aB))))) 5 (.Z 7)) (.Z 16)) <|
    .bJ3 (.ar .add .i64) (.bJ4 tI tI (.p1 tI (.bJ2 (.slice 5 (.int .u8)) (.bJ2 tI (.bJ2 tI (.bJ2 cB aB)))) (.Z 7)) (.ci .i64 1)) <|
    .bJ5 0 (bJ (.bJ2 tI (.bJ2 (.slice 5 (.int .u8)) (.bJ2 tI (.bJ2 tI (.bJ2 cB aB))))) [(.Z 18),(aJ (.bJ2 tI (.bJ2 (.slice 5 (.int .u8)) aC)) 1 (.Z 14)),(aJ (.bJ2 tI (.bJ2 (.slice 5 (.int .u8)) aC)) 2 (.Z 14)),(aR (.bJ2 tI (.bJ2 (.slice 5 (.int .u8)) aC)) 3 (.Z 14)),(.Z 12),(.Z 17)])) (
    .bJ3 (.ar .add .i64) (.bJ4 tI tI (.p1 tI (.bJ2 (.slice 5 (.int .u8)) (.bJ2 tI (.bJ2 tI (.bJ2 cB aB)))) (.Z 7)) (.ci .i64 1)) <|
    .bJ5 0 (bJ (.bJ2 tI (.bJ2 (.slice 5 (.int .u8)) (.bJ2 tI (.bJ2 tI (.bJ2 cB aB))))) [(.Z 14),(aJ (.bJ2 .bool (.bJ2 (.slice 5 (.int .u8)) aC)) 1 (.Z 10)),(aJ (.bJ2 .bool (.bJ2 (.slice 5 (.int .u8)) aC)) 2 (.Z 10)),(aR (.bJ2 .bool (.bJ2 (.slice 5 (.int .u8)) aC)) 3 (.Z 10)),(.Z 12),(aR (.bJ2 tI (.bJ2 (.slice 5 (.int .u8)) (.bJ2 tI (.bJ2 tI (.bJ2 cB aB))))) 5 (.Z 7))]))) (
   .loop (.bJ2 tI (.bJ2 (.slice 5 (.int .u8)) (.bJ2 tI aI))) (bJ (.bJ2 tI (.bJ2 (.slice 5 (.int .u8)) (.bJ2 tI aI))) [(.ci .i64 0),(aJ (.bJ2 tI (.bJ2 (.slice 5 (.int .u8)) (.bJ2 tI (.bJ2 tI (.bJ2 cB aB))))) 1 (.Z 7)),(aJ (.bJ2 tI (.bJ2 (.slice 5 (.int .u8)) (.bJ2 tI (.bJ2 tI (.bJ2 cB aB))))) 2 (.Z 7)),(aJ (.bJ2 tI (.bJ2 (.slice 5 (.int .u8)) (.bJ2 tI (.bJ2 tI (.bJ2 cB aB))))) 3 (.Z 7)),(.nl 3 tI)]) <|
    .bJ3 (.bJ6 3 tI) (.p1 aB (.bJ2 (.slice 5 (.int .u8)) aC) (.Z 2)) <|
    .bJ3 (.cmp .leq .i64) (.bJ4 tI tI (.p1 tI (.bJ2 (.slice 5 (.int .u8)) (.bJ2 tI aI)) (.Z 10)) (.Z 11)) <|
    .ite (.Z 12) (
     .bJ3 (.bJ6 67 aQ) (.p1 aF (.bJ2 (.slice 5 (.int .u8)) aC) (.Z 6)) <|
     .call 5 (bJ (.bJ2 aE aC) [(bJ aE [(.p1 aD (.bJ2 (.slice 5 (.int .u8)) aC) (.Z 1)),(.p1 aB (.bJ2 (.slice 5 (.int .u8)) aC) (.Z 2)),(.Z 4),(aJ (.bJ2 tI (.bJ2 (.slice 5 (.int .u8)) (.bJ2 tI (.bJ2 tI (.bJ2 cB aB))))) 4 (.Z 7)),(aR (.bJ2 tI (.bJ2 (.slice 5 (.int .u8)) (.bJ2 tI (.bJ2 tI (.bJ2 cB aB))))) 5 (.Z 7)),(aR (.bJ2 tI (.bJ2 (.slice 5 (.int .u8)) (.bJ2 tI aI))) 4 (.Z 10))]),(.p1 tI (.bJ2 (.slice 5 (.int .u8)) (.bJ2 tI aI)) (.Z 10)),(.Z 13)]) <|
     .bJ3 (.lit 3 tI 3) (bJ (.bJ2 tI aC) [(.ci .i64 0),(.ci .i64 0),(.ci .i64 7)]) <|
     .call 6 (.bJ4 (.bJ2 (.slice 5 (.int .u8)) aC) aB (bJ (.bJ2 (.slice 5 (.int .u8)) aC) [(aJ (.bJ2 tI (.bJ2 (.slice 5 (.int .u8)) (.bJ2 tI aI))) 1 (.Z 10)),(aJ (.bJ2 tI (.bJ2 (.slice 5 (.int .u8)) (.bJ2 tI aI))) 2 (.Z 10)),(aJ (.bJ2 tI (.bJ2 (.slice 5 (.int .u8)) (.bJ2 tI aI))) 3 (.Z 10))]) (.Z 15)) <|
     .bJ3 (.ar .add .i64) (.bJ4 tI tI (.Z 14) (.p1 tI (.bJ2 (.slice 5 (.int .u8)) aC) (.Z 16))) <|
     .bJ3 (.lit 3 tI 1) (.Z 17) <|
     .bJ3 (.bJ9 3 tI 8) (.bJ4 aB aB (aR (.bJ2 tI (.bJ2 (.slice 5 (.int .u8)) (.bJ2 tI aI))) 4 (.Z 10)) (.Z 18)) <|
     .bJ3 (.ar .add .i64) (.bJ4 tI tI (.p1 tI (.bJ2 (.slice 5 (.int .u8)) (.bJ2 tI aI)) (.Z 10)) (.ci .i64 1)) <|
     .bJ5 0 (bJ (.bJ2 tI (.bJ2 (.slice 5 (.int .u8)) (.bJ2 tI aI))) [(.Z 20),(aJ (.bJ2 tI (.bJ2 (.slice 5 (.int .u8)) aC)) 1 (.Z 16)),(aJ (.bJ2 tI (.bJ2 (.slice 5 (.int .u8)) aC)) 2 (.Z 16)),(aR (.bJ2 tI (.bJ2 (.slice 5 (.int .u8)) aC)) 3 (.Z 16)),(.Z 19)])) (
     .ret (bJ (.bJ2 aE (.bJ2 aF (.bJ2 (.slice 5 (.int .u8)) aC))) [(bJ aE [(.p1 aD (.bJ2 (.slice 5 (.int .u8)) aC) (.Z 1)),(.p1 aB (.bJ2 (.slice 5 (.int .u8)) aC) (.Z 2)),(.Z 4),(aJ (.bJ2 tI (.bJ2 (.slice 5 (.int .u8)) (.bJ2 tI (.bJ2 tI (.bJ2 cB aB))))) 4 (.Z 7)),(aR (.bJ2 tI (.bJ2 (.slice 5 (.int .u8)) (.bJ2 tI (.bJ2 tI (.bJ2 cB aB))))) 5 (.Z 7)),(aR (.bJ2 tI (.bJ2 (.slice 5 (.int .u8)) (.bJ2 tI aI))) 4 (.Z 10))]),(.p1 aF (.bJ2 (.slice 5 (.int .u8)) aC) (.Z 6)),(aJ (.bJ2 tI (.bJ2 (.slice 5 (.int .u8)) (.bJ2 tI aI))) 1 (.Z 10)),(aJ (.bJ2 tI (.bJ2 (.slice 5 (.int .u8)) (.bJ2 tI aI))) 2 (.Z 10)),(aJ (.bJ2 tI (.bJ2 (.slice 5 (.int .u8)) (.bJ2 tI aI))) 3 (.Z 10))])))
theorem aJH (f:(aL)→(bK × (bS × aL))):bV Tryz.prog [iV,vB,bG,iZ,gN,jK,cC] { rJ with fn:=f } false 3000 ⟨[(2987,1007,mW 21 16++[.dr 14,.dr 13,.dr 11,.dr 15,.dr 12,.dr 4,.dr 10,.dr 9,.tm 7 0,.bx 1 0,.bx 1 1,.bx 1 2,.sl 18,.sl 19]),(2977,2010,mW 26 22++[.dr 7,.tm 8 0,.bx 1 0,.bx 1 1,.bx 1 2,.sl 20])],[(2994,1002,[],[8]),(2969,6013,[61],[])]⟩ = .ok rU:=by kernel_rfl
theorem aJ7 (x:aL) (hx:okD (.bJ2 (.slice 5 (.int .u8)) aC) x) (hp:(fun x=>0≤x.2.1) x):rU.wp [iV,vB,bG,iZ,gN,jK,cC] [⟨(.bJ2 (.slice 5 (.int .u8)) aC),x⟩] [] (fun v=>(fun x r=>(wM 6 3 4 r.1 r.2.1∧dH r.1 r.2.1=0)∧1≤r.1.2.2.2.1.length∧1≤r.1.2.2.2.2.2.length∧(∀ v∈r.1.2.2.2.2.2,0≤v∧v≤400)∧0≤r.2.2.2.1:(aL)→(bK × (bS × aL))→Prop) x (v.as (.bJ2 aE (.bJ2 aF (.bJ2 (.slice 5 (.int .u8)) aC))))):=by
 have q1:=aF5 x hx hp
 delta rU iV vB bG iZ gN jK cC;refine eE ?_
 refine eL ?_
 refine ⟨hp,fun _=>?_⟩
 generalize lD x=r at q1 ⊢;obtain ⟨m,c1⟩:=r;obtain ⟨k1,u1⟩:=q1;have km:=k1.1;replace k1:okD kA c1:=k1.2;dsimp only at u1 ⊢
 change List dE at m
 have hl6:List.length m≤6:=u1.2.1
 have hP:∀ o∈m,List.length o.2.2.2≤40:=fun o ho=>by have:=aWM (u1.2.2.1 o ho);omega
 refine ⟨⟨u1.2.2.2,by omega⟩,fun _=>?_⟩
 have q2:=aSQ (c1,m) ⟨k1,km⟩ ⟨u1.2.2.2,by show List.length m≤9;omega⟩
 generalize pJ (c1,m)=r at q2 ⊢;obtain ⟨cuts,c2⟩:=r;obtain ⟨k2,u2⟩:=q2;replace k2:okD kA c2:=k2.2;dsimp only at u2 ⊢
 change List Int at cuts
 have hc3:List.length cuts≤3:=u2.1.1
 have hmB:bT m=true:=u1.1.2
 have hcB:jY m cuts=true:=(tJ m cuts).2 ⟨hmB,u2.1.2⟩
 refine ⟨u2.2,fun _=>?_⟩
 have q3:=cA (c2,2) ⟨k2,okI (by omega) (by omega)⟩ u2.2
 generalize bU (c2,2)=r at q3 ⊢;obtain ⟨d,c3⟩:=r;obtain ⟨k3,u3⟩:=q3;replace k3:okD kA c3:=k3.2;dsimp only at u3 ⊢
 have hd:0≤d∧d<2:=⟨u3.1,u3.2.1 (by decide)⟩
 refine ⟨by omega,fun _=>⟨u3.2.2.2,fun _=>?_⟩⟩
 have q4:=aEW (c3,m) ⟨k3,km⟩ u3.2.2.2
 generalize kZ (c3,m)=r at q4 ⊢;obtain ⟨b,c4⟩:=r;obtain ⟨k4,u4⟩:=q4;replace k4:okD kA c4:=k4.2;dsimp only at u4 ⊢
 change List cI at b
 have hb4:List.length b≤4:=u4.2.1
 have hbv:∀ p∈b,List.length p.1≤7∧List.length p.2≤7:=fun p hp=>by have:=u4.2.2.1 p hp;omega
 have hc4:=u4.2.2.2
 have hbB:dY m b=true:=u4.1.2 hmB
 clear u4 u3 u2 u1
 refine ⟨fun s=>@LE.le Int _ 0 s.1∧@LE.le Int _ s.1 ((List.length cuts:Int)+1)∧((List.length s.2.2.2.2.1:Nat):Int)=s.1∧(((List.length s.2.2.2.2.2:Nat):Int)=max 0 (s.1 - 1:Int)∧∀ v∈s.2.2.2.2.2,@LE.le Int _ 1 v∧@LE.le Int _ v 5)∧@LE.le Int _ 0 s.2.2.1,fun s=>(20 - s.1:Int).toNat,⟨Int.le_refl _,by show (0:Int)≤_;omega,rfl,⟨rfl,fun v hv=>by cases hv⟩,hc4⟩,fun s hs hI=>?_⟩
 obtain ⟨s,bf,i,h,rd,cp⟩:=s
 obtain ⟨e1,e2,e3,⟨e4,e6⟩,e5⟩:=hI
 change Int at s
 change List Bool at rd
 change List Int at cp
 change (0:Int)≤s at e1
 change s≤(List.length cuts:Int)+1 at e2
 change ((List.length rd:Nat):Int)=s at e3
 change ((List.length cp:Nat):Int)=max 0 (s - 1) at e4
 change ∀ v∈cp,1≤v∧v≤5 at e6
 change 0≤(i:Int) at e5
 have kq:okD kA (bf,i,h):=⟨hs.2.1,hs.2.2.1,hs.2.2.2.1⟩
 try dsimp only
 refine fun _=>⟨fun hlt=>?_,fun hge=>?_⟩
 ·have q5:=aBP ((bf,i,h),3) ⟨kq,okI (by omega) (by omega)⟩ e5
  refine ⟨e5,fun _=>?_⟩
  generalize kP ((bf,i,h),3)=r at q5 ⊢;obtain ⟨b5,c5⟩:=r;obtain ⟨k5,u5⟩:=q5;replace k5:okD kA c5:=k5.2;dsimp only at u5 ⊢
  have q6:=cA (c5,3) ⟨k5,okI (by omega) (by omega)⟩ u5
  generalize bU (c5,3)=r at q6 ⊢;obtain ⟨n6,c6⟩:=r;obtain ⟨k6,u6⟩:=q6;dsimp only at u6 ⊢
  have hn6:0≤n6∧n6<3:=⟨u6.1,u6.2.1 (by decide)⟩
  have hc6:=u6.2.2.2
  clear u6
  have e7:∀ v∈cp++[1+n6],1≤v∧v≤5:=fun v hv=>by
   rcases List.mem_append.1 hv with hv|hv
   ·exact e6 v hv
   ·rw[List.mem_singleton] at hv;omega
  simp only[zO,List.length_append,List.length_cons,List.length_nil]
  (repeat' first|intro _|(with_reducible apply And.intro))
  all_goals first|omega|(unfold maxLen;omega)|exact u5|exact hc6|exact (e6 _ (by assumption)).1|exact (e6 _ (by assumption)).2|exact (e7 _ (by assumption)).1|exact (e7 _ (by assumption)).2|skip
 have hrd:List.length rd=List.length cuts+1:=by omega
 have hcp:List.length cp=List.length cuts:=by omega
 refine ⟨fun t=>@LE.le Int _ 0 t.1∧@LE.le Int _ t.1 ((List.length cuts:Int)+1)∧((List.length t.2.2.2.2:Nat):Int)=t.1∧((∀ v∈t.2.2.2.2,@LE.le Int _ 0 v∧@LE.le Int _ v 400)∧liB (m,cuts,1+d,rd,cp,[]) (List.length b:Int) t.2.2.2.2)∧@LE.le Int _ 0 t.2.2.1,fun t=>(20 - t.1:Int).toNat,⟨Int.le_refl _,by show (0:Int)≤_;omega,rfl,⟨fun v hv=>(by cases hv),fun k hk=>absurd hk (Nat.not_lt_zero _)⟩,e5⟩,fun t ht hJ=>?_⟩
 obtain ⟨t,bf,i,h,lm⟩:=t
 obtain ⟨g1,g2,g3,⟨g4,g8⟩,g5⟩:=hJ
 change Int at t
 change List Int at lm
 change (0:Int)≤t at g1
 change t≤(List.length cuts:Int)+1 at g2
 change ((List.length lm:Nat):Int)=t at g3
 change ∀ v∈lm,0≤v∧v≤400 at g4
 change liB (m,cuts,1+d,rd,cp,[]) (List.length b:Int) lm at g8
 change 0≤(i:Int) at g5
 have kq':okD kA (bf,i,h):=⟨ht.2.1,ht.2.2.1,ht.2.2.2.1⟩
 try dsimp only
 refine fun _=>⟨fun hlt=>?_,fun hge=>?_⟩
 ·refine fun _=>⟨⟨⟨by show List.length m≤_;omega,fun o ho=>by have:=hP o ho;omega⟩,by show List.length cuts≤_;omega,by show List.length rd≤_;omega,by show List.length cp≤_;omega,by show List.length lm≤_;omega⟩,fun _ hlit=>⟨⟨g5,by simp⟩,fun _=>?_⟩⟩
  have q7:=iK ((bf,i,h),[0,0,7]) ⟨kq',hlit⟩ ⟨g5,by simp⟩
  generalize fN ((bf,i,h),[0,0,7])=r at q7 ⊢;obtain ⟨n7,c7⟩:=r;obtain ⟨k7,u7⟩:=q7;dsimp only at u7 ⊢
  have hc7:=u7.2
  have hn7:0≤n7∧n7≤7:=by
   have:=u7.1
   simp only[List.mem_cons,List.not_mem_nil,or_false] at this
   omega
  have pb:=bHP (m,cuts,1+d,rd,cp,lm) t (b.length:Int)
  have g9:liB (m,cuts,1+d,rd,cp,[]) (List.length b:Int) (lm++[lX (m,cuts,1+d,rd,cp,lm) t (b.length:Int)+n7]):=bAN g8 (by rw[g3];show lX (m,cuts,1+d,rd,cp,lm) t (b.length:Int)≤_;omega) (by omega)
  generalize lX (m,cuts,1+d,rd,cp,lm) t (b.length:Int)=pk at pb g9 ⊢
  clear u7
  have g6:∀ v∈lm++[pk+n7],0≤v∧v≤400:=fun v hv=>by
   rcases List.mem_append.1 hv with hv|hv
   ·exact g4 v hv
   ·rw[List.mem_singleton] at hv;omega
  simp only[zO,List.length_append,List.length_cons,List.length_nil]
  (repeat' first|intro _|(with_reducible apply And.intro))
  all_goals first|omega|(unfold maxLen;omega)|exact hc7|exact (g6 _ (by assumption)).1|exact (g6 _ (by assumption)).2|exact g9|exact (g9 _ (by assumption)).1|exact (g9 _ (by assumption)).2|skip
 ·exact ⟨⟨⟨by show List.length m≤6;omega,hP,hc3,by show List.length rd≤4;omega,by show List.length cp≤3;omega,by show List.length lm≤4;omega,hb4,hbv⟩,bBA hmB hbB hcB hc3 (by omega) hrd hcp e6 (by omega) g8⟩,by show 1≤List.length rd;omega,by show 1≤List.length lm;omega,g4,g5⟩
theorem sJ:∃ f:(aL)→(bK × (bS × aL)),(∀ x,okD (.bJ2 (.slice 5 (.int .u8)) aC) x→(fun x=>0≤x.2.1) x→(fun x r=>(wM 6 3 4 r.1 r.2.1∧dH r.1 r.2.1=0)∧1≤r.1.2.2.2.1.length∧1≤r.1.2.2.2.2.2.length∧(∀ v∈r.1.2.2.2.2.2,0≤v∧v≤400)∧0≤r.2.2.2.1:(aL)→(bK × (bS × aL))→Prop) x (f x))∧Con.Holds Tryz.prog { rJ with fn:=f }:=gY (C:=rJ) aX (aG yE (aG aH3 (aG dV (aG xS (aG vA (aG aH1 (aG gM aT))))))) aJH (fun x r=>(wM 6 3 4 r.1 r.2.1∧dH r.1 r.2.1=0)∧1≤r.1.2.2.2.1.length∧1≤r.1.2.2.2.2.2.length∧(∀ v∈r.1.2.2.2.2.2,0≤v∧v≤400)∧0≤r.2.2.2.1:(aL)→(bK × (bS × aL))→Prop) aJ7
def kF:(aL)→(bK × (bS × aL)):=Classical.choose sJ
def mT:Con:=⟨37,(.bJ2 (.slice 5 (.int .u8)) aC),(.bJ2 aE (.bJ2 aF (.bJ2 (.slice 5 (.int .u8)) aC))),[.box 90 ⟨true,(.bJ2 (.slice 5 (.int .u8)) aC),[]⟩],[⟨true,aE,[1,2,0,2,2,2]⟩,⟨false,aF,[1]⟩],false,none,
 ((fun x=>0≤x.2.1):(aL)→Prop),
 ((kF):(aL)→(bK × (bS × aL)))⟩
theorem aJB:∀ x,okD (.bJ2 (.slice 5 (.int .u8)) aC) x→(fun x=>0≤x.2.1) x→(fun x r=>(wM 6 3 4 r.1 r.2.1∧dH r.1 r.2.1=0)∧1≤r.1.2.2.2.1.length∧1≤r.1.2.2.2.2.2.length∧(∀ v∈r.1.2.2.2.2.2,0≤v∧v≤400)∧0≤r.2.2.2.1:(aL)→(bK × (bS × aL))→Prop) x (kF x):=(Classical.choose_spec sJ).1
theorem aA5:Con.Holds Tryz.prog mT:=(Classical.choose_spec sJ).2
theorem aJM (x:aL) (hx:okD (.bJ2 (.slice 5 (.int .u8)) aC) x) (hp:(fun x=>0≤x.2.1) x):okD (.bJ2 aE (.bJ2 aF (.bJ2 (.slice 5 (.int .u8)) aC))) (kF x)∧(fun x r=>(wM 6 3 4 r.1 r.2.1∧dH r.1 r.2.1=0)∧1≤r.1.2.2.2.1.length∧1≤r.1.2.2.2.2.2.length∧(∀ v∈r.1.2.2.2.2.2,0≤v∧v≤400)∧0≤r.2.2.2.1:(aL)→(bK × (bS × aL))→Prop) x (kF x):=⟨aA5.ok x hp hx,aJB x hx hp⟩
def aB2:Con:=⟨17,(.bJ2 (.slice 5 (.int .u8)) aC),(.bJ2 aE (.bJ2 aF (.bJ2 (.slice 5 (.int .u8)) aC))),[.box 90 ⟨true,(.bJ2 (.slice 5 (.int .u8)) aC),[]⟩],[⟨true,aE,[0,0,0,0,0,0]⟩,⟨false,aF,[0]⟩],false,none,
 ((fun x=>0≤x.2.1):(aL)→Prop),
 ((fun _=>aS (.bJ2 aE (.bJ2 aF (.bJ2 (.slice 5 (.int .u8)) aC)))):(aL)→(bK × (bS × aL)))⟩
def aAE:T:=.call 0 (.Z 0) <|.call 1 (.bJ4 (.bJ2 (.slice 5 (.int .u8)) aC) tI (aR (.bJ2 aE (.bJ2 aF (.bJ2 (.slice 5 (.int .u8)) aC))) 2 (.Z 1)) (.ci .i64 16)) <|
 .bJ3 (.cmp .eql .i64) (.bJ4 tI tI (.p1 tI (.bJ2 (.slice 5 (.int .u8)) aC) (.Z 2)) (.ci .i64 0)) <|
 .ite (.Z 3) (
  .call 2 (aR (.bJ2 tI (.bJ2 (.slice 5 (.int .u8)) aC)) 1 (.Z 2)) <|
  .ret (bJ (.bJ2 aE (.bJ2 aF (.bJ2 (.slice 5 (.int .u8)) aC))) [(.bJ4 aD (.bJ2 aB (.bJ2 tI (.bJ2 cB aQ))) (.p1 aD (.bJ2 (.slice 5 (.int .u8)) aC) (.Z 4)) (aR aE 1 (.p1 aE (.bJ2 aF (.bJ2 (.slice 5 (.int .u8)) aC)) (.Z 1)))),(aJ (.bJ2 aE (.bJ2 aF (.bJ2 (.slice 5 (.int .u8)) aC))) 1 (.Z 1)),(aR (.bJ2 aD (.bJ2 (.slice 5 (.int .u8)) aC)) 1 (.Z 4))])) (
  .bJ3 (.cmp .eql .i64) (.bJ4 tI tI (.p1 tI (.bJ2 (.slice 5 (.int .u8)) aC) (.Z 2)) (.ci .i64 1)) <|
  .ite (.Z 4) (
   .call 1 (.bJ4 (.bJ2 (.slice 5 (.int .u8)) aC) tI (aR (.bJ2 tI (.bJ2 (.slice 5 (.int .u8)) aC)) 1 (.Z 2)) (.ci .i64 8)) <|
   .bJ3 (.lit 3 tI 1) (.p1 tI (.bJ2 (.slice 5 (.int .u8)) aC) (.Z 5)) <|
   .bJ3 (.bJ9 3 tI 8) (.bJ4 aB aB (aJ aE 1 (.p1 aE (.bJ2 aF (.bJ2 (.slice 5 (.int .u8)) aC)) (.Z 1))) (.Z 6)) <|
   .ret (bJ (.bJ2 aE (.bJ2 aF (.bJ2 (.slice 5 (.int .u8)) aC))) [(bJ aE [(.p1 aD (.bJ2 aB (.bJ2 tI (.bJ2 cB aQ))) (.p1 aE (.bJ2 aF (.bJ2 (.slice 5 (.int .u8)) aC)) (.Z 1))),(.Z 7),(aR aE 2 (.p1 aE (.bJ2 aF (.bJ2 (.slice 5 (.int .u8)) aC)) (.Z 1)))]),(aJ (.bJ2 aE (.bJ2 aF (.bJ2 (.slice 5 (.int .u8)) aC))) 1 (.Z 1)),(aR (.bJ2 tI (.bJ2 (.slice 5 (.int .u8)) aC)) 1 (.Z 5))])) (
   .bJ3 (.cmp .eql .i64) (.bJ4 tI tI (.p1 tI (.bJ2 (.slice 5 (.int .u8)) aC) (.Z 2)) (.ci .i64 2)) <|
   .ite (.Z 5) (
    .bJ3 (.lit 3 tI 2) (.bJ4 tI tI (.ci .i64 0) (.ci .i64 3)) <|
    .call 3 (.bJ4 (.bJ2 (.slice 5 (.int .u8)) aC) aB (aR (.bJ2 tI (.bJ2 (.slice 5 (.int .u8)) aC)) 1 (.Z 2)) (.Z 6)) <|
    .ret (bJ (.bJ2 aE (.bJ2 aF (.bJ2 (.slice 5 (.int .u8)) aC))) [(bJ aE [(.p1 aD (.bJ2 aB (.bJ2 tI (.bJ2 cB aQ))) (.p1 aE (.bJ2 aF (.bJ2 (.slice 5 (.int .u8)) aC)) (.Z 1))),(aJ aE 1 (.p1 aE (.bJ2 aF (.bJ2 (.slice 5 (.int .u8)) aC)) (.Z 1))),(.p1 tI (.bJ2 (.slice 5 (.int .u8)) aC) (.Z 7)),(aR aE 3 (.p1 aE (.bJ2 aF (.bJ2 (.slice 5 (.int .u8)) aC)) (.Z 1)))]),(aJ (.bJ2 aE (.bJ2 aF (.bJ2 (.slice 5 (.int .u8)) aC))) 1 (.Z 1)),(aR (.bJ2 tI (.bJ2 (.slice 5 (.int .u8)) aC)) 1 (.Z 7))])) (
    .bJ3 (.cmp .eql .i64) (.bJ4 tI tI (.p1 tI (.bJ2 (.slice 5 (.int .u8)) aC) (.Z 2)) (.ci .i64 3)) <|
    .ite (.Z 6) (
     .bJ3 (.bJ6 4 .bool) (aJ aE 3 (.p1 aE (.bJ2 aF (.bJ2 (.slice 5 (.int .u8)) aC)) (.Z 1))) <|
     .bJ3 (.ar .sub .i64) (.bJ4 tI tI (.Z 7) (.ci .i64 1)) <|
     .bJ3 (.bJ8 4 .bool) (bJ (.bJ2 cB aC) [(aJ aE 3 (.p1 aE (.bJ2 aF (.bJ2 (.slice 5 (.int .u8)) aC)) (.Z 1))),(.ci .i64 0),(.Z 8)]) <|
     .ret (bJ (.bJ2 aE (.bJ2 aF (.bJ2 (.slice 5 (.int .u8)) aC))) [(bJ aE [(.p1 aD (.bJ2 aB (.bJ2 tI (.bJ2 cB aQ))) (.p1 aE (.bJ2 aF (.bJ2 (.slice 5 (.int .u8)) aC)) (.Z 1))),(aJ aE 1 (.p1 aE (.bJ2 aF (.bJ2 (.slice 5 (.int .u8)) aC)) (.Z 1))),(aJ aE 2 (.p1 aE (.bJ2 aF (.bJ2 (.slice 5 (.int .u8)) aC)) (.Z 1))),(.Z 9),(aR aE 4 (.p1 aE (.bJ2 aF (.bJ2 (.slice 5 (.int .u8)) aC)) (.Z 1)))]),(aJ (.bJ2 aE (.bJ2 aF (.bJ2 (.slice 5 (.int .u8)) aC))) 1 (.Z 1)),(aR (.bJ2 tI (.bJ2 (.slice 5 (.int .u8)) aC)) 1 (.Z 2))])) (
     .bJ3 (.cmp .eql .i64) (.bJ4 tI tI (.p1 tI (.bJ2 (.slice 5 (.int .u8)) aC) (.Z 2)) (.ci .i64 4)) <|
     .ite (.Z 7) (
      .bJ3 (.bJ6 3 tI) (aJ aE 4 (.p1 aE (.bJ2 aF (.bJ2 (.slice 5 (.int .u8)) aC)) (.Z 1))) <|
      .bJ3 (.cmp .gtr .i64) (.bJ4 tI tI (.Z 8) (.ci .i64 0)) <|
      .ite (.Z 9) (
       .bJ3 (.lit 3 tI 3) (bJ (.bJ2 tI aC) [(.ci .i64 0),(.ci .i64 5),(.ci .i64 6)]) <|
       .call 3 (.bJ4 (.bJ2 (.slice 5 (.int .u8)) aC) aB (aR (.bJ2 tI (.bJ2 (.slice 5 (.int .u8)) aC)) 1 (.Z 2)) (.Z 10)) <|
       .bJ3 (.bJ7 3 tI) (.bJ4 aB tI (aJ aE 4 (.p1 aE (.bJ2 aF (.bJ2 (.slice 5 (.int .u8)) aC)) (.Z 1))) (.ci .i64 0)) <|
       .bJ3 (.bJA 3 tI) (bJ (.bJ2 aB aC) [(aJ aE 4 (.p1 aE (.bJ2 aF (.bJ2 (.slice 5 (.int .u8)) aC)) (.Z 1))),(.ci .i64 0),(.p1 tI (.bJ2 (.slice 5 (.int .u8)) aC) (.Z 11))]) <|
       .ret (bJ (.bJ2 aE (.bJ2 aF (.bJ2 (.slice 5 (.int .u8)) aC))) [(bJ aE [(.p1 aD (.bJ2 aB (.bJ2 tI (.bJ2 cB aQ))) (.p1 aE (.bJ2 aF (.bJ2 (.slice 5 (.int .u8)) aC)) (.Z 1))),(aJ aE 1 (.p1 aE (.bJ2 aF (.bJ2 (.slice 5 (.int .u8)) aC)) (.Z 1))),(aJ aE 2 (.p1 aE (.bJ2 aF (.bJ2 (.slice 5 (.int .u8)) aC)) (.Z 1))),(aJ aE 3 (.p1 aE (.bJ2 aF (.bJ2 (.slice 5 (.int .u8)) aC)) (.Z 1))),(.Z 13),(aR aE 5 (.p1 aE (.bJ2 aF (.bJ2 (.slice 5 (.int .u8)) aC)) (.Z 1)))]),(aJ (.bJ2 aE (.bJ2 aF (.bJ2 (.slice 5 (.int .u8)) aC))) 1 (.Z 1)),(aR (.bJ2 tI (.bJ2 (.slice 5 (.int .u8)) aC)) 1 (.Z 11))])) (
       .ret (bJ (.bJ2 aE (.bJ2 aF (.bJ2 (.slice 5 (.int .u8)) aC))) [(.p1 aE (.bJ2 aF (.bJ2 (.slice 5 (.int .u8)) aC)) (.Z 1)),(aJ (.bJ2 aE (.bJ2 aF (.bJ2 (.slice 5 (.int .u8)) aC))) 1 (.Z 1)),(aR (.bJ2 tI (.bJ2 (.slice 5 (.int .u8)) aC)) 1 (.Z 2))]))) (
      .bJ3 (.cmp .eql .i64) (.bJ4 tI tI (.p1 tI (.bJ2 (.slice 5 (.int .u8)) aC) (.Z 2)) (.ci .i64 5)) <|
      .ite (.Z 8) (
       .bJ3 (.bJ7 3 tI) (.bJ4 aB tI (aR aE 5 (.p1 aE (.bJ2 aF (.bJ2 (.slice 5 (.int .u8)) aC)) (.Z 1))) (.ci .i64 0)) <|
       .bJ3 (.bJ7 3 tI) (.bJ4 aB tI (aR aE 5 (.p1 aE (.bJ2 aF (.bJ2 (.slice 5 (.int .u8)) aC)) (.Z 1))) (.ci .i64 0)) <|
       .bJ3 (.ar .sub .i64) (.bJ4 tI tI (.Z 10) (.ci .i64 1)) <|
       .bJ3 (.lit 3 tI 4) (bJ (.bJ2 tI (.bJ2 tI aC)) [(.Z 11),(.ci .i64 100000),(.ci .i64 100001),(.ci .i64 0)]) <|
       .call 3 (.bJ4 (.bJ2 (.slice 5 (.int .u8)) aC) aB (aR (.bJ2 tI (.bJ2 (.slice 5 (.int .u8)) aC)) 1 (.Z 2)) (.Z 12)) <|
       .bJ3 (.bJ7 3 tI) (.bJ4 aB tI (aR aE 5 (.p1 aE (.bJ2 aF (.bJ2 (.slice 5 (.int .u8)) aC)) (.Z 1))) (.ci .i64 0)) <|
       .bJ3 (.bJA 3 tI) (bJ (.bJ2 aB aC) [(aR aE 5 (.p1 aE (.bJ2 aF (.bJ2 (.slice 5 (.int .u8)) aC)) (.Z 1))),(.ci .i64 0),(.p1 tI (.bJ2 (.slice 5 (.int .u8)) aC) (.Z 13))]) <|
       .ret (bJ (.bJ2 aE (.bJ2 aF (.bJ2 (.slice 5 (.int .u8)) aC))) [(bJ aE [(.p1 aD (.bJ2 aB (.bJ2 tI (.bJ2 cB aQ))) (.p1 aE (.bJ2 aF (.bJ2 (.slice 5 (.int .u8)) aC)) (.Z 1))),(aJ aE 1 (.p1 aE (.bJ2 aF (.bJ2 (.slice 5 (.int .u8)) aC)) (.Z 1))),(aJ aE 2 (.p1 aE (.bJ2 aF (.bJ2 (.slice 5 (.int .u8)) aC)) (.Z 1))),(aJ aE 3 (.p1 aE (.bJ2 aF (.bJ2 (.slice 5 (.int .u8)) aC)) (.Z 1))),(aJ aE 4 (.p1 aE (.bJ2 aF (.bJ2 (.slice 5 (.int .u8)) aC)) (.Z 1))),(.Z 15)]),(aJ (.bJ2 aE (.bJ2 aF (.bJ2 (.slice 5 (.int .u8)) aC))) 1 (.Z 1)),(aR (.bJ2 tI (.bJ2 (.slice 5 (.int .u8)) aC)) 1 (.Z 13))])) (
       .bJ3 (.cmp .eql .i64) (.bJ4 tI tI (.p1 tI (.bJ2 (.slice 5 (.int .u8)) aC) (.Z 2)) (.ci .i64 6)) <|
       .ite (.Z 9) (
        .call 4 (.bJ4 (.bJ2 (.slice 5 (.int .u8)) aC) aD (aR (.bJ2 tI (.bJ2 (.slice 5 (.int .u8)) aC)) 1 (.Z 2)) (.p1 aD (.bJ2 aB (.bJ2 tI (.bJ2 cB aQ))) (.p1 aE (.bJ2 aF (.bJ2 (.slice 5 (.int .u8)) aC)) (.Z 1)))) <|
        .ret (.bJ4 aE (.bJ2 aF (.bJ2 (.slice 5 (.int .u8)) aC)) (.p1 aE (.bJ2 aF (.bJ2 (.slice 5 (.int .u8)) aC)) (.Z 1)) (.Z 10))) (
        .bJ3 (.cmp .eql .i64) (.bJ4 tI tI (.p1 tI (.bJ2 (.slice 5 (.int .u8)) aC) (.Z 2)) (.ci .i64 7)) <|
        .ite (.Z 10) (
         .bJ3 (.bJ6 3 tI) (aR aE 5 (.p1 aE (.bJ2 aF (.bJ2 (.slice 5 (.int .u8)) aC)) (.Z 1))) <|
         .bJ3 (.bJ8 3 tI) (bJ (.bJ2 aB aC) [(aR aE 5 (.p1 aE (.bJ2 aF (.bJ2 (.slice 5 (.int .u8)) aC)) (.Z 1))),(.ci .i64 1),(.Z 11)]) <|
         .ret (bJ (.bJ2 aE (.bJ2 aF (.bJ2 (.slice 5 (.int .u8)) aC))) [(bJ aE [(.p1 aD (.bJ2 aB (.bJ2 tI (.bJ2 cB aQ))) (.p1 aE (.bJ2 aF (.bJ2 (.slice 5 (.int .u8)) aC)) (.Z 1))),(aJ aE 1 (.p1 aE (.bJ2 aF (.bJ2 (.slice 5 (.int .u8)) aC)) (.Z 1))),(aJ aE 2 (.p1 aE (.bJ2 aF (.bJ2 (.slice 5 (.int .u8)) aC)) (.Z 1))),(aJ aE 3 (.p1 aE (.bJ2 aF (.bJ2 (.slice 5 (.int .u8)) aC)) (.Z 1))),(aJ aE 4 (.p1 aE (.bJ2 aF (.bJ2 (.slice 5 (.int .u8)) aC)) (.Z 1))),(.Z 12)]),(aJ (.bJ2 aE (.bJ2 aF (.bJ2 (.slice 5 (.int .u8)) aC))) 1 (.Z 1)),(aR (.bJ2 tI (.bJ2 (.slice 5 (.int .u8)) aC)) 1 (.Z 2))])) (
         .ret (bJ (.bJ2 aE (.bJ2 aF (.bJ2 (.slice 5 (.int .u8)) aC))) [(.p1 aE (.bJ2 aF (.bJ2 (.slice 5 (.int .u8)) aC)) (.Z 1)),(aJ (.bJ2 aE (.bJ2 aF (.bJ2 (.slice 5 (.int .u8)) aC))) 1 (.Z 1)),(aR (.bJ2 tI (.bJ2 (.slice 5 (.int .u8)) aC)) 1 (.Z 2))])))))))))
theorem aSZ (f:(aL)→(bK × (bS × aL))):bV Tryz.prog [mT,bG,zA,cC,lG] { aB2 with fn:=f } false 3000 ⟨[],[(2982,12006,[30],[]),(2979,24007,[],[10]),(2973,112010,[52],[]),(2973,96009,[65],[]),(2967,384011,[],[12])]⟩ = .ok aAE:=by kernel_rfl
theorem aT2 (x:aL) (hx:okD (.bJ2 (.slice 5 (.int .u8)) aC) x) (hp:(fun x=>0≤x.2.1) x):aAE.wp [mT,bG,zA,cC,lG] [⟨(.bJ2 (.slice 5 (.int .u8)) aC),x⟩] [] (fun v=>(fun x r=>wM 9 4 6 r.1 r.2.1:(aL)→(bK × (bS × aL))→Prop) x (v.as (.bJ2 aE (.bJ2 aF (.bJ2 (.slice 5 (.int .u8)) aC))))):=by
 have q1:=aJM x hx hp
 delta aAE mT bG zA cC lG;refine eE ?_
 refine eL ?_
 refine ⟨hp,fun _=>?_⟩
 generalize kF x=r at q1 ⊢;obtain ⟨c,b,c1⟩:=r;obtain ⟨k1,u1⟩:=q1;have kc:=k1.1;replace k1:okD kA c1:=k1.2.2;dsimp only at u1 ⊢
 obtain ⟨m,cuts,d,rd,cp,lm⟩:=c
 obtain ⟨⟨⟨h1,h2,h3,h4,h5,h6,h7,h8⟩,_⟩,w1,w2,w3,w4⟩:=u1
 change List dE at m
 change List Int at cuts
 change List Bool at rd
 change List Int at cp
 change List Int at lm
 change List cI at b
 dsimp only at *
 have q2:=cA (c1,16) ⟨k1,okI (by omega) (by omega)⟩ w4
 refine ⟨w4,fun _=>?_⟩
 generalize bU (c1,16)=r at q2 ⊢;obtain ⟨n2,c2⟩:=r;obtain ⟨k2,u2⟩:=q2;replace k2:okD kA c2:=k2.2;dsimp only at u2 ⊢
 have hc2:=u2.2.2.2
 have q3:=(aZ1 c2 k2 hc2).2
 have q4:=(aGK (c2,m) ⟨k2,kc.1⟩ hc2).2
 generalize sV c2=r3 at q3 ⊢
 generalize iX (c2,m)=r4 at q4 ⊢
 obtain ⟨m3,c3⟩:=r3
 obtain ⟨b4,c4⟩:=r4
 clear u2
 dsimp only at q3 q4
 have hl0:0≤lm.getD 0 (aS tI)∧lm.getD 0 (aS tI)≤400:=by
  cases lm with
  | nil=>exact absurd w2 (by simp)
  | cons v l=>exact w3 v (by simp)
 (repeat' first|intro _|(with_reducible apply And.intro))
 all_goals first|omega|(unfold maxLen;omega)|exact hc2|(rename_i hh;cases hh;done)|skip
 all_goals try (unfold wM;refine ⟨?_,?_,?_,?_,?_,?_,?_,?_⟩ <;> (try dsimp only) <;> first|assumption|omega|exact q3.2.1|exact q4.2.1|(simp only[List.length_append,List.length_set,List.length_take,List.length_drop,List.length_cons,List.length_nil];omega))
theorem aAA:∃ f:(aL)→(bK × (bS × aL)),(∀ x,okD (.bJ2 (.slice 5 (.int .u8)) aC) x→(fun x=>0≤x.2.1) x→(fun x r=>wM 9 4 6 r.1 r.2.1:(aL)→(bK × (bS × aL))→Prop) x (f x))∧Con.Holds Tryz.prog { aB2 with fn:=f }:=gY (C:=aB2) aX (aG aA5 (aG dV (aG aLC (aG gM (aG wA aT))))) aSZ (fun x r=>wM 9 4 6 r.1 r.2.1:(aL)→(bK × (bS × aL))→Prop) aT2
def vD:(aL)→(bK × (bS × aL)):=Classical.choose aAA
def uC:Con:=⟨17,(.bJ2 (.slice 5 (.int .u8)) aC),(.bJ2 aE (.bJ2 aF (.bJ2 (.slice 5 (.int .u8)) aC))),[.box 90 ⟨true,(.bJ2 (.slice 5 (.int .u8)) aC),[]⟩],[⟨true,aE,[0,0,0,0,0,0]⟩,⟨false,aF,[0]⟩],false,none,
 ((fun x=>0≤x.2.1):(aL)→Prop),
 ((vD):(aL)→(bK × (bS × aL)))⟩
theorem aSY:∀ x,okD (.bJ2 (.slice 5 (.int .u8)) aC) x→(fun x=>0≤x.2.1) x→(fun x r=>wM 9 4 6 r.1 r.2.1:(aL)→(bK × (bS × aL))→Prop) x (vD x):=(Classical.choose_spec aAA).1
theorem aIC:Con.Holds Tryz.prog uC:=(Classical.choose_spec aAA).2
theorem aTH (x:aL) (hx:okD (.bJ2 (.slice 5 (.int .u8)) aC) x) (hp:(fun x=>0≤x.2.1) x):okD (.bJ2 aE (.bJ2 aF (.bJ2 (.slice 5 (.int .u8)) aC))) (vD x)∧(fun x r=>wM 9 4 6 r.1 r.2.1:(aL)→(bK × (bS × aL))→Prop) x (vD x):=⟨aIC.ok x hp hx,aSY x hx hp⟩
end
end Go.Proofs.YtpleleanibgniaaGreat
