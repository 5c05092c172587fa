/- Draw1: lemmas. No conditions. -/
import Derived.Test.YtpleleanibgniaaGreatDrawC
import Derived.Test.YtpleleanibgniaaGreatLoop
import Derived.Test.YtpleleanibgniaaGreatSeq5
namespace Go.Proofs.YtpleleanibgniaaGreat
noncomputable section
set_option maxRecDepth 100000
open Go.ChangeShapes Go.WideShapes Go.ChangeAt Go.RowKit Go.Deep
set_option linter.unusedVariables false
set_option linter.unusedSimpArgs false
theorem aVR (x:Int):0≤aA2 .and .i64 x 255∧aA2 .and .i64 x 255≤255:=aPG (m:=255) (by decide)
theorem aLY {α:Type} {l:List α} (h:l.length≤maxLen):l.length≤9223372036854775807:=by unfold maxLen at h;omega
theorem tmB {a n:Int} (ha:0≤a) (hn:0<n):0≤a.tmod n∧a.tmod n<n:=by
 rw[Int.tmod_eq_emod_of_nonneg ha]
 exact ⟨Int.emod_nonneg _ (by omega),Int.emod_lt_of_pos _ hn⟩
theorem tdB {a p:Int} (h1:-600000≤a) (h2:a≤600000):-600000≤a.tdiv p∧a.tdiv p≤600000:=by
 have h:=Int.natAbs_tdiv a p
 have h3:=Nat.div_le_self a.natAbs p.natAbs
 have h4:a.natAbs.div p.natAbs=a.natAbs / p.natAbs:=rfl
 omega
theorem aW8 {m:aW} (h:bT m=true) {k:Nat} (hk:k<m.length):1≤m[k].2.1∧m[k].2.1≤6∧1≤m[k].2.2.1∧m[k].2.2.1≤6:=by
 have:=((bR m).1 h).2.2 k hk
 obtain ⟨⟨_,_,h1,h2,h3,h4,_⟩,_⟩:=(gG _).1 ((xB m hk).1 this).1
 exact ⟨h1,h2,h3,h4⟩
theorem bHT (m:aW):0≤jG m∧jG m≤6:=by
 unfold jG
 split
 ·rename_i h
  have hl:=(bR m).1 h
  have h0:0<m.length:=by omega
  have:=aW8 h h0
  rw[bD h0]
  omega
 ·omega
theorem bFT (m:aW):0≤fI m∧fI m≤6:=by
 unfold fI
 split
 ·rename_i h
  have hl:=(bR m).1 h
  have h0:List.length m - 1<m.length:=by omega
  have:=aW8 h h0
  rw[bD h0]
  omega
 ·omega
theorem bG7 {k i o:Int} (h1:1≤i) (h2:i≤6) (h3:1≤o) (h4:o≤6):0≤fG (k,i,o,[])∧fG (k,i,o,[])≤36:=by
 have:=aOS h1 h2 h3 h4
 unfold fG
 dsimp only
 repeat' split
 all_goals omega
theorem bBT {k i o:Int} {P:List Int} (k1:1≤k) (k5:k≤5) (h1:1≤i) (h2:i≤6) (h3:1≤o) (h4:o≤6) (hk:k≠1→i=o) (hl:P.length=(fG (k,i,o,[])).toNat) (ha:∀ v∈P,iI v=true):opB (k,i,o,P)=true:=by
 have hs:=bG7 (k:=k) h1 h2 h3 h4
 refine (gG _).2 ⟨⟨k1,k5,h1,h2,h3,h4,hk,?_⟩,List.all_eq_true.2 ha⟩
 show (P.length:Int)=fG (k,i,o,[])
 omega
def chB (l:List dE) (g:Int):Prop:=(∀ i,i<l.length→aHB l i=true)∧(0<l.length→(l.getD (l.length - 1) zOp).2.2.1=g)
theorem bD6 {l:List dE} {o:dE} {g:Int} (h:chB l g) (ho:opB o=true) (hi:o.2.1=g):chB (l++[o]) o.2.2.1:=by
 have e:∀ j,j<l.length→(l++[o]).getD j zOp=l.getD j zOp:=fun j hj=>by
  rw[List.getD_eq_getElem?_getD,List.getD_eq_getElem?_getD,List.getElem?_append_left hj]
 have e2:(l++[o]).getD l.length zOp=o:=by
  rw[List.getD_eq_getElem?_getD,List.getElem?_append_right (Nat.le_refl _),Nat.sub_self];rfl
 have el:(l++[o]).length=l.length+1:=by rw[List.length_append];rfl
 refine ⟨fun i hlt=>?_,fun _=>?_⟩
 ·rw[el] at hlt
  rcases Nat.lt_or_eq_of_le (Nat.le_of_lt_succ hlt) with h1|rfl
  ·have:=h.1 i h1
   unfold aHB at this ⊢
   rw[e i h1,e (i - 1) (by omega)];exact this
  ·unfold aHB
   rw[e2,ho]
   by_cases h0:l.length=0
   ·rw[decide_eq_true h0];rfl
   ·rw[e (l.length - 1) (by omega),h.2 (by omega),decide_eq_true (show g=o.2.1 from hi.symm),Bool.or_true];rfl
 ·rw[el,Nat.add_sub_cancel,e2]
theorem aVX {v:List Int} {n:Int} (h1:1≤n) (h6:n≤6) (hl:v.length=n.toNat) (ha:∀ x∈v,iI x=true):gC v n=true:=by
 unfold gC
 rw[(dB v).2 ⟨by omega,by omega,List.all_eq_true.2 ha⟩,decide_eq_true (show (v.length:Int)=n by omega)];rfl
theorem bH6 {m:aW} (h:bT m=true):1≤jG m∧1≤fI m:=by
 have hl:=(bR m).1 h
 unfold jG fI
 rw[if_pos h,if_pos h]
 have h0:=aW8 h (show 0<m.length by omega)
 have h9:=aW8 h (show m.length - 1<m.length by omega)
 rw[bD (show 0<m.length by omega),bD (show List.length m - 1<m.length by omega)]
 exact ⟨h0.1,h9.2.2.1⟩
theorem okI {n:Int} (h1:-9223372036854775808≤n) (h2:n≤9223372036854775807):okD tI n:=⟨h1,h2⟩
theorem okL {e:TypeId} {l:List Int} (hl:l.length≤1000) (h:∀ y∈l,-9223372036854775808≤y∧y≤9223372036854775807):okD (.slice e tI) l:=⟨by unfold maxLen;exact Nat.le_trans hl (by decide),h⟩
def aB9:Con:=⟨67,(.bJ2 (.slice 5 (.int .u8)) aC),(.bJ2 tI (.bJ2 (.slice 5 (.int .u8)) aC)),[.box 90 ⟨true,(.bJ2 (.slice 5 (.int .u8)) aC),[]⟩],[⟨false,tI,[0]⟩],false,none,
 ((fun x=>0≤x.2.1):(aL)→Prop),
 ((fun _=>aS (.bJ2 tI (.bJ2 (.slice 5 (.int .u8)) aC))):(aL)→(Int × aL))⟩
def aBR:T :=
 .bJ3 (.arw .mul .i64) (.bJ4 tI tI (aR (.bJ2 (.slice 5 (.int .u8)) aC) 2 (.Z 0)) (.ci .i64 6364136223846793005)) <|
 .bJ3 (.arw .add .i64) (.bJ4 tI tI (.Z 1) (.ci .i64 1442695040888963407)) <|
 .bJ3 (.shr .i64 .u64) (.bJ4 tI (.int .u64) (.Z 2) (.ci .u64 33)) <|
 .bJ3 (.shr .i64 .u64) (.bJ4 tI (.int .u64) (.Z 2) (.ci .u64 45)) <|
 .bJ3 (.bits .xor .i64) (.bJ4 tI tI (.Z 3) (.Z 4)) <|
 .bJ3 (.bits .and .i64) (.bJ4 tI tI (.Z 5) (.ci .i64 255)) <|
 .bJ3 (.bJ6 5 (.int .u8)) (.p1 (.slice 5 (.int .u8)) aC (.Z 0)) <|
 .bJ3 (.cmp .lss .i64) (.bJ4 tI tI (aJ (.bJ2 (.slice 5 (.int .u8)) aC) 1 (.Z 0)) (.Z 7)) <|
 .ite (.Z 8) (
  .bJ3 (.bJ7 5 (.int .u8)) (.bJ4 (.slice 5 (.int .u8)) tI (.p1 (.slice 5 (.int .u8)) aC (.Z 0)) (aJ (.bJ2 (.slice 5 (.int .u8)) aC) 1 (.Z 0))) <|
  .bJ3 (.conv .u8 .i64) (.Z 9) <|
  .bJ3 (.arw .add .i64) (.bJ4 tI tI (.Z 6) (.Z 10)) <|
  .bJ3 (.bits .and .i64) (.bJ4 tI tI (.Z 11) (.ci .i64 255)) <|
  .bJ3 (.arw .add .i64) (.bJ4 tI tI (aJ (.bJ2 (.slice 5 (.int .u8)) aC) 1 (.Z 0)) (.ci .i64 1)) <|
  .ret (bJ (.bJ2 tI (.bJ2 (.slice 5 (.int .u8)) aC)) [(.Z 12),(.p1 (.slice 5 (.int .u8)) aC (.Z 0)),(.Z 13),(.Z 2)])) (
  .ret (bJ (.bJ2 tI (.bJ2 (.slice 5 (.int .u8)) aC)) [(.Z 6),(.p1 (.slice 5 (.int .u8)) aC (.Z 0)),(aJ (.bJ2 (.slice 5 (.int .u8)) aC) 1 (.Z 0)),(.Z 2)]))
theorem aS0 (f:(aL)→(Int × aL)):bV Tryz.prog [] { aB9 with fn:=f } true 3000 ⟨[],[]⟩ = .ok aBR:=by kernel_rfl
theorem aV8 (x:aL) (hx:okD (.bJ2 (.slice 5 (.int .u8)) aC) x) (hp:(fun x=>0≤x.2.1) x):aBR.wp [] [⟨(.bJ2 (.slice 5 (.int .u8)) aC),x⟩] [] (fun v=>(fun x r=>0≤r.1∧r.1≤255∧0≤r.2.2.1:(aL)→(Int × aL)→Prop) x (v.as (.bJ2 tI (.bJ2 (.slice 5 (.int .u8)) aC)))):=by
 obtain ⟨b,i,h⟩:=x
 change 0≤i at hp
 have hb:b.length≤9223372036854775807:=aLY hx.1.1
 delta aBR;refine eE ?_
 (refine eL ?_;try with_reducible exact True.intro)
 (repeat' first|intro _|(with_reducible apply And.intro))
 all_goals first|omega|exact (aVR _).1|exact (aVR _).2|(rw[qV (by show (-9223372036854775808:Int)≤_∧_≤(9223372036854775807:Int);omega)];omega)
theorem aBE:∃ f:(aL)→(Int × aL),(∀ x,okD (.bJ2 (.slice 5 (.int .u8)) aC) x→(fun x=>0≤x.2.1) x→(fun x r=>0≤r.1∧r.1≤255∧0≤r.2.2.1:(aL)→(Int × aL)→Prop) x (f x))∧Con.Holds Tryz.prog { aB9 with fn:=f }:=gY (C:=aB9) aX aT aS0 (fun x r=>0≤r.1∧r.1≤255∧0≤r.2.2.1:(aL)→(Int × aL)→Prop) aV8
def uA:(aL)→(Int × aL):=Classical.choose aBE
def uU:Con:=⟨67,(.bJ2 (.slice 5 (.int .u8)) aC),(.bJ2 tI (.bJ2 (.slice 5 (.int .u8)) aC)),[.box 90 ⟨true,(.bJ2 (.slice 5 (.int .u8)) aC),[]⟩],[⟨false,tI,[0]⟩],false,none,
 ((fun x=>0≤x.2.1):(aL)→Prop),
 ((uA):(aL)→(Int × aL))⟩
theorem aSR:∀ x,okD (.bJ2 (.slice 5 (.int .u8)) aC) x→(fun x=>0≤x.2.1) x→(fun x r=>0≤r.1∧r.1≤255∧0≤r.2.2.1:(aL)→(Int × aL)→Prop) x (uA x):=(Classical.choose_spec aBE).1
theorem aIO:Con.Holds Tryz.prog uU:=(Classical.choose_spec aBE).2
theorem uM (x:aL) (hx:okD (.bJ2 (.slice 5 (.int .u8)) aC) x) (hp:(fun x=>0≤x.2.1) x):okD (.bJ2 tI (.bJ2 (.slice 5 (.int .u8)) aC)) (uA x)∧(fun x r=>0≤r.1∧r.1≤255∧0≤r.2.2.1:(aL)→(Int × aL)→Prop) x (uA x):=⟨aIO.ok x hp hx,aSR x hx hp⟩
def xJ:Con:=⟨38,(.bJ2 (.bJ2 (.slice 5 (.int .u8)) aC) tI),(.bJ2 tI (.bJ2 (.slice 5 (.int .u8)) aC)),[.box 90 ⟨true,(.bJ2 (.slice 5 (.int .u8)) aC),[]⟩,.val ⟨false,tI,[]⟩],[⟨false,tI,[0]⟩],false,none,
 ((fun x=>0≤x.1.2.1):(aL × Int)→Prop),
 ((fun _=>aS (.bJ2 tI (.bJ2 (.slice 5 (.int .u8)) aC))):(aL × Int)→(Int × aL))⟩
def vY:T :=
 .bJ3 (.cmp .leq .i64) (.bJ4 tI tI (aR (.bJ2 (.bJ2 (.slice 5 (.int .u8)) aC) tI) 1 (.Z 0)) (.ci .i64 0)) <|
 .ite (.Z 1) (
  .ret (.bJ4 tI (.bJ2 (.slice 5 (.int .u8)) aC) (.ci .i64 0) (.p1 (.bJ2 (.slice 5 (.int .u8)) aC) tI (.Z 0)))) (
  .bJ3 (.cmp .leq .i64) (.bJ4 tI tI (aR (.bJ2 (.bJ2 (.slice 5 (.int .u8)) aC) tI) 1 (.Z 0)) (.ci .i64 256)) <|
  .ite (.Z 2) (
   .call 0 (.p1 (.bJ2 (.slice 5 (.int .u8)) aC) tI (.Z 0)) <|
   .bJ3 (.rem .i64) (.bJ4 tI tI (.p1 tI (.bJ2 (.slice 5 (.int .u8)) aC) (.Z 3)) (aR (.bJ2 (.bJ2 (.slice 5 (.int .u8)) aC) tI) 1 (.Z 0))) <|
   .ret (.bJ4 tI (.bJ2 (.slice 5 (.int .u8)) aC) (.Z 4) (aR (.bJ2 tI (.bJ2 (.slice 5 (.int .u8)) aC)) 1 (.Z 3)))) (
   .call 0 (.p1 (.bJ2 (.slice 5 (.int .u8)) aC) tI (.Z 0)) <|
   .call 0 (aR (.bJ2 tI (.bJ2 (.slice 5 (.int .u8)) aC)) 1 (.Z 3)) <|
   .call 0 (aR (.bJ2 tI (.bJ2 (.slice 5 (.int .u8)) aC)) 1 (.Z 4)) <|
   .call 0 (aR (.bJ2 tI (.bJ2 (.slice 5 (.int .u8)) aC)) 1 (.Z 5)) <|
   .bJ3 (.ar .mul .i64) (.bJ4 tI tI (.p1 tI (.bJ2 (.slice 5 (.int .u8)) aC) (.Z 3)) (.ci .i64 16777216)) <|
   .bJ3 (.ar .mul .i64) (.bJ4 tI tI (.p1 tI (.bJ2 (.slice 5 (.int .u8)) aC) (.Z 4)) (.ci .i64 65536)) <|
   .bJ3 (.ar .add .i64) (.bJ4 tI tI (.Z 7) (.Z 8)) <|
   .bJ3 (.ar .mul .i64) (.bJ4 tI tI (.p1 tI (.bJ2 (.slice 5 (.int .u8)) aC) (.Z 5)) (.ci .i64 256)) <|
   .bJ3 (.ar .add .i64) (.bJ4 tI tI (.Z 9) (.Z 10)) <|
   .bJ3 (.ar .add .i64) (.bJ4 tI tI (.Z 11) (.p1 tI (.bJ2 (.slice 5 (.int .u8)) aC) (.Z 6))) <|
   .bJ3 (.rem .i64) (.bJ4 tI tI (.Z 12) (aR (.bJ2 (.bJ2 (.slice 5 (.int .u8)) aC) tI) 1 (.Z 0))) <|
   .ret (.bJ4 tI (.bJ2 (.slice 5 (.int .u8)) aC) (.Z 13) (aR (.bJ2 tI (.bJ2 (.slice 5 (.int .u8)) aC)) 1 (.Z 6)))))
theorem aRG (f:(aL × Int)→(Int × aL)):bV Tryz.prog [uU] { xJ with fn:=f } false 3000 ⟨[],[]⟩ = .ok vY:=by kernel_rfl
theorem aR3 (x:aL × Int) (hx:okD (.bJ2 (.bJ2 (.slice 5 (.int .u8)) aC) tI) x) (hp:(fun x=>0≤x.1.2.1) x):vY.wp [uU] [⟨(.bJ2 (.bJ2 (.slice 5 (.int .u8)) aC) tI),x⟩] [] (fun v=>(fun x r=>0≤r.1∧(0<x.2→r.1<x.2)∧(x.2≤0→r.1=0)∧0≤r.2.2.1:(aL × Int)→(Int × aL)→Prop) x (v.as (.bJ2 tI (.bJ2 (.slice 5 (.int .u8)) aC)))):=by
 obtain ⟨⟨b,i,h⟩,n⟩:=x
 change 0≤i at hp
 have q1:=uM (b,i,h) hx.1 hp
 have q2:=uM _ q1.1.2 q1.2.2.2
 have q3:=uM _ q2.1.2 q2.2.2.2
 have q4:=uM _ q3.1.2 q3.2.2.2
 replace q1:=q1.2
 replace q2:=q2.2
 replace q3:=q3.2
 replace q4:=q4.2
 dsimp only at q1 q2 q3 q4
 delta vY uU;refine eE ?_
 (refine eL ?_;try with_reducible exact True.intro)
 (repeat' first|intro _|(with_reducible apply And.intro))
 all_goals first|omega|exact (tmB (by omega) (by omega)).1|exact (tmB (by omega) (by omega)).2|trivial
theorem vT:∃ f:(aL × Int)→(Int × aL),(∀ x,okD (.bJ2 (.bJ2 (.slice 5 (.int .u8)) aC) tI) x→(fun x=>0≤x.1.2.1) x→(fun x r=>0≤r.1∧(0<x.2→r.1<x.2)∧(x.2≤0→r.1=0)∧0≤r.2.2.1:(aL × Int)→(Int × aL)→Prop) x (f x))∧Con.Holds Tryz.prog { xJ with fn:=f }:=gY (C:=xJ) aX (aG aIO aT) aRG (fun x r=>0≤r.1∧(0<x.2→r.1<x.2)∧(x.2≤0→r.1=0)∧0≤r.2.2.1:(aL × Int)→(Int × aL)→Prop) aR3
def bU:(aL × Int)→(Int × aL):=Classical.choose vT
def bG:Con:=⟨38,(.bJ2 (.bJ2 (.slice 5 (.int .u8)) aC) tI),(.bJ2 tI (.bJ2 (.slice 5 (.int .u8)) aC)),[.box 90 ⟨true,(.bJ2 (.slice 5 (.int .u8)) aC),[]⟩,.val ⟨false,tI,[]⟩],[⟨false,tI,[0]⟩],false,none,
 ((fun x=>0≤x.1.2.1):(aL × Int)→Prop),
 ((bU):(aL × Int)→(Int × aL))⟩
theorem aPC:∀ x,okD (.bJ2 (.bJ2 (.slice 5 (.int .u8)) aC) tI) x→(fun x=>0≤x.1.2.1) x→(fun x r=>0≤r.1∧(0<x.2→r.1<x.2)∧(x.2≤0→r.1=0)∧0≤r.2.2.1:(aL × Int)→(Int × aL)→Prop) x (bU x):=(Classical.choose_spec vT).1
theorem dV:Con.Holds Tryz.prog bG:=(Classical.choose_spec vT).2
theorem cA (x:aL × Int) (hx:okD (.bJ2 (.bJ2 (.slice 5 (.int .u8)) aC) tI) x) (hp:(fun x=>0≤x.1.2.1) x):okD (.bJ2 tI (.bJ2 (.slice 5 (.int .u8)) aC)) (bU x)∧(fun x r=>0≤r.1∧(0<x.2→r.1<x.2)∧(x.2≤0→r.1=0)∧0≤r.2.2.1:(aL × Int)→(Int × aL)→Prop) x (bU x):=⟨dV.ok x hp hx,aPC x hx hp⟩
def aB6:Con:=⟨66,(.bJ2 (.bJ2 (.slice 5 (.int .u8)) aC) tI),(.bJ2 .bool (.bJ2 (.slice 5 (.int .u8)) aC)),[.box 90 ⟨true,(.bJ2 (.slice 5 (.int .u8)) aC),[]⟩,.val ⟨false,tI,[]⟩],[⟨false,.bool,[0]⟩],false,none,
 ((fun x=>0≤x.1.2.1):(aL × Int)→Prop),
 ((fun _=>aS (.bJ2 .bool (.bJ2 (.slice 5 (.int .u8)) aC))):(aL × Int)→(Bool × aL))⟩
def aAQ:T:=.call 0 (.Z 0) <|
 .bJ3 (.cmp .eql .i64) (.bJ4 tI tI (.p1 tI (.bJ2 (.slice 5 (.int .u8)) aC) (.Z 1)) (.ci .i64 0)) <|
 .ret (.bJ4 .bool (.bJ2 (.slice 5 (.int .u8)) aC) (.Z 2) (aR (.bJ2 tI (.bJ2 (.slice 5 (.int .u8)) aC)) 1 (.Z 1)))
theorem aUD (f:(aL × Int)→(Bool × aL)):bV Tryz.prog [bG] { aB6 with fn:=f } false 3000 ⟨[],[]⟩ = .ok aAQ:=by kernel_rfl
theorem aSA (x:aL × Int) (hx:okD (.bJ2 (.bJ2 (.slice 5 (.int .u8)) aC) tI) x) (hp:(fun x=>0≤x.1.2.1) x):aAQ.wp [bG] [⟨(.bJ2 (.bJ2 (.slice 5 (.int .u8)) aC) tI),x⟩] [] (fun v=>(fun x r=>0≤r.2.2.1:(aL × Int)→(Bool × aL)→Prop) x (v.as (.bJ2 .bool (.bJ2 (.slice 5 (.int .u8)) aC)))):=by
 have q1:=(cA x hx hp).2
 delta aAQ bG;refine eE ?_
 exact ⟨hp,fun _=>q1.2.2.2⟩
theorem aB7:∃ f:(aL × Int)→(Bool × aL),(∀ x,okD (.bJ2 (.bJ2 (.slice 5 (.int .u8)) aC) tI) x→(fun x=>0≤x.1.2.1) x→(fun x r=>0≤r.2.2.1:(aL × Int)→(Bool × aL)→Prop) x (f x))∧Con.Holds Tryz.prog { aB6 with fn:=f }:=gY (C:=aB6) aX (aG dV aT) aUD (fun x r=>0≤r.2.2.1:(aL × Int)→(Bool × aL)→Prop) aSA
def kP:(aL × Int)→(Bool × aL):=Classical.choose aB7
def gN:Con:=⟨66,(.bJ2 (.bJ2 (.slice 5 (.int .u8)) aC) tI),(.bJ2 .bool (.bJ2 (.slice 5 (.int .u8)) aC)),[.box 90 ⟨true,(.bJ2 (.slice 5 (.int .u8)) aC),[]⟩,.val ⟨false,tI,[]⟩],[⟨false,.bool,[0]⟩],false,none,
 ((fun x=>0≤x.1.2.1):(aL × Int)→Prop),
 ((kP):(aL × Int)→(Bool × aL))⟩
theorem aSK:∀ x,okD (.bJ2 (.bJ2 (.slice 5 (.int .u8)) aC) tI) x→(fun x=>0≤x.1.2.1) x→(fun x r=>0≤r.2.2.1:(aL × Int)→(Bool × aL)→Prop) x (kP x):=(Classical.choose_spec aB7).1
theorem vA:Con.Holds Tryz.prog gN:=(Classical.choose_spec aB7).2
theorem aBP (x:aL × Int) (hx:okD (.bJ2 (.bJ2 (.slice 5 (.int .u8)) aC) tI) x) (hp:(fun x=>0≤x.1.2.1) x):okD (.bJ2 .bool (.bJ2 (.slice 5 (.int .u8)) aC)) (kP x)∧(fun x r=>0≤r.2.2.1:(aL × Int)→(Bool × aL)→Prop) x (kP x):=⟨vA.ok x hp hx,aSK x hx hp⟩
def sK:Con:=⟨40,(.bJ2 (.bJ2 (.slice 5 (.int .u8)) aC) aB),(.bJ2 tI (.bJ2 (.slice 5 (.int .u8)) aC)),[.box 90 ⟨true,(.bJ2 (.slice 5 (.int .u8)) aC),[]⟩,.val ⟨false,aB,[]⟩],[⟨false,tI,[0]⟩],false,none,
 ((fun x=>0≤x.1.2.1∧x.2≠[]):(aL × bH)→Prop),
 ((fun _=>aS (.bJ2 tI (.bJ2 (.slice 5 (.int .u8)) aC))):(aL × bH)→(Int × aL))⟩
def sL:T :=
 .bJ3 (.bJ6 3 tI) (aR (.bJ2 (.bJ2 (.slice 5 (.int .u8)) aC) aB) 1 (.Z 0)) <|
 .call 0 (.bJ4 (.bJ2 (.slice 5 (.int .u8)) aC) tI (.p1 (.bJ2 (.slice 5 (.int .u8)) aC) aB (.Z 0)) (.Z 1)) <|
 .bJ3 (.bJ7 3 tI) (.bJ4 aB tI (aR (.bJ2 (.bJ2 (.slice 5 (.int .u8)) aC) aB) 1 (.Z 0)) (.p1 tI (.bJ2 (.slice 5 (.int .u8)) aC) (.Z 2))) <|
 .ret (.bJ4 tI (.bJ2 (.slice 5 (.int .u8)) aC) (.Z 3) (aR (.bJ2 tI (.bJ2 (.slice 5 (.int .u8)) aC)) 1 (.Z 2)))
theorem aJU (f:(aL × bH)→(Int × aL)):bV Tryz.prog [bG] { sK with fn:=f } false 3000 ⟨[],[]⟩ = .ok sL:=by kernel_rfl
theorem aJC (x:aL × bH) (hx:okD (.bJ2 (.bJ2 (.slice 5 (.int .u8)) aC) aB) x) (hp:(fun x=>0≤x.1.2.1∧x.2≠[]) x):sL.wp [bG] [⟨(.bJ2 (.bJ2 (.slice 5 (.int .u8)) aC) aB),x⟩] [] (fun v=>(fun x r=>r.1∈x.2∧0≤r.2.2.1:(aL × bH)→(Int × aL)→Prop) x (v.as (.bJ2 tI (.bJ2 (.slice 5 (.int .u8)) aC)))):=by
 obtain ⟨c,l⟩:=x
 obtain ⟨hp,hl⟩:0≤c.2.1∧l≠[]:=hp
 have hm:=aLY (show List.length l≤maxLen from hx.2.1)
 have hl0:0<l.length:=List.length_pos_iff.2 hl
 have q1:=(cA (c,(l.length:Int)) ⟨hx.1,show (-9223372036854775808:Int)≤_∧_≤(9223372036854775807:Int) by omega⟩ hp).2
 dsimp only at q1
 delta sL bG;refine eE ?_
 have hlt:((bU (c,(l.length:Int))).1:Int).toNat<l.length:=by omega
 refine fun _=>⟨hp,fun _=>⟨⟨q1.1,by omega⟩,fun _=>⟨?_,q1.2.2.2⟩⟩⟩
 rw[bD hlt]
 exact List.getElem_mem hlt
theorem sH:∃ f:(aL × bH)→(Int × aL),(∀ x,okD (.bJ2 (.bJ2 (.slice 5 (.int .u8)) aC) aB) x→(fun x=>0≤x.1.2.1∧x.2≠[]) x→(fun x r=>r.1∈x.2∧0≤r.2.2.1:(aL × bH)→(Int × aL)→Prop) x (f x))∧Con.Holds Tryz.prog { sK with fn:=f }:=gY (C:=sK) aX (aG dV aT) aJU (fun x r=>r.1∈x.2∧0≤r.2.2.1:(aL × bH)→(Int × aL)→Prop) aJC
def fN:(aL × bH)→(Int × aL):=Classical.choose sH
def cC:Con:=⟨40,(.bJ2 (.bJ2 (.slice 5 (.int .u8)) aC) aB),(.bJ2 tI (.bJ2 (.slice 5 (.int .u8)) aC)),[.box 90 ⟨true,(.bJ2 (.slice 5 (.int .u8)) aC),[]⟩,.val ⟨false,aB,[]⟩],[⟨false,tI,[0]⟩],false,none,
 ((fun x=>0≤x.1.2.1∧x.2≠[]):(aL × bH)→Prop),
 ((fN):(aL × bH)→(Int × aL))⟩
theorem aJV:∀ x,okD (.bJ2 (.bJ2 (.slice 5 (.int .u8)) aC) aB) x→(fun x=>0≤x.1.2.1∧x.2≠[]) x→(fun x r=>r.1∈x.2∧0≤r.2.2.1:(aL × bH)→(Int × aL)→Prop) x (fN x):=(Classical.choose_spec sH).1
theorem gM:Con.Holds Tryz.prog cC:=(Classical.choose_spec sH).2
theorem iK (x:aL × bH) (hx:okD (.bJ2 (.bJ2 (.slice 5 (.int .u8)) aC) aB) x) (hp:(fun x=>0≤x.1.2.1∧x.2≠[]) x):okD (.bJ2 tI (.bJ2 (.slice 5 (.int .u8)) aC)) (fN x)∧(fun x r=>r.1∈x.2∧0≤r.2.2.1:(aL × bH)→(Int × aL)→Prop) x (fN x):=⟨gM.ok x hp hx,aJV x hx hp⟩
def aEM:Con:=⟨106,(.bJ2 (.slice 5 (.int .u8)) aC),(.bJ2 tI (.bJ2 (.slice 5 (.int .u8)) aC)),[.box 90 ⟨true,(.bJ2 (.slice 5 (.int .u8)) aC),[]⟩],[⟨false,tI,[0]⟩],false,none,
 ((fun x=>0≤x.2.1):(aL)→Prop),
 ((fun _=>aS (.bJ2 tI (.bJ2 (.slice 5 (.int .u8)) aC))):(aL)→(Int × aL))⟩
def aED:T:=.call 0 (.bJ4 (.bJ2 (.slice 5 (.int .u8)) aC) tI (.Z 0) (.ci .i64 12)) <|
 .bJ3 (.cmp .eql .i64) (.bJ4 tI tI (.p1 tI (.bJ2 (.slice 5 (.int .u8)) aC) (.Z 1)) (.ci .i64 0)) <|
 .ite (.Z 2) (
  .bJ3 (.lit 3 tI 6) (bJ (.bJ2 tI (.bJ2 tI (.bJ2 tI (.bJ2 tI aC)))) [(.ci .i64 2147483647),(.ci .i64 (-2147483647)),(.ci .i64 2147483646),(.ci .i64 1),(.ci .i64 (-1)),(.ci .i64 0)]) <|
  .call 1 (.bJ4 (.bJ2 (.slice 5 (.int .u8)) aC) aB (aR (.bJ2 tI (.bJ2 (.slice 5 (.int .u8)) aC)) 1 (.Z 1)) (.Z 3)) <|
  .ret (.Z 4)) (
  .bJ3 (.cmp .eql .i64) (.bJ4 tI tI (.p1 tI (.bJ2 (.slice 5 (.int .u8)) aC) (.Z 1)) (.ci .i64 1)) <|
  .ite (.Z 3) (
   .call 0 (.bJ4 (.bJ2 (.slice 5 (.int .u8)) aC) tI (aR (.bJ2 tI (.bJ2 (.slice 5 (.int .u8)) aC)) 1 (.Z 1)) (.ci .i64 4000)) <|
   .bJ3 (.ar .sub .i64) (.bJ4 tI tI (.p1 tI (.bJ2 (.slice 5 (.int .u8)) aC) (.Z 4)) (.ci .i64 2000)) <|
   .bJ3 (.ar .mul .i64) (.bJ4 tI tI (.Z 5) (.ci .i64 997)) <|
   .ret (.bJ4 tI (.bJ2 (.slice 5 (.int .u8)) aC) (.Z 6) (aR (.bJ2 tI (.bJ2 (.slice 5 (.int .u8)) aC)) 1 (.Z 4)))) (
   .bJ3 (.cmp .eql .i64) (.bJ4 tI tI (.p1 tI (.bJ2 (.slice 5 (.int .u8)) aC) (.Z 1)) (.ci .i64 2)) <|
   .ite (.Z 4) (
    .call 0 (.bJ4 (.bJ2 (.slice 5 (.int .u8)) aC) tI (aR (.bJ2 tI (.bJ2 (.slice 5 (.int .u8)) aC)) 1 (.Z 1)) (.ci .i64 9)) <|
    .bJ3 (.ar .sub .i64) (.bJ4 tI tI (.p1 tI (.bJ2 (.slice 5 (.int .u8)) aC) (.Z 5)) (.ci .i64 4)) <|
    .ret (.bJ4 tI (.bJ2 (.slice 5 (.int .u8)) aC) (.Z 6) (aR (.bJ2 tI (.bJ2 (.slice 5 (.int .u8)) aC)) 1 (.Z 5)))) (
    .call 0 (.bJ4 (.bJ2 (.slice 5 (.int .u8)) aC) tI (aR (.bJ2 tI (.bJ2 (.slice 5 (.int .u8)) aC)) 1 (.Z 1)) (.ci .i64 17)) <|
    .bJ3 (.ar .sub .i64) (.bJ4 tI tI (.p1 tI (.bJ2 (.slice 5 (.int .u8)) aC) (.Z 5)) (.ci .i64 8)) <|
    .bJ3 (.ar .mul .i64) (.bJ4 tI tI (.Z 6) (.ci .i64 65536)) <|
    .bJ3 (.lit 3 tI 5) (bJ (.bJ2 tI (.bJ2 tI (.bJ2 tI aC))) [(.ci .i64 1),(.ci .i64 1),(.ci .i64 2),(.ci .i64 4),(.ci .i64 3)]) <|
    .call 1 (.bJ4 (.bJ2 (.slice 5 (.int .u8)) aC) aB (aR (.bJ2 tI (.bJ2 (.slice 5 (.int .u8)) aC)) 1 (.Z 5)) (.Z 8)) <|
    .bJ3 (.quo .i64) (.bJ4 tI tI (.Z 7) (.p1 tI (.bJ2 (.slice 5 (.int .u8)) aC) (.Z 9))) <|
    .ret (.bJ4 tI (.bJ2 (.slice 5 (.int .u8)) aC) (.Z 10) (aR (.bJ2 tI (.bJ2 (.slice 5 (.int .u8)) aC)) 1 (.Z 9))))))
theorem aXT (f:(aL)→(Int × aL)):bV Tryz.prog [bG,cC] { aEM with fn:=f } false 3000 ⟨[],[(2989,3003,[8],[]),(2981,8005,[26],[])]⟩ = .ok aED:=by kernel_rfl
theorem aZC (x:aL) (hx:okD (.bJ2 (.slice 5 (.int .u8)) aC) x) (hp:(fun x=>0≤x.2.1) x):aED.wp [bG,cC] [⟨(.bJ2 (.slice 5 (.int .u8)) aC),x⟩] [] (fun v=>(fun x r=>iI r.1=true∧0≤r.2.2.1:(aL)→(Int × aL)→Prop) x (v.as (.bJ2 tI (.bJ2 (.slice 5 (.int .u8)) aC)))):=by
 have q1:=cA (x,12) ⟨hx,okI (by omega) (by omega)⟩ hp
 delta aED bG cC;refine eE ?_
 refine eL ?_
 refine ⟨hp,fun _=>?_⟩
 generalize bU (x,12)=r at q1 ⊢;obtain ⟨n1,c1⟩:=r;obtain ⟨kq1,uq1⟩:=q1;replace kq1:okD kA c1:=kq1.2;dsimp only at uq1 ⊢
 refine ⟨fun _ _=>⟨⟨uq1.2.2.2,fun h=>by cases h⟩,fun _=>?_⟩,fun _=>⟨fun _=>⟨uq1.2.2.2,fun _=>?_⟩,fun _=>⟨fun _=>⟨uq1.2.2.2,fun _=>?_⟩,fun _=>⟨uq1.2.2.2,fun _=>?_⟩⟩⟩⟩
 ·have b0:=(iK (c1,[2147483647,-2147483647,2147483646,1,-1,0]) ⟨kq1,okL (e:=3) (by show 6≤1000;omega) (by intro y hy;simp at hy;omega)⟩ ⟨uq1.2.2.2,by simp⟩).2
  generalize fN (c1,[2147483647,-2147483647,2147483646,1,-1,0])=r at b0 ⊢
  have:=b0.1
  simp only[List.mem_cons,List.mem_nil_iff,or_false] at this
  exact ⟨(vV _).2 ⟨by omega,by omega⟩,b0.2⟩
 ·have a1:=(cA (c1,4000) ⟨kq1,okI (by omega) (by omega)⟩ uq1.2.2.2).2
  generalize bU (c1,4000)=r at a1 ⊢
  dsimp only at a1
  (repeat' first|intro _|(with_reducible apply And.intro))
  all_goals first|omega|exact (vV _).2 ⟨by omega,by omega⟩
 ·have a1:=(cA (c1,9) ⟨kq1,okI (by omega) (by omega)⟩ uq1.2.2.2).2
  generalize bU (c1,9)=r at a1 ⊢
  dsimp only at a1
  (repeat' first|intro _|(with_reducible apply And.intro))
  all_goals first|omega|exact (vV _).2 ⟨by omega,by omega⟩
 ·have q2:=cA (c1,17) ⟨kq1,okI (by omega) (by omega)⟩ uq1.2.2.2
  generalize bU (c1,17)=r at q2 ⊢;obtain ⟨n2,c2⟩:=r;obtain ⟨kq2,uq2⟩:=q2;replace kq2:okD kA c2:=kq2.2;dsimp only at uq2 ⊢
  refine ⟨by omega,fun _=>⟨by omega,fun _ _=>⟨⟨uq2.2.2.2,fun h=>by cases h⟩,fun _=>?_⟩⟩⟩
  have b0:=(iK (c2,[1,1,2,4,3]) ⟨kq2,okL (e:=3) (by show 5≤1000;omega) (by intro y hy;simp at hy;omega)⟩ ⟨uq2.2.2.2,by simp⟩).2
  generalize fN (c2,[1,1,2,4,3])=r at b0 ⊢
  have:=b0.1
  simp only[List.mem_cons,List.mem_nil_iff,or_false] at this
  have t1:=tdB (a:=(n2 - 8) * 65536) (p:=r.1) (by omega) (by omega)
  (repeat' first|intro _|(with_reducible apply And.intro))
  all_goals first|omega|exact (vV _).2 ⟨by omega,by omega⟩|exact b0.2
theorem aEA:∃ f:(aL)→(Int × aL),(∀ x,okD (.bJ2 (.slice 5 (.int .u8)) aC) x→(fun x=>0≤x.2.1) x→(fun x r=>iI r.1=true∧0≤r.2.2.1:(aL)→(Int × aL)→Prop) x (f x))∧Con.Holds Tryz.prog { aEM with fn:=f }:=gY (C:=aEM) aX (aG dV (aG gM aT)) aXT (fun x r=>iI r.1=true∧0≤r.2.2.1:(aL)→(Int × aL)→Prop) aZC
def zE:(aL)→(Int × aL):=Classical.choose aEA
def mK:Con:=⟨106,(.bJ2 (.slice 5 (.int .u8)) aC),(.bJ2 tI (.bJ2 (.slice 5 (.int .u8)) aC)),[.box 90 ⟨true,(.bJ2 (.slice 5 (.int .u8)) aC),[]⟩],[⟨false,tI,[0]⟩],false,none,
 ((fun x=>0≤x.2.1):(aL)→Prop),
 ((zE):(aL)→(Int × aL))⟩
theorem aY1:∀ x,okD (.bJ2 (.slice 5 (.int .u8)) aC) x→(fun x=>0≤x.2.1) x→(fun x r=>iI r.1=true∧0≤r.2.2.1:(aL)→(Int × aL)→Prop) x (zE x):=(Classical.choose_spec aEA).1
theorem aE4:Con.Holds Tryz.prog mK:=(Classical.choose_spec aEA).2
theorem aKO (x:aL) (hx:okD (.bJ2 (.slice 5 (.int .u8)) aC) x) (hp:(fun x=>0≤x.2.1) x):okD (.bJ2 tI (.bJ2 (.slice 5 (.int .u8)) aC)) (zE x)∧(fun x r=>iI r.1=true∧0≤r.2.2.1:(aL)→(Int × aL)→Prop) x (zE x):=⟨aE4.ok x hp hx,aY1 x hx hp⟩
def aDI:Con:=⟨93,(.bJ2 (.bJ2 (.slice 5 (.int .u8)) aC) tI),(.bJ2 aB (.bJ2 (.slice 5 (.int .u8)) aC)),[.box 90 ⟨true,(.bJ2 (.slice 5 (.int .u8)) aC),[]⟩,.val ⟨false,tI,[]⟩],[⟨false,aB,[2]⟩],false,none,
 ((fun x=>0≤x.1.2.1∧x.2≤1000):(aL × Int)→Prop),
 ((fun _=>aS (.bJ2 aB (.bJ2 (.slice 5 (.int .u8)) aC))):(aL × Int)→(bH × aL))⟩
def aEQ:T:=.loop (.bJ2 tI (.bJ2 (.slice 5 (.int .u8)) (.bJ2 tI aI))) (bJ (.bJ2 tI (.bJ2 (.slice 5 (.int .u8)) (.bJ2 tI aI))) [(.ci .i64 0),(.p1 (.slice 5 (.int .u8)) aC (.p1 (.bJ2 (.slice 5 (.int .u8)) aC) tI (.Z 0))),(aJ (.bJ2 (.slice 5 (.int .u8)) aC) 1 (.p1 (.bJ2 (.slice 5 (.int .u8)) aC) tI (.Z 0))),(aR (.bJ2 (.slice 5 (.int .u8)) aC) 2 (.p1 (.bJ2 (.slice 5 (.int .u8)) aC) tI (.Z 0))),(.nl 3 tI)]) <|
 .bJ3 (.cmp .lss .i64) (.bJ4 tI tI (.p1 tI (.bJ2 (.slice 5 (.int .u8)) (.bJ2 tI aI)) (.Z 1)) (aR (.bJ2 (.bJ2 (.slice 5 (.int .u8)) aC) tI) 1 (.Z 0))) <|
 .ite (.Z 2) (
  .call 0 (bJ (.bJ2 (.slice 5 (.int .u8)) aC) [(aJ (.bJ2 tI (.bJ2 (.slice 5 (.int .u8)) (.bJ2 tI aI))) 1 (.Z 1)),(aJ (.bJ2 tI (.bJ2 (.slice 5 (.int .u8)) (.bJ2 tI aI))) 2 (.Z 1)),(aJ (.bJ2 tI (.bJ2 (.slice 5 (.int .u8)) (.bJ2 tI aI))) 3 (.Z 1))]) <|
  .bJ3 (.lit 3 tI 1) (.p1 tI (.bJ2 (.slice 5 (.int .u8)) aC) (.Z 3)) <|
  .bJ3 (.bJ9 3 tI 8) (.bJ4 aB aB (aR (.bJ2 tI (.bJ2 (.slice 5 (.int .u8)) (.bJ2 tI aI))) 4 (.Z 1)) (.Z 4)) <|
  .bJ3 (.ar .add .i64) (.bJ4 tI tI (.p1 tI (.bJ2 (.slice 5 (.int .u8)) (.bJ2 tI aI)) (.Z 1)) (.ci .i64 1)) <|
  .bJ5 0 (bJ (.bJ2 tI (.bJ2 (.slice 5 (.int .u8)) (.bJ2 tI aI))) [(.Z 6),(aJ (.bJ2 tI (.bJ2 (.slice 5 (.int .u8)) aC)) 1 (.Z 3)),(aJ (.bJ2 tI (.bJ2 (.slice 5 (.int .u8)) aC)) 2 (.Z 3)),(aR (.bJ2 tI (.bJ2 (.slice 5 (.int .u8)) aC)) 3 (.Z 3)),(.Z 5)])) (
  .ret (bJ (.bJ2 aB (.bJ2 (.slice 5 (.int .u8)) aC)) [(aR (.bJ2 tI (.bJ2 (.slice 5 (.int .u8)) (.bJ2 tI aI))) 4 (.Z 1)),(aJ (.bJ2 tI (.bJ2 (.slice 5 (.int .u8)) (.bJ2 tI aI))) 1 (.Z 1)),(aJ (.bJ2 tI (.bJ2 (.slice 5 (.int .u8)) (.bJ2 tI aI))) 2 (.Z 1)),(aJ (.bJ2 tI (.bJ2 (.slice 5 (.int .u8)) (.bJ2 tI aI))) 3 (.Z 1))]))
theorem aZB (f:(aL × Int)→(bH × aL)):bV Tryz.prog [mK] { aDI with fn:=f } false 3000 ⟨[(2991,1001,[.dr 7,.tm 6 0,.on 5,.bx 1 0,.bx 1 1,.bx 1 2,.sl 2])],[]⟩ = .ok aEQ:=by kernel_rfl
theorem aZQ (x:aL × Int) (hx:okD (.bJ2 (.bJ2 (.slice 5 (.int .u8)) aC) tI) x) (hp:(fun x=>0≤x.1.2.1∧x.2≤1000) x):aEQ.wp [mK] [⟨(.bJ2 (.bJ2 (.slice 5 (.int .u8)) aC) tI),x⟩] [] (fun v=>(fun x r=>r.1.length=x.2.toNat∧(∀ v∈r.1,iI v=true)∧0≤r.2.2.1:(aL × Int)→(bH × aL)→Prop) x (v.as (.bJ2 aB (.bJ2 (.slice 5 (.int .u8)) aC)))):=by
 obtain ⟨c,n⟩:=x
 obtain ⟨hp,hn⟩:0≤c.2.1∧n≤1000:=hp
 delta aEQ mK;refine eE ?_
 refine ⟨fun s=>∃ k:Nat,k≤n.toNat∧s.1=(k:Int)∧List.length s.2.2.2.2=k∧(∀ v∈s.2.2.2.2,iI v=true)∧@LE.le Int _ 0 s.2.2.1,fun s=>(n - s.1:Int).toNat,⟨0,Nat.zero_le _,rfl,rfl,fun v h=>by simp at h,hp⟩,fun s hs hI=>?_⟩
 obtain ⟨j,b,i,h,l⟩:=s
 obtain ⟨k,hk,e1,e2,e3,e4⟩:=hI
 change Int at j
 change j=(k:Int) at e1
 subst e1
 change List Int at l
 change l.length=k at e2
 change ∀ v∈l,iI v=true at e3
 change 0≤(i:Int) at e4
 have q:=(aKO (b,i,h) ⟨hs.2.1,hs.2.2.1,hs.2.2.2.1⟩ e4).2
 try dsimp only
 refine eL ?_
 refine ⟨fun hlt=>⟨e4,fun _ _=>⟨⟨by omega,by unfold maxLen;omega⟩,fun _=>⟨by omega,fun _=>⟨⟨k+1,by omega,pk1,by rw[e2],fun v hv=>?_,q.2⟩,by omega⟩⟩⟩⟩,fun hge=>⟨by omega,e3,e4⟩⟩
 rcases List.mem_append.1 hv with hv|hv
 ·exact e3 v hv
 ·rw[List.mem_singleton] at hv
  rw[hv];exact q.1
theorem aD2:∃ f:(aL × Int)→(bH × aL),(∀ x,okD (.bJ2 (.bJ2 (.slice 5 (.int .u8)) aC) tI) x→(fun x=>0≤x.1.2.1∧x.2≤1000) x→(fun x r=>r.1.length=x.2.toNat∧(∀ v∈r.1,iI v=true)∧0≤r.2.2.1:(aL × Int)→(bH × aL)→Prop) x (f x))∧Con.Holds Tryz.prog { aDI with fn:=f }:=gY (C:=aDI) aX (aG aE4 aT) aZB (fun x r=>r.1.length=x.2.toNat∧(∀ v∈r.1,iI v=true)∧0≤r.2.2.1:(aL × Int)→(bH × aL)→Prop) aZQ
def mM:(aL × Int)→(bH × aL):=Classical.choose aD2
def iL:Con:=⟨93,(.bJ2 (.bJ2 (.slice 5 (.int .u8)) aC) tI),(.bJ2 aB (.bJ2 (.slice 5 (.int .u8)) aC)),[.box 90 ⟨true,(.bJ2 (.slice 5 (.int .u8)) aC),[]⟩,.val ⟨false,tI,[]⟩],[⟨false,aB,[2]⟩],false,none,
 ((fun x=>0≤x.1.2.1∧x.2≤1000):(aL × Int)→Prop),
 ((mM):(aL × Int)→(bH × aL))⟩
theorem aY4:∀ x,okD (.bJ2 (.bJ2 (.slice 5 (.int .u8)) aC) tI) x→(fun x=>0≤x.1.2.1∧x.2≤1000) x→(fun x r=>r.1.length=x.2.toNat∧(∀ v∈r.1,iI v=true)∧0≤r.2.2.1:(aL × Int)→(bH × aL)→Prop) x (mM x):=(Classical.choose_spec aD2).1
theorem yZ:Con.Holds Tryz.prog iL:=(Classical.choose_spec aD2).2
theorem oN (x:aL × Int) (hx:okD (.bJ2 (.bJ2 (.slice 5 (.int .u8)) aC) tI) x) (hp:(fun x=>0≤x.1.2.1∧x.2≤1000) x):okD (.bJ2 aB (.bJ2 (.slice 5 (.int .u8)) aC)) (mM x)∧(fun x r=>r.1.length=x.2.toNat∧(∀ v∈r.1,iI v=true)∧0≤r.2.2.1:(aL × Int)→(bH × aL)→Prop) x (mM x):=⟨yZ.ok x hp hx,aY4 x hx hp⟩
def aEK:Con:=⟨94,(.bJ2 (.slice 5 (.int .u8)) aC),(.bJ2 tI (.bJ2 (.slice 5 (.int .u8)) aC)),[.box 90 ⟨true,(.bJ2 (.slice 5 (.int .u8)) aC),[]⟩],[⟨false,tI,[0]⟩],false,none,
 ((fun x=>0≤x.2.1):(aL)→Prop),
 ((fun _=>aS (.bJ2 tI (.bJ2 (.slice 5 (.int .u8)) aC))):(aL)→(Int × aL))⟩
def aEL:T:=.call 0 (.bJ4 (.bJ2 (.slice 5 (.int .u8)) aC) tI (.Z 0) (.ci .i64 8)) <|.ite (.p1 .bool (.bJ2 (.slice 5 (.int .u8)) aC) (.Z 1)) (
 .bJ3 (.lit 3 tI 4) (bJ (.bJ2 tI (.bJ2 tI aC)) [(.ci .i64 2147483648),(.ci .i64 (-2147483648)),(.ci .i64 9223372036854775807),(.ci .i64 (-9223372036854775807))]) <|
 .call 1 (.bJ4 (.bJ2 (.slice 5 (.int .u8)) aC) aB (aR (.bJ2 .bool (.bJ2 (.slice 5 (.int .u8)) aC)) 1 (.Z 1)) (.Z 2)) <|
 .ret (.Z 3)) (
 .call 2 (aR (.bJ2 .bool (.bJ2 (.slice 5 (.int .u8)) aC)) 1 (.Z 1)) <|
 .ret (.Z 2))
theorem aYT (f:(aL)→(Int × aL)):bV Tryz.prog [gN,cC,mK] { aEK with fn:=f } false 3000 ⟨[],[(2992,3002,[6],[])]⟩ = .ok aEL:=by kernel_rfl
theorem aY6 (x:aL) (hx:okD (.bJ2 (.slice 5 (.int .u8)) aC) x) (hp:(fun x=>0≤x.2.1) x):aEL.wp [gN,cC,mK] [⟨(.bJ2 (.slice 5 (.int .u8)) aC),x⟩] [] (fun v=>(fun x r=>0≤r.2.2.1:(aL)→(Int × aL)→Prop) x (v.as (.bJ2 tI (.bJ2 (.slice 5 (.int .u8)) aC)))):=by
 have q1:=aBP (x,8) ⟨hx,okI (by omega) (by omega)⟩ hp
 delta aEL gN cC mK;refine eE ?_
 refine eL ?_
 refine ⟨hp,fun _=>?_⟩
 generalize kP (x,8)=r at q1 ⊢;obtain ⟨n1,c1⟩:=r;obtain ⟨k1,u1⟩:=q1;replace k1:okD kA c1:=k1.2;dsimp only at u1 ⊢
 refine ⟨fun _ _=>⟨⟨u1,fun h=>by cases h⟩,fun _=>?_⟩,fun _=>⟨u1,fun _=>?_⟩⟩
 ·exact (iK (c1,[2147483648,-2147483648,9223372036854775807,-9223372036854775807]) ⟨k1,okL (e:=3) (by show 4≤1000;omega) (by intro y hy;simp at hy;omega)⟩ ⟨u1,by simp⟩).2.2
 ·exact (aKO c1 k1 u1).2.2
theorem aE6:∃ f:(aL)→(Int × aL),(∀ x,okD (.bJ2 (.slice 5 (.int .u8)) aC) x→(fun x=>0≤x.2.1) x→(fun x r=>0≤r.2.2.1:(aL)→(Int × aL)→Prop) x (f x))∧Con.Holds Tryz.prog { aEK with fn:=f }:=gY (C:=aEK) aX (aG vA (aG gM (aG aE4 aT))) aYT (fun x r=>0≤r.2.2.1:(aL)→(Int × aL)→Prop) aY6
def zH:(aL)→(Int × aL):=Classical.choose aE6
def mO:Con:=⟨94,(.bJ2 (.slice 5 (.int .u8)) aC),(.bJ2 tI (.bJ2 (.slice 5 (.int .u8)) aC)),[.box 90 ⟨true,(.bJ2 (.slice 5 (.int .u8)) aC),[]⟩],[⟨false,tI,[0]⟩],false,none,
 ((fun x=>0≤x.2.1):(aL)→Prop),
 ((zH):(aL)→(Int × aL))⟩
theorem aYJ:∀ x,okD (.bJ2 (.slice 5 (.int .u8)) aC) x→(fun x=>0≤x.2.1) x→(fun x r=>0≤r.2.2.1:(aL)→(Int × aL)→Prop) x (zH x):=(Classical.choose_spec aE6).1
theorem aDH:Con.Holds Tryz.prog mO:=(Classical.choose_spec aE6).2
theorem aLT (x:aL) (hx:okD (.bJ2 (.slice 5 (.int .u8)) aC) x) (hp:(fun x=>0≤x.2.1) x):okD (.bJ2 tI (.bJ2 (.slice 5 (.int .u8)) aC)) (zH x)∧(fun x r=>0≤r.2.2.1:(aL)→(Int × aL)→Prop) x (zH x):=⟨aDH.ok x hp hx,aYJ x hx hp⟩
def aDO:Con:=⟨69,(.bJ2 (.slice 5 (.int .u8)) aC),(.bJ2 aB (.bJ2 (.slice 5 (.int .u8)) aC)),[.box 90 ⟨true,(.bJ2 (.slice 5 (.int .u8)) aC),[]⟩],[⟨false,aB,[2]⟩],false,none,
 ((fun x=>0≤x.2.1):(aL)→Prop),
 ((fun _=>aS (.bJ2 aB (.bJ2 (.slice 5 (.int .u8)) aC))):(aL)→(bH × aL))⟩
def aE9:T:=.call 0 (.bJ4 (.bJ2 (.slice 5 (.int .u8)) aC) tI (.Z 0) (.ci .i64 4)) <|
 .bJ3 (.ar .add .i64) (.bJ4 tI tI (.ci .i64 1) (.p1 tI (.bJ2 (.slice 5 (.int .u8)) aC) (.Z 1))) <|
 .call 1 (.bJ4 (.bJ2 (.slice 5 (.int .u8)) aC) tI (aR (.bJ2 tI (.bJ2 (.slice 5 (.int .u8)) aC)) 1 (.Z 1)) (.Z 2)) <|
 .call 0 (.bJ4 (.bJ2 (.slice 5 (.int .u8)) aC) tI (aR (.bJ2 aB (.bJ2 (.slice 5 (.int .u8)) aC)) 1 (.Z 3)) (.ci .i64 16)) <|
 .bJ3 (.cmp .eql .i64) (.bJ4 tI tI (.p1 tI (.bJ2 (.slice 5 (.int .u8)) aC) (.Z 4)) (.ci .i64 0)) <|
 .ite (.Z 5) (
  .call 2 (aR (.bJ2 tI (.bJ2 (.slice 5 (.int .u8)) aC)) 1 (.Z 4)) <|
  .bJ3 (.bJ7 3 tI) (.bJ4 aB tI (.p1 aB (.bJ2 (.slice 5 (.int .u8)) aC) (.Z 3)) (.ci .i64 0)) <|
  .bJ3 (.bJA 3 tI) (bJ (.bJ2 aB aC) [(.p1 aB (.bJ2 (.slice 5 (.int .u8)) aC) (.Z 3)),(.ci .i64 0),(.p1 tI (.bJ2 (.slice 5 (.int .u8)) aC) (.Z 6))]) <|
  .ret (.bJ4 aB (.bJ2 (.slice 5 (.int .u8)) aC) (.Z 8) (aR (.bJ2 tI (.bJ2 (.slice 5 (.int .u8)) aC)) 1 (.Z 6)))) (
  .bJ3 (.cmp .eql .i64) (.bJ4 tI tI (.p1 tI (.bJ2 (.slice 5 (.int .u8)) aC) (.Z 4)) (.ci .i64 1)) <|
  .ite (.Z 6) (
   .bJ3 (.lit 3 tI 3) (bJ (.bJ2 tI aC) [(.ci .i64 0),(.ci .i64 6),(.ci .i64 7)]) <|
   .call 3 (.bJ4 (.bJ2 (.slice 5 (.int .u8)) aC) aB (aR (.bJ2 tI (.bJ2 (.slice 5 (.int .u8)) aC)) 1 (.Z 4)) (.Z 7)) <|
   .call 1 (.bJ4 (.bJ2 (.slice 5 (.int .u8)) aC) tI (aR (.bJ2 tI (.bJ2 (.slice 5 (.int .u8)) aC)) 1 (.Z 8)) (.p1 tI (.bJ2 (.slice 5 (.int .u8)) aC) (.Z 8))) <|
   .ret (.Z 9)) (
   .ret (.bJ4 aB (.bJ2 (.slice 5 (.int .u8)) aC) (.p1 aB (.bJ2 (.slice 5 (.int .u8)) aC) (.Z 3)) (aR (.bJ2 tI (.bJ2 (.slice 5 (.int .u8)) aC)) 1 (.Z 4)))))
theorem aX2 (f:(aL)→(bH × aL)):bV Tryz.prog [bG,iL,mO,cC] { aDO with fn:=f } false 3000 ⟨[],[(2984,6007,[21],[])]⟩ = .ok aE9:=by kernel_rfl
theorem aYD (x:aL) (hx:okD (.bJ2 (.slice 5 (.int .u8)) aC) x) (hp:(fun x=>0≤x.2.1) x):aE9.wp [bG,iL,mO,cC] [⟨(.bJ2 (.slice 5 (.int .u8)) aC),x⟩] [] (fun v=>(fun x r=>r.1.length≤7∧0≤r.2.2.1:(aL)→(bH × aL)→Prop) x (v.as (.bJ2 aB (.bJ2 (.slice 5 (.int .u8)) aC)))):=by
 have q1:=cA (x,4) ⟨hx,okI (by omega) (by omega)⟩ hp
 delta aE9 bG iL mO cC;refine eE ?_
 refine eL ?_
 refine ⟨hp,fun _=>?_⟩
 generalize bU (x,4)=r at q1 ⊢;obtain ⟨n1,c1⟩:=r;obtain ⟨kq1,uq1⟩:=q1;replace kq1:okD kA c1:=kq1.2;dsimp only at uq1 ⊢
 refine ⟨by omega,fun _=>⟨⟨uq1.2.2.2,by omega⟩,fun _=>?_⟩⟩
 have q2:=oN (c1,1+n1) ⟨kq1,okI (by omega) (by omega)⟩ ⟨uq1.2.2.2,by show 1+n1≤1000;omega⟩
 generalize mM (c1,1+n1)=r at q2 ⊢;obtain ⟨l2,c2⟩:=r;obtain ⟨kq2,uq2⟩:=q2;replace kq2:okD kA c2:=kq2.2;dsimp only at uq2 ⊢
 refine ⟨uq2.2.2,fun _=>?_⟩
 have q3:=cA (c2,16) ⟨kq2,okI (by omega) (by omega)⟩ uq2.2.2
 generalize bU (c2,16)=r at q3 ⊢;obtain ⟨n3,c3⟩:=r;obtain ⟨kq3,uq3⟩:=q3;replace kq3:okD kA c3:=kq3.2;dsimp only at uq3 ⊢
 have hl2:List.length l2≤4:=by have:=uq2.1;omega
 refine ⟨fun _=>⟨uq3.2.2.2,fun _=>?_⟩,fun _=>⟨fun _ _=>⟨⟨uq3.2.2.2,fun h=>by cases h⟩,fun _=>?_⟩,fun _=>⟨by omega,uq3.2.2.2⟩⟩⟩
 ·have q4:=(aLT c3 kq3 uq3.2.2.2).2
  (repeat' first|intro _|(with_reducible apply And.intro))
  all_goals first|omega|exact q4|(rw[List.length_set];omega)
 ·have q5:=iK (c3,[0,6,7]) ⟨kq3,okL (e:=3) (by show 3≤1000;omega) (by intro y hy;simp at hy;omega)⟩ ⟨uq3.2.2.2,by simp⟩
  generalize fN (c3,[0,6,7])=r at q5 ⊢;obtain ⟨n5,c5⟩:=r;obtain ⟨k5,u5⟩:=q5;dsimp only at u5 ⊢
  have m5:=u5.1
  simp only[List.mem_cons,List.mem_nil_iff,or_false] at m5
  refine ⟨⟨u5.2,by omega⟩,fun _=>?_⟩
  have q6:=(oN (c5,n5) ⟨k5.2,k5.1⟩ ⟨u5.2,by show n5≤1000;omega⟩).2
  dsimp only at q6
  exact ⟨by rw[q6.1];omega,q6.2.2⟩
theorem aDE:∃ f:(aL)→(bH × aL),(∀ x,okD (.bJ2 (.slice 5 (.int .u8)) aC) x→(fun x=>0≤x.2.1) x→(fun x r=>r.1.length≤7∧0≤r.2.2.1:(aL)→(bH × aL)→Prop) x (f x))∧Con.Holds Tryz.prog { aDO with fn:=f }:=gY (C:=aDO) aX (aG dV (aG yZ (aG aDH (aG gM aT)))) aX2 (fun x r=>r.1.length≤7∧0≤r.2.2.1:(aL)→(bH × aL)→Prop) aYD
def tP:(aL)→(bH × aL):=Classical.choose aDE
def yN:Con:=⟨69,(.bJ2 (.slice 5 (.int .u8)) aC),(.bJ2 aB (.bJ2 (.slice 5 (.int .u8)) aC)),[.box 90 ⟨true,(.bJ2 (.slice 5 (.int .u8)) aC),[]⟩],[⟨false,aB,[2]⟩],false,none,
 ((fun x=>0≤x.2.1):(aL)→Prop),
 ((tP):(aL)→(bH × aL))⟩
theorem aXN:∀ x,okD (.bJ2 (.slice 5 (.int .u8)) aC) x→(fun x=>0≤x.2.1) x→(fun x r=>r.1.length≤7∧0≤r.2.2.1:(aL)→(bH × aL)→Prop) x (tP x):=(Classical.choose_spec aDE).1
theorem aKU:Con.Holds Tryz.prog yN:=(Classical.choose_spec aDE).2
theorem aX5 (x:aL) (hx:okD (.bJ2 (.slice 5 (.int .u8)) aC) x) (hp:(fun x=>0≤x.2.1) x):okD (.bJ2 aB (.bJ2 (.slice 5 (.int .u8)) aC)) (tP x)∧(fun x r=>r.1.length≤7∧0≤r.2.2.1:(aL)→(bH × aL)→Prop) x (tP x):=⟨aKU.ok x hp hx,aXN x hx hp⟩
def aHK:Con:=⟨92,(.bJ2 (.bJ2 (.slice 5 (.int .u8)) aC) tI),(.bJ2 bN (.bJ2 (.slice 5 (.int .u8)) aC)),[.box 90 ⟨true,(.bJ2 (.slice 5 (.int .u8)) aC),[]⟩,.val ⟨false,tI,[]⟩],[⟨true,bN,[0,0,0,2]⟩],false,none,
 ((fun x=>0≤x.1.2.1∧1≤x.2∧x.2≤6):(aL × Int)→Prop),
 ((fun _=>aS (.bJ2 bN (.bJ2 (.slice 5 (.int .u8)) aC))):(aL × Int)→(dE × aL))⟩
def aHT:T:=.call 0 (.bJ4 (.bJ2 (.slice 5 (.int .u8)) aC) tI (.p1 (.bJ2 (.slice 5 (.int .u8)) aC) tI (.Z 0)) (.ci .i64 5)) <|
 .bJ3 (.ar .add .i64) (.bJ4 tI tI (.ci .i64 1) (.p1 tI (.bJ2 (.slice 5 (.int .u8)) aC) (.Z 1))) <|
 .bJ3 (.cmp .eql .i64) (.bJ4 tI tI (.Z 2) (.ci .i64 1)) <|
 .ite (.Z 3) (
  .call 0 (.bJ4 (.bJ2 (.slice 5 (.int .u8)) aC) tI (aR (.bJ2 tI (.bJ2 (.slice 5 (.int .u8)) aC)) 1 (.Z 1)) (.ci .i64 3)) <|
  .bJ3 (.ar .add .i64) (.bJ4 tI tI (.ci .i64 1) (.p1 tI (.bJ2 (.slice 5 (.int .u8)) aC) (.Z 4))) <|
  .call 1 (bJ bN [(.Z 2),(aR (.bJ2 (.bJ2 (.slice 5 (.int .u8)) aC) tI) 1 (.Z 0)),(.Z 5),(.nl 3 tI)]) <|
  .call 2 (.bJ4 (.bJ2 (.slice 5 (.int .u8)) aC) tI (aR (.bJ2 tI (.bJ2 (.slice 5 (.int .u8)) aC)) 1 (.Z 4)) (.Z 6)) <|
  .ret (.bJ4 bN (.bJ2 (.slice 5 (.int .u8)) aC) (bJ bN [(.Z 2),(aR (.bJ2 (.bJ2 (.slice 5 (.int .u8)) aC) tI) 1 (.Z 0)),(.Z 5),(.p1 aB (.bJ2 (.slice 5 (.int .u8)) aC) (.Z 7))]) (aR (.bJ2 aB (.bJ2 (.slice 5 (.int .u8)) aC)) 1 (.Z 7)))) (
  .call 1 (bJ bN [(.Z 2),(aR (.bJ2 (.bJ2 (.slice 5 (.int .u8)) aC) tI) 1 (.Z 0)),(aR (.bJ2 (.bJ2 (.slice 5 (.int .u8)) aC) tI) 1 (.Z 0)),(.nl 3 tI)]) <|
  .call 2 (.bJ4 (.bJ2 (.slice 5 (.int .u8)) aC) tI (aR (.bJ2 tI (.bJ2 (.slice 5 (.int .u8)) aC)) 1 (.Z 1)) (.Z 4)) <|
  .ret (.bJ4 bN (.bJ2 (.slice 5 (.int .u8)) aC) (bJ bN [(.Z 2),(aR (.bJ2 (.bJ2 (.slice 5 (.int .u8)) aC) tI) 1 (.Z 0)),(aR (.bJ2 (.bJ2 (.slice 5 (.int .u8)) aC) tI) 1 (.Z 0)),(.p1 aB (.bJ2 (.slice 5 (.int .u8)) aC) (.Z 5))]) (aR (.bJ2 aB (.bJ2 (.slice 5 (.int .u8)) aC)) 1 (.Z 5))))
theorem bC3 (f:(aL × Int)→(dE × aL)):bV Tryz.prog [bG,iU,iL] { aHK with fn:=f } false 3000 ⟨[],[]⟩ = .ok aHT:=by kernel_rfl
theorem bAA (x:aL × Int) (hx:okD (.bJ2 (.bJ2 (.slice 5 (.int .u8)) aC) tI) x) (hp:(fun x=>0≤x.1.2.1∧1≤x.2∧x.2≤6) x):aHT.wp [bG,iU,iL] [⟨(.bJ2 (.bJ2 (.slice 5 (.int .u8)) aC) tI),x⟩] [] (fun v=>(fun x r=>(opB r.1=true∧r.1.2.1=x.2)∧0≤r.2.2.1:(aL × Int)→(dE × aL)→Prop) x (v.as (.bJ2 bN (.bJ2 (.slice 5 (.int .u8)) aC)))):=by
 obtain ⟨c,n⟩:=x
 obtain ⟨hp,hn1,hn2⟩:0≤c.2.1∧1≤n∧n≤6:=hp
 have q1:=cA (c,5) ⟨hx.1,okI (by omega) (by omega)⟩ hp
 delta aHT bG iU iL;refine eE ?_
 refine eL ?_
 refine ⟨hp,fun _=>?_⟩
 generalize bU (c,5)=r at q1 ⊢;obtain ⟨n1,c1⟩:=r;obtain ⟨k1,u1⟩:=q1;replace k1:okD kA c1:=k1.2;dsimp only at u1 ⊢
 refine ⟨by omega,fun _=>⟨fun h1=>⟨u1.2.2.2,fun _=>?_⟩,fun h1 hs=>?_⟩⟩
 ·have q2:=cA (c1,3) ⟨k1,okI (by omega) (by omega)⟩ u1.2.2.2
  generalize bU (c1,3)=r at q2 ⊢;obtain ⟨n2,c2⟩:=r;obtain ⟨k2,u2⟩:=q2;replace k2:okD kA c2:=k2.2;dsimp only at u2 ⊢
  have hz:=bG7 (k:=1+n1) (i:=n) (o:=1+n2) hn1 hn2 (by omega) (by omega)
  refine ⟨by omega,fun _ hs=>⟨⟨u2.2.2.2,by omega⟩,fun _=>?_⟩⟩
  have q3:=(oN (c2,fG (1+n1,n,1+n2,[])) ⟨k2,hs⟩ ⟨u2.2.2.2,by show fG (1+n1,n,1+n2,[])≤1000;omega⟩).2
  exact ⟨⟨bBT (by omega) (by omega) hn1 hn2 (by omega) (by omega) (by omega) q3.1 q3.2.1,trivial⟩,q3.2.2⟩
 ·have hz:=bG7 (k:=1+n1) (i:=n) (o:=n) hn1 hn2 hn1 hn2
  refine ⟨⟨u1.2.2.2,by omega⟩,fun _=>?_⟩
  have q3:=(oN (c1,fG (1+n1,n,n,[])) ⟨k1,hs⟩ ⟨u1.2.2.2,by show fG (1+n1,n,n,[])≤1000;omega⟩).2
  exact ⟨⟨bBT (by omega) (by omega) hn1 hn2 hn1 hn2 (fun _=>rfl) q3.1 q3.2.1,trivial⟩,q3.2.2⟩
theorem aG8:∃ f:(aL × Int)→(dE × aL),(∀ x,okD (.bJ2 (.bJ2 (.slice 5 (.int .u8)) aC) tI) x→(fun x=>0≤x.1.2.1∧1≤x.2∧x.2≤6) x→(fun x r=>(opB r.1=true∧r.1.2.1=x.2)∧0≤r.2.2.1:(aL × Int)→(dE × aL)→Prop) x (f x))∧Con.Holds Tryz.prog { aHK with fn:=f }:=gY (C:=aHK) aX (aG dV (aG aGB (aG yZ aT))) bC3 (fun x r=>(opB r.1=true∧r.1.2.1=x.2)∧0≤r.2.2.1:(aL × Int)→(dE × aL)→Prop) bAA
def tM:(aL × Int)→(dE × aL):=Classical.choose aG8
def pM:Con:=⟨92,(.bJ2 (.bJ2 (.slice 5 (.int .u8)) aC) tI),(.bJ2 bN (.bJ2 (.slice 5 (.int .u8)) aC)),[.box 90 ⟨true,(.bJ2 (.slice 5 (.int .u8)) aC),[]⟩,.val ⟨false,tI,[]⟩],[⟨true,bN,[0,0,0,2]⟩],false,none,
 ((fun x=>0≤x.1.2.1∧1≤x.2∧x.2≤6):(aL × Int)→Prop),
 ((tM):(aL × Int)→(dE × aL))⟩
theorem bCI:∀ x,okD (.bJ2 (.bJ2 (.slice 5 (.int .u8)) aC) tI) x→(fun x=>0≤x.1.2.1∧1≤x.2∧x.2≤6) x→(fun x r=>(opB r.1=true∧r.1.2.1=x.2)∧0≤r.2.2.1:(aL × Int)→(dE × aL)→Prop) x (tM x):=(Classical.choose_spec aG8).1
theorem aIA:Con.Holds Tryz.prog pM:=(Classical.choose_spec aG8).2
theorem aQ0 (x:aL × Int) (hx:okD (.bJ2 (.bJ2 (.slice 5 (.int .u8)) aC) tI) x) (hp:(fun x=>0≤x.1.2.1∧1≤x.2∧x.2≤6) x):okD (.bJ2 bN (.bJ2 (.slice 5 (.int .u8)) aC)) (tM x)∧(fun x r=>(opB r.1=true∧r.1.2.1=x.2)∧0≤r.2.2.1:(aL × Int)→(dE × aL)→Prop) x (tM x):=⟨aIA.ok x hp hx,bCI x hx hp⟩
def wL:Con:=⟨63,(.bJ2 (.slice 5 (.int .u8)) aC),(.bJ2 aD (.bJ2 (.slice 5 (.int .u8)) aC)),[.box 90 ⟨true,(.bJ2 (.slice 5 (.int .u8)) aC),[]⟩],[⟨true,aD,[2]⟩],false,none,
 ((fun x=>0≤x.2.1):(aL)→Prop),
 ((fun _=>aS (.bJ2 aD (.bJ2 (.slice 5 (.int .u8)) aC))):(aL)→(aW × aL))⟩
def xL:T:=.call 0 (.bJ4 (.bJ2 (.slice 5 (.int .u8)) aC) tI (.Z 0) (.ci .i64 3)) <|
 .bJ3 (.ar .add .i64) (.bJ4 tI tI (.ci .i64 1) (.p1 tI (.bJ2 (.slice 5 (.int .u8)) aC) (.Z 1))) <|
 .call 0 (.bJ4 (.bJ2 (.slice 5 (.int .u8)) aC) tI (aR (.bJ2 tI (.bJ2 (.slice 5 (.int .u8)) aC)) 1 (.Z 1)) (.ci .i64 6)) <|
 .bJ3 (.ar .add .i64) (.bJ4 tI tI (.ci .i64 1) (.p1 tI (.bJ2 (.slice 5 (.int .u8)) aC) (.Z 3))) <|
 .loop (.bJ2 tI (.bJ2 tI (.bJ2 (.slice 5 (.int .u8)) (.bJ2 tI (.bJ2 tI aD))))) (bJ (.bJ2 tI (.bJ2 tI (.bJ2 (.slice 5 (.int .u8)) (.bJ2 tI (.bJ2 tI aD))))) [(.Z 4),(.Z 2),(aJ (.bJ2 tI (.bJ2 (.slice 5 (.int .u8)) aC)) 1 (.Z 3)),(aJ (.bJ2 tI (.bJ2 (.slice 5 (.int .u8)) aC)) 2 (.Z 3)),(aR (.bJ2 tI (.bJ2 (.slice 5 (.int .u8)) aC)) 3 (.Z 3)),(.nl 93 bN)]) <|
  .bJ3 (.cmp .gtr .i64) (.bJ4 tI tI (.p1 tI (.bJ2 tI (.bJ2 (.slice 5 (.int .u8)) (.bJ2 tI (.bJ2 tI aD)))) (.Z 5)) (.ci .i64 0)) <|
  .ite (.Z 6) (
   .call 1 (.bJ4 (.bJ2 (.slice 5 (.int .u8)) aC) tI (bJ (.bJ2 (.slice 5 (.int .u8)) aC) [(aJ (.bJ2 tI (.bJ2 tI (.bJ2 (.slice 5 (.int .u8)) (.bJ2 tI (.bJ2 tI aD))))) 2 (.Z 5)),(aJ (.bJ2 tI (.bJ2 tI (.bJ2 (.slice 5 (.int .u8)) (.bJ2 tI (.bJ2 tI aD))))) 3 (.Z 5)),(aJ (.bJ2 tI (.bJ2 tI (.bJ2 (.slice 5 (.int .u8)) (.bJ2 tI (.bJ2 tI aD))))) 4 (.Z 5))]) (aJ (.bJ2 tI (.bJ2 tI (.bJ2 (.slice 5 (.int .u8)) (.bJ2 tI (.bJ2 tI aD))))) 1 (.Z 5))) <|
   .bJ3 (.lit 93 bN 1) (.p1 bN (.bJ2 (.slice 5 (.int .u8)) aC) (.Z 7)) <|
   .bJ3 (.bJ9 93 bN 48) (.bJ4 aD aD (aR (.bJ2 tI (.bJ2 tI (.bJ2 (.slice 5 (.int .u8)) (.bJ2 tI (.bJ2 tI aD))))) 5 (.Z 5)) (.Z 8)) <|
   .bJ3 (.ar .sub .i64) (.bJ4 tI tI (.p1 tI (.bJ2 tI (.bJ2 (.slice 5 (.int .u8)) (.bJ2 tI (.bJ2 tI aD)))) (.Z 5)) (.ci .i64 1)) <|
   .bJ5 0 (bJ (.bJ2 tI (.bJ2 tI (.bJ2 (.slice 5 (.int .u8)) (.bJ2 tI (.bJ2 tI aD))))) [(.Z 10),(aJ bN 2 (.p1 bN (.bJ2 (.slice 5 (.int .u8)) aC) (.Z 7))),(aJ (.bJ2 bN (.bJ2 (.slice 5 (.int .u8)) aC)) 1 (.Z 7)),(aJ (.bJ2 bN (.bJ2 (.slice 5 (.int .u8)) aC)) 2 (.Z 7)),(aR (.bJ2 bN (.bJ2 (.slice 5 (.int .u8)) aC)) 3 (.Z 7)),(.Z 9)])) (
   .ret (bJ (.bJ2 aD (.bJ2 (.slice 5 (.int .u8)) aC)) [(aR (.bJ2 tI (.bJ2 tI (.bJ2 (.slice 5 (.int .u8)) (.bJ2 tI (.bJ2 tI aD))))) 5 (.Z 5)),(aJ (.bJ2 tI (.bJ2 tI (.bJ2 (.slice 5 (.int .u8)) (.bJ2 tI (.bJ2 tI aD))))) 2 (.Z 5)),(aJ (.bJ2 tI (.bJ2 tI (.bJ2 (.slice 5 (.int .u8)) (.bJ2 tI (.bJ2 tI aD))))) 3 (.Z 5)),(aJ (.bJ2 tI (.bJ2 tI (.bJ2 (.slice 5 (.int .u8)) (.bJ2 tI (.bJ2 tI aD))))) 4 (.Z 5))]))
theorem aRH (f:(aL)→(aW × aL)):bV Tryz.prog [bG,pM] { wL with fn:=f } false 3000 ⟨[(2989,1005,mW 13 7++[.tm 5 0,.tm 4 0,.bx 1 0,.bx 1 1,.bx 1 2,.sl 6])],[(2978,3008,[],[7])]⟩ = .ok xL:=by kernel_rfl
theorem aP2 (x:aL) (hx:okD (.bJ2 (.slice 5 (.int .u8)) aC) x) (hp:(fun x=>0≤x.2.1) x):xL.wp [bG,pM] [⟨(.bJ2 (.slice 5 (.int .u8)) aC),x⟩] [] (fun v=>(fun x r=>(1≤r.1.length∧bT r.1=true)∧r.1.length≤6∧(∀ o∈r.1,opB o=true)∧0≤r.2.2.1:(aL)→(aW × aL)→Prop) x (v.as (.bJ2 aD (.bJ2 (.slice 5 (.int .u8)) aC)))):=by
 have q1:=cA (x,3) ⟨hx,okI (by omega) (by omega)⟩ hp
 delta xL bG pM;refine eE ?_
 refine eL ?_
 refine ⟨hp,fun _=>?_⟩
 generalize bU (x,3)=r at q1 ⊢;obtain ⟨n1,c1⟩:=r;obtain ⟨k1,u1⟩:=q1;replace k1:okD kA c1:=k1.2;dsimp only at u1 ⊢
 refine ⟨by omega,fun _=>⟨u1.2.2.2,fun _=>?_⟩⟩
 have q2:=cA (c1,6) ⟨k1,okI (by omega) (by omega)⟩ u1.2.2.2
 generalize bU (c1,6)=r at q2 ⊢;obtain ⟨n2,c2⟩:=r;obtain ⟨k2,u2⟩:=q2;replace k2:okD kA c2:=k2.2;dsimp only at u2 ⊢
 refine ⟨by omega,fun _=>⟨fun s=>@LE.le Int _ 0 s.1∧(List.length s.2.2.2.2.2:Int)+s.1=1+n2∧@LE.le Int _ 1 s.2.1∧@LE.le Int _ s.2.1 6∧((∀ o∈s.2.2.2.2.2,opB o=true)∧chB s.2.2.2.2.2 s.2.1)∧@LE.le Int _ 0 s.2.2.2.1,fun s=>(s.1:Int).toNat,⟨by show 0≤1+n2;omega,by show (0:Int)+(1+n2)=1+n2;omega,by show 1≤1+n1;omega,by show 1+n1≤6;omega,⟨fun o h=>by simp at h,fun i h=>absurd h (Nat.not_lt_zero _),fun h=>absurd h (Nat.lt_irrefl _)⟩,u2.2.2.2⟩,fun s hs hI=>?_⟩⟩
 obtain ⟨j,g,b,i,h,l⟩:=s
 obtain ⟨e1,e2,e3,e4,⟨e5,e7⟩,e6⟩:=hI
 change Int at j
 change Int at g
 change List dE at l
 change 0≤j at e1
 change (l.length:Int)+j=1+n2 at e2
 change 1≤g at e3
 change g≤6 at e4
 change ∀ o∈l,opB o=true at e5
 change chB l g at e7
 have q:=(aQ0 ((b,i,h),g) ⟨⟨hs.2.2.1,hs.2.2.2.1,hs.2.2.2.2.1⟩,hs.2.1⟩ ⟨e6,e3,e4⟩).2
 try dsimp only
 refine ⟨fun hlt=>⟨⟨e6,e3,e4⟩,fun _ _=>⟨⟨by omega,by unfold maxLen;omega⟩,fun _=>⟨by omega,fun _=>⟨⟨by omega,?_,?_,?_,⟨fun o ho=>?_,bD6 e7 q.1.1 q.1.2⟩,q.2⟩,?_⟩⟩⟩⟩,fun hge=>?_⟩
 ·show (((l++[(tM ((b,i,h),g)).fst]).length:Nat):Int)+(j - 1)=1+n2
  rw[List.length_append];simp;omega
 ·obtain ⟨⟨_,_,_,_,j1,j2,_⟩,_⟩:=(gG _).1 q.1.1
  exact j1
 ·obtain ⟨⟨_,_,_,_,j1,j2,_⟩,_⟩:=(gG _).1 q.1.1
  exact j2
 ·rcases List.mem_append.1 ho with ho|ho
  ·exact e5 o ho
  ·rw[List.mem_singleton] at ho
   rw[ho];exact q.1.1
 ·show (j - 1).toNat<j.toNat
  omega
 ·have hj:j≤0:=by simpa using hge
  exact ⟨⟨by omega,(bR l).2 ⟨by omega,by omega,e7.1⟩⟩,by omega,e5,e6⟩
theorem wV:∃ f:(aL)→(aW × aL),(∀ x,okD (.bJ2 (.slice 5 (.int .u8)) aC) x→(fun x=>0≤x.2.1) x→(fun x r=>(1≤r.1.length∧bT r.1=true)∧r.1.length≤6∧(∀ o∈r.1,opB o=true)∧0≤r.2.2.1:(aL)→(aW × aL)→Prop) x (f x))∧Con.Holds Tryz.prog { wL with fn:=f }:=gY (C:=wL) aX (aG dV (aG aIA aT)) aRH (fun x r=>(1≤r.1.length∧bT r.1=true)∧r.1.length≤6∧(∀ o∈r.1,opB o=true)∧0≤r.2.2.1:(aL)→(aW × aL)→Prop) aP2
def lD:(aL)→(aW × aL):=Classical.choose wV
def iV:Con:=⟨63,(.bJ2 (.slice 5 (.int .u8)) aC),(.bJ2 aD (.bJ2 (.slice 5 (.int .u8)) aC)),[.box 90 ⟨true,(.bJ2 (.slice 5 (.int .u8)) aC),[]⟩],[⟨true,aD,[2]⟩],false,none,
 ((fun x=>0≤x.2.1):(aL)→Prop),
 ((lD):(aL)→(aW × aL))⟩
theorem aQA:∀ x,okD (.bJ2 (.slice 5 (.int .u8)) aC) x→(fun x=>0≤x.2.1) x→(fun x r=>(1≤r.1.length∧bT r.1=true)∧r.1.length≤6∧(∀ o∈r.1,opB o=true)∧0≤r.2.2.1:(aL)→(aW × aL)→Prop) x (lD x):=(Classical.choose_spec wV).1
theorem yE:Con.Holds Tryz.prog iV:=(Classical.choose_spec wV).2
theorem aF5 (x:aL) (hx:okD (.bJ2 (.slice 5 (.int .u8)) aC) x) (hp:(fun x=>0≤x.2.1) x):okD (.bJ2 aD (.bJ2 (.slice 5 (.int .u8)) aC)) (lD x)∧(fun x r=>(1≤r.1.length∧bT r.1=true)∧r.1.length≤6∧(∀ o∈r.1,opB o=true)∧0≤r.2.2.1:(aL)→(aW × aL)→Prop) x (lD x):=⟨yE.ok x hp hx,aQA x hx hp⟩
def wQ:Con:=⟨65,(.bJ2 (.bJ2 (.slice 5 (.int .u8)) aC) aD),(.bJ2 aF (.bJ2 (.slice 5 (.int .u8)) aC)),[.box 90 ⟨true,(.bJ2 (.slice 5 (.int .u8)) aC),[]⟩,.val ⟨true,aD,[]⟩],[⟨false,aF,[2]⟩],false,none,
 ((fun x=>0≤x.1.2.1):(aL × aW)→Prop),
 ((fun _=>aS (.bJ2 aF (.bJ2 (.slice 5 (.int .u8)) aC))):(aL × aW)→(bS × aL))⟩
def yI:T:=.call 0 (.bJ4 (.bJ2 (.slice 5 (.int .u8)) aC) tI (.p1 (.bJ2 (.slice 5 (.int .u8)) aC) aD (.Z 0)) (.ci .i64 4)) <|
 .bJ3 (.ar .add .i64) (.bJ4 tI tI (.ci .i64 1) (.p1 tI (.bJ2 (.slice 5 (.int .u8)) aC) (.Z 1))) <|
 .loop (.bJ2 tI (.bJ2 (.slice 5 (.int .u8)) (.bJ2 tI (.bJ2 tI aF)))) (bJ (.bJ2 tI (.bJ2 (.slice 5 (.int .u8)) (.bJ2 tI (.bJ2 tI aF)))) [(.Z 2),(aJ (.bJ2 tI (.bJ2 (.slice 5 (.int .u8)) aC)) 1 (.Z 1)),(aJ (.bJ2 tI (.bJ2 (.slice 5 (.int .u8)) aC)) 2 (.Z 1)),(aR (.bJ2 tI (.bJ2 (.slice 5 (.int .u8)) aC)) 3 (.Z 1)),(.nl 67 aQ)]) <|
  .bJ3 (.cmp .gtr .i64) (.bJ4 tI tI (.p1 tI (.bJ2 (.slice 5 (.int .u8)) (.bJ2 tI (.bJ2 tI aF))) (.Z 3)) (.ci .i64 0)) <|
  .ite (.Z 4) (
   .call 1 (aR (.bJ2 (.bJ2 (.slice 5 (.int .u8)) aC) aD) 1 (.Z 0)) <|
   .call 2 (.bJ4 (.bJ2 (.slice 5 (.int .u8)) aC) tI (bJ (.bJ2 (.slice 5 (.int .u8)) aC) [(aJ (.bJ2 tI (.bJ2 (.slice 5 (.int .u8)) (.bJ2 tI (.bJ2 tI aF)))) 1 (.Z 3)),(aJ (.bJ2 tI (.bJ2 (.slice 5 (.int .u8)) (.bJ2 tI (.bJ2 tI aF)))) 2 (.Z 3)),(aJ (.bJ2 tI (.bJ2 (.slice 5 (.int .u8)) (.bJ2 tI (.bJ2 tI aF)))) 3 (.Z 3))]) (.Z 5)) <|
   .call 3 (aR (.bJ2 (.bJ2 (.slice 5 (.int .u8)) aC) aD) 1 (.Z 0)) <|
   .call 2 (.bJ4 (.bJ2 (.slice 5 (.int .u8)) aC) tI (aR (.bJ2 aB (.bJ2 (.slice 5 (.int .u8)) aC)) 1 (.Z 6)) (.Z 7)) <|
   .bJ3 (.lit 67 aQ 1) (.bJ4 aB aB (.p1 aB (.bJ2 (.slice 5 (.int .u8)) aC) (.Z 6)) (.p1 aB (.bJ2 (.slice 5 (.int .u8)) aC) (.Z 8))) <|
   .bJ3 (.bJ9 67 aQ 48) (.bJ4 aF aF (aR (.bJ2 tI (.bJ2 (.slice 5 (.int .u8)) (.bJ2 tI (.bJ2 tI aF)))) 4 (.Z 3)) (.Z 9)) <|
   .bJ3 (.ar .sub .i64) (.bJ4 tI tI (.p1 tI (.bJ2 (.slice 5 (.int .u8)) (.bJ2 tI (.bJ2 tI aF))) (.Z 3)) (.ci .i64 1)) <|
   .bJ5 0 (bJ (.bJ2 tI (.bJ2 (.slice 5 (.int .u8)) (.bJ2 tI (.bJ2 tI aF)))) [(.Z 11),(aJ (.bJ2 aB (.bJ2 (.slice 5 (.int .u8)) aC)) 1 (.Z 8)),(aJ (.bJ2 aB (.bJ2 (.slice 5 (.int .u8)) aC)) 2 (.Z 8)),(aR (.bJ2 aB (.bJ2 (.slice 5 (.int .u8)) aC)) 3 (.Z 8)),(.Z 10)])) (
   .ret (bJ (.bJ2 aF (.bJ2 (.slice 5 (.int .u8)) aC)) [(aR (.bJ2 tI (.bJ2 (.slice 5 (.int .u8)) (.bJ2 tI (.bJ2 tI aF)))) 4 (.Z 3)),(aJ (.bJ2 tI (.bJ2 (.slice 5 (.int .u8)) (.bJ2 tI (.bJ2 tI aF)))) 1 (.Z 3)),(aJ (.bJ2 tI (.bJ2 (.slice 5 (.int .u8)) (.bJ2 tI (.bJ2 tI aF)))) 2 (.Z 3)),(aJ (.bJ2 tI (.bJ2 (.slice 5 (.int .u8)) (.bJ2 tI (.bJ2 tI aF)))) 3 (.Z 3))]))
theorem aQV (f:(aL × aW)→(bS × aL)):bV Tryz.prog [bG,nI,iL,lA] { wQ with fn:=f } false 3000 ⟨[(2991,1003,mW 10 7++[.dr 1,.tm 6 0,.on 5,.bx 1 0,.bx 1 1,.bx 1 2,.sl 3])],[(2983,3005,[23,19],[])]⟩ = .ok yI:=by kernel_rfl
theorem aOA (x:aL × aW) (hx:okD (.bJ2 (.bJ2 (.slice 5 (.int .u8)) aC) aD) x) (hp:(fun x=>0≤x.1.2.1) x):yI.wp [bG,nI,iL,lA] [⟨(.bJ2 (.bJ2 (.slice 5 (.int .u8)) aC) aD),x⟩] [] (fun v=>(fun x r=>(1≤r.1.length∧(bT x.2=true→dY x.2 r.1=true))∧r.1.length≤4∧(∀ p∈r.1,p.1.length≤6∧p.2.length≤6)∧0≤r.2.2.1:(aL × aW)→(bS × aL)→Prop) x (v.as (.bJ2 aF (.bJ2 (.slice 5 (.int .u8)) aC)))):=by
 obtain ⟨c,m⟩:=x
 have q1:=cA (c,4) ⟨hx.1,okI (by omega) (by omega)⟩ hp
 have ib:=bHT m
 have ob:=bFT m
 delta yI bG nI iL lA;refine eE ?_
 refine eL ?_
 refine ⟨hp,fun _=>?_⟩
 generalize bU (c,4)=r at q1 ⊢;obtain ⟨n1,c1⟩:=r;obtain ⟨k1,u1⟩:=q1;replace k1:okD kA c1:=k1.2;dsimp only at u1 ⊢
 refine ⟨by omega,fun _=>⟨fun s=>@LE.le Int _ 0 s.1∧(List.length s.2.2.2.2:Int)+s.1=1+n1∧((∀ p∈s.2.2.2.2,List.length p.1≤6∧List.length p.2≤6)∧∀ p∈s.2.2.2.2,bT m=true→jR m p=true)∧@LE.le Int _ 0 s.2.2.1,fun s=>(s.1:Int).toNat,⟨by show 0≤1+n1;omega,by show (0:Int)+(1+n1)=1+n1;omega,⟨fun o h=>(by simp at h),fun o h=>by simp at h⟩,u1.2.2.2⟩,fun s hs hI=>?_⟩⟩
 obtain ⟨j,b,i,h,l⟩:=s
 obtain ⟨e1,e2,⟨e5,e7⟩,e6⟩:=hI
 change Int at j
 change List cI at l
 change 0≤j at e1
 change (l.length:Int)+j=1+n1 at e2
 change ∀ p∈l,List.length p.1≤6∧List.length p.2≤6 at e5
 change ∀ p∈l,bT m=true→jR m p=true at e7
 try dsimp only
 refine ⟨fun hlt hi=>⟨⟨e6,by omega⟩,fun _ ho=>?_⟩,fun hge=>?_⟩
 ·have q2:=oN ((b,i,h),jG m) ⟨⟨hs.2.1,hs.2.2.1,hs.2.2.2.1⟩,hi⟩ ⟨e6,by show jG m≤1000;omega⟩
  generalize mM ((b,i,h),jG m)=r at q2 ⊢;obtain ⟨v2,c2⟩:=r;obtain ⟨k2,u2⟩:=q2;replace k2:okD kA c2:=k2.2;dsimp only at u2 ⊢
  refine ⟨⟨u2.2.2,by omega⟩,fun _=>?_⟩
  have q3:=(oN (c2,fI m) ⟨k2,ho⟩ ⟨u2.2.2,by show fI m≤1000;omega⟩).2
  generalize mM (c2,fI m)=r at q3 ⊢;obtain ⟨v3,c3⟩:=r;dsimp only at q3 ⊢
  refine fun _=>⟨⟨by omega,by unfold maxLen;omega⟩,fun _=>⟨by omega,fun _=>⟨⟨by omega,?_,⟨fun p hp=>?_,fun p hp hm=>?_⟩,q3.2.2⟩,?_⟩⟩⟩
  ·show (((l++[(v2,v3)]).length:Nat):Int)+(j - 1)=1+n1
   rw[List.length_append];simp;omega
  ·rcases List.mem_append.1 hp with hp|hp
   ·exact e5 p hp
   ·rw[List.mem_singleton] at hp
    subst hp
    exact ⟨by show List.length v2≤6;rw[u2.1];omega,by show List.length v3≤6;rw[q3.1];omega⟩
  ·rcases List.mem_append.1 hp with hp|hp
   ·exact e7 p hp hm
   ·rw[List.mem_singleton] at hp
    subst hp
    have h1:=bH6 hm
    show (gC v2 (jG m)&&gC v3 (fI m))=true
    rw[aVX h1.1 ib.2 u2.1 u2.2.1,aVX h1.2 ob.2 q3.1 q3.2.1];rfl
  ·show (j - 1).toNat<j.toNat
   omega
 ·have hj:j≤0:=by simpa using hge
  exact ⟨⟨by omega,fun hm=>(aH6 m l).2 ⟨hm,⟨by omega,by omega⟩,List.all_eq_true.2 fun p hp=>e7 p hp hm⟩⟩,by omega,e5,e6⟩
theorem wX:∃ f:(aL × aW)→(bS × aL),(∀ x,okD (.bJ2 (.bJ2 (.slice 5 (.int .u8)) aC) aD) x→(fun x=>0≤x.1.2.1) x→(fun x r=>(1≤r.1.length∧(bT x.2=true→dY x.2 r.1=true))∧r.1.length≤4∧(∀ p∈r.1,p.1.length≤6∧p.2.length≤6)∧0≤r.2.2.1:(aL × aW)→(bS × aL)→Prop) x (f x))∧Con.Holds Tryz.prog { wQ with fn:=f }:=gY (C:=wQ) aX (aG dV (aG aRN (aG yZ (aG aLK aT)))) aQV (fun x r=>(1≤r.1.length∧(bT x.2=true→dY x.2 r.1=true))∧r.1.length≤4∧(∀ p∈r.1,p.1.length≤6∧p.2.length≤6)∧0≤r.2.2.1:(aL × aW)→(bS × aL)→Prop) aOA
def kZ:(aL × aW)→(bS × aL):=Classical.choose wX
def iZ:Con:=⟨65,(.bJ2 (.bJ2 (.slice 5 (.int .u8)) aC) aD),(.bJ2 aF (.bJ2 (.slice 5 (.int .u8)) aC)),[.box 90 ⟨true,(.bJ2 (.slice 5 (.int .u8)) aC),[]⟩,.val ⟨true,aD,[]⟩],[⟨false,aF,[2]⟩],false,none,
 ((fun x=>0≤x.1.2.1):(aL × aW)→Prop),
 ((kZ):(aL × aW)→(bS × aL))⟩
theorem aP7:∀ x,okD (.bJ2 (.bJ2 (.slice 5 (.int .u8)) aC) aD) x→(fun x=>0≤x.1.2.1) x→(fun x r=>(1≤r.1.length∧(bT x.2=true→dY x.2 r.1=true))∧r.1.length≤4∧(∀ p∈r.1,p.1.length≤6∧p.2.length≤6)∧0≤r.2.2.1:(aL × aW)→(bS × aL)→Prop) x (kZ x):=(Classical.choose_spec wX).1
theorem xS:Con.Holds Tryz.prog iZ:=(Classical.choose_spec wX).2
theorem aEW (x:aL × aW) (hx:okD (.bJ2 (.bJ2 (.slice 5 (.int .u8)) aC) aD) x) (hp:(fun x=>0≤x.1.2.1) x):okD (.bJ2 aF (.bJ2 (.slice 5 (.int .u8)) aC)) (kZ x)∧(fun x r=>(1≤r.1.length∧(bT x.2=true→dY x.2 r.1=true))∧r.1.length≤4∧(∀ p∈r.1,p.1.length≤6∧p.2.length≤6)∧0≤r.2.2.1:(aL × aW)→(bS × aL)→Prop) x (kZ x):=⟨xS.ok x hp hx,aP7 x hx hp⟩
end
end Go.Proofs.YtpleleanibgniaaGreat
