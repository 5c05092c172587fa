/- Draw1: lemmas. No conditions. -/
import Derived.Test.YtdeobhdbmehpgaaGreatDrawC
import Derived.Test.YtdeobhdbmehpgaaGreatLoop
import Derived.Test.YtdeobhdbmehpgaaGreatSeq5
namespace Go.Proofs.YtdeobhdbmehpgaaGreat
noncomputable section
set_option maxRecDepth 100000
open Go.ChangeShapes Go.WideShapes Go.ChangeAt Go.RowKit Go.Deep
set_option linter.unusedVariables false
set_option linter.unusedSimpArgs false
theorem bBK (x:Int):0≤aCG .and .i64 x 255∧aCG .and .i64 x 255≤255:=aSN (m:=255) (by decide)
theorem bM7 {α:Type} {l:List α} (h:l.length≤maxLen):l.length≤9223372036854775807:=by unfold maxLen at h;omega
theorem tmB {a n:Int} (ha:0≤a) (hn:0<n):0≤a.tmod n∧a.tmod n<n:=by
 rw[Int.tmod_eq_emod_of_nonneg ha]
 exact ⟨Int.emod_nonneg _ (by omega),Int.emod_lt_of_pos _ hn⟩
theorem tdB {a p:Int} (h1:-600000≤a) (h2:a≤600000):-600000≤a.tdiv p∧a.tdiv p≤600000:=by
 have h:=Int.natAbs_tdiv a p
 have h3:=Nat.div_le_self a.natAbs p.natAbs
 have h4:a.natAbs.div p.natAbs=a.natAbs / p.natAbs:=rfl
 omega
theorem bBL {m:bD} (h:bW m=true) {k:Nat} (hk:k<m.length):1≤m[k].2.1∧m[k].2.1≤6∧1≤m[k].2.2.1∧m[k].2.2.1≤6:=by
 have:=((bR m).1 h).2.2 k hk
 obtain ⟨⟨_,_,h1,h2,h3,h4,_⟩,_⟩:=(hK _).1 ((wC m hk).1 this).1
 exact ⟨h1,h2,h3,h4⟩
theorem bMA (m:bD):0≤iJ m∧iJ m≤6:=by
 unfold iJ
 split
 ·rename_i h
  have hl:=(bR m).1 h
  have h0:0<m.length:=by omega
  have:=bBL h h0
  rw[aZ h0]
  omega
 ·omega
theorem bJO (m:bD):0≤eM m∧eM m≤6:=by
 unfold eM
 split
 ·rename_i h
  have hl:=(bR m).1 h
  have h0:List.length m - 1<m.length:=by omega
  have:=bBL h h0
  rw[aZ h0]
  omega
 ·omega
theorem bMV {k i o:Int} (h1:1≤i) (h2:i≤6) (h3:1≤o) (h4:o≤6):0≤gC (k,i,o,[])∧gC (k,i,o,[])≤36:=by
 have:=aOW h1 h2 h3 h4
 unfold gC
 dsimp only
 repeat' split
 all_goals omega
theorem bHK {k i o:Int} {P:List Int} (k1:1≤k) (k5:k≤5) (h1:1≤i) (h2:i≤6) (h3:1≤o) (h4:o≤6) (hk:k≠1→i=o) (hl:P.length=(gC (k,i,o,[])).toNat) (ha:∀ v∈P,iP v=true):opB (k,i,o,P)=true:=by
 have hs:=bMV (k:=k) h1 h2 h3 h4
 refine (hK _).2 ⟨⟨k1,k5,h1,h2,h3,h4,hk,?_⟩,List.all_eq_true.2 ha⟩
 show (P.length:Int)=gC (k,i,o,[])
 omega
def chB (l:List dJ) (g:Int):Prop:=(∀ i,i<l.length→aMN l i=true)∧(0<l.length→(l.getD (l.length - 1) zOp).2.2.1=g)
theorem bFX {l:List dJ} {o:dJ} {g:Int} (h:chB l g) (ho:opB o=true) (hi:o.2.1=g):chB (l++[o]) o.2.2.1:=by
 have e:∀ j,j<l.length→(l++[o]).getD j zOp=l.getD j zOp:=fun j hj=>by
  rw[List.getD_eq_getElem?_getD,List.getD_eq_getElem?_getD,List.getElem?_append_left hj]
 have e2:(l++[o]).getD l.length zOp=o:=by
  rw[List.getD_eq_getElem?_getD,List.getElem?_append_right (Nat.le_refl _),Nat.sub_self];rfl
 have el:(l++[o]).length=l.length+1:=by rw[List.length_append];rfl
 refine ⟨fun i hlt=>?_,fun _=>?_⟩
 ·rw[el] at hlt
  rcases Nat.lt_or_eq_of_le (Nat.le_of_lt_succ hlt) with h1|rfl
  ·have:=h.1 i h1
   unfold aMN at this ⊢
   rw[e i h1,e (i - 1) (by omega)];exact this
  ·unfold aMN
   rw[e2,ho]
   by_cases h0:l.length=0
   ·rw[decide_eq_true h0];rfl
   ·rw[e (l.length - 1) (by omega),h.2 (by omega),decide_eq_true (show g=o.2.1 from hi.symm),Bool.or_true];rfl
 ·rw[el,Nat.add_sub_cancel,e2]
theorem bBF {v:List Int} {n:Int} (h1:1≤n) (h6:n≤6) (hl:v.length=n.toNat) (ha:∀ x∈v,iP x=true):eF v n=true:=by
 unfold eF
 rw[(cL v).2 ⟨by omega,by omega,List.all_eq_true.2 ha⟩,decide_eq_true (show (v.length:Int)=n by omega)];rfl
theorem bLY {m:bD} (h:bW m=true):1≤iJ m∧1≤eM m:=by
 have hl:=(bR m).1 h
 unfold iJ eM
 rw[if_pos h,if_pos h]
 have h0:=bBL h (show 0<m.length by omega)
 have h9:=bBL h (show m.length - 1<m.length by omega)
 rw[aZ (show 0<m.length by omega),aZ (show List.length m - 1<m.length by omega)]
 exact ⟨h0.1,h9.2.2.1⟩
theorem okI {n:Int} (h1:-9223372036854775808≤n) (h2:n≤9223372036854775807):okD tI n:=⟨h1,h2⟩
theorem okL {e:TypeId} {l:List Int} (hl:l.length≤1000) (h:∀ y∈l,-9223372036854775808≤y∧y≤9223372036854775807):okD (.slice e tI) l:=⟨by unfold maxLen;exact Nat.le_trans hl (by decide),h⟩
def aDU:Con:=⟨58,(.bNT (.slice 5 (.int .u8)) aE),(.bNT tI (.bNT (.slice 5 (.int .u8)) aE)),[.box 97 ⟨true,(.bNT (.slice 5 (.int .u8)) aE),[]⟩],[⟨false,tI,[0]⟩],false,none,
 ((fun x=>0≤x.2.1):(aU)→Prop),
 ((fun _=>aV (.bNT tI (.bNT (.slice 5 (.int .u8)) aE))):(aU)→(Int × aU))⟩
def aCR:T :=
 .bNU (.arw .mul .i64) (.bNV tI tI (aO (.bNT (.slice 5 (.int .u8)) aE) 2 (.Z 0)) (.ci .i64 6364136223846793005)) <|
 .bNU (.arw .add .i64) (.bNV tI tI (.Z 1) (.ci .i64 1442695040888963407)) <|
 .bNU (.shr .i64 .u64) (.bNV tI (.int .u64) (.Z 2) (.ci .u64 33)) <|
 .bNU (.shr .i64 .u64) (.bNV tI (.int .u64) (.Z 2) (.ci .u64 45)) <|
 .bNU (.bits .xor .i64) (.bNV tI tI (.Z 3) (.Z 4)) <|
 .bNU (.bits .and .i64) (.bNV tI tI (.Z 5) (.ci .i64 255)) <|
 .bNU (.bNX 5 (.int .u8)) (.p1 (.slice 5 (.int .u8)) aE (.Z 0)) <|
 .bNU (.cmp .lss .i64) (.bNV tI tI (aJ (.bNT (.slice 5 (.int .u8)) aE) 1 (.Z 0)) (.Z 7)) <|
 .ite (.Z 8) (
  .bNU (.bNY 5 (.int .u8)) (.bNV (.slice 5 (.int .u8)) tI (.p1 (.slice 5 (.int .u8)) aE (.Z 0)) (aJ (.bNT (.slice 5 (.int .u8)) aE) 1 (.Z 0))) <|
  .bNU (.conv .u8 .i64) (.Z 9) <|
  .bNU (.arw .add .i64) (.bNV tI tI (.Z 6) (.Z 10)) <|
  .bNU (.bits .and .i64) (.bNV tI tI (.Z 11) (.ci .i64 255)) <|
  .bNU (.arw .add .i64) (.bNV tI tI (aJ (.bNT (.slice 5 (.int .u8)) aE) 1 (.Z 0)) (.ci .i64 1)) <|
  .ret (bB (.bNT tI (.bNT (.slice 5 (.int .u8)) aE)) [(.Z 12),(.p1 (.slice 5 (.int .u8)) aE (.Z 0)),(.Z 13),(.Z 2)])) (
  .ret (bB (.bNT tI (.bNT (.slice 5 (.int .u8)) aE)) [(.Z 6),(.p1 (.slice 5 (.int .u8)) aE (.Z 0)),(aJ (.bNT (.slice 5 (.int .u8)) aE) 1 (.Z 0)),(.Z 2)]))
theorem aZ1 (f:(aU)→(Int × aU)):bM Tryz.prog [] { aDU with fn:=f } true 3000 ⟨[],[]⟩ = .ok aCR:=by kernel_rfl
theorem aZI (x:aU) (hx:okD (.bNT (.slice 5 (.int .u8)) aE) x) (hp:(fun x=>0≤x.2.1) x):aCR.wp [] [⟨(.bNT (.slice 5 (.int .u8)) aE),x⟩] [] (fun v=>(fun x r=>0≤r.1∧r.1≤255∧0≤r.2.2.1:(aU)→(Int × aU)→Prop) x (v.as (.bNT tI (.bNT (.slice 5 (.int .u8)) aE)))):=by
 obtain ⟨b,i,h⟩:=x
 change 0≤i at hp
 have hb:b.length≤9223372036854775807:=bM7 hx.1.1
 delta aCR;refine dB ?_
 (refine dT ?_;try with_reducible exact True.intro)
 (repeat' first|intro _|(with_reducible apply And.intro))
 all_goals first|omega|exact (bBK _).1|exact (bBK _).2|(rw[xL (by show (-9223372036854775808:Int)≤_∧_≤(9223372036854775807:Int);omega)];omega)
theorem aE0:∃ f:(aU)→(Int × aU),(∀ x,okD (.bNT (.slice 5 (.int .u8)) aE) x→(fun x=>0≤x.2.1) x→(fun x r=>0≤r.1∧r.1≤255∧0≤r.2.2.1:(aU)→(Int × aU)→Prop) x (f x))∧Con.Holds Tryz.prog { aDU with fn:=f }:=lO (C:=aDU) aW aR aZ1 (fun x r=>0≤r.1∧r.1≤255∧0≤r.2.2.1:(aU)→(Int × aU)→Prop) aZI
def xJ:(aU)→(Int × aU):=Classical.choose aE0
def xM:Con:=⟨58,(.bNT (.slice 5 (.int .u8)) aE),(.bNT tI (.bNT (.slice 5 (.int .u8)) aE)),[.box 97 ⟨true,(.bNT (.slice 5 (.int .u8)) aE),[]⟩],[⟨false,tI,[0]⟩],false,none,
 ((fun x=>0≤x.2.1):(aU)→Prop),
 ((xJ):(aU)→(Int × aU))⟩
theorem bA8:∀ x,okD (.bNT (.slice 5 (.int .u8)) aE) x→(fun x=>0≤x.2.1) x→(fun x r=>0≤r.1∧r.1≤255∧0≤r.2.2.1:(aU)→(Int × aU)→Prop) x (xJ x):=(Classical.choose_spec aE0).1
theorem aLZ:Con.Holds Tryz.prog xM:=(Classical.choose_spec aE0).2
theorem wU (x:aU) (hx:okD (.bNT (.slice 5 (.int .u8)) aE) x) (hp:(fun x=>0≤x.2.1) x):okD (.bNT tI (.bNT (.slice 5 (.int .u8)) aE)) (xJ x)∧(fun x r=>0≤r.1∧r.1≤255∧0≤r.2.2.1:(aU)→(Int × aU)→Prop) x (xJ x):=⟨aLZ.ok x hp hx,bA8 x hx hp⟩
def zJ:Con:=⟨30,(.bNT (.bNT (.slice 5 (.int .u8)) aE) tI),(.bNT tI (.bNT (.slice 5 (.int .u8)) aE)),[.box 97 ⟨true,(.bNT (.slice 5 (.int .u8)) aE),[]⟩,.val ⟨false,tI,[]⟩],[⟨false,tI,[0]⟩],false,none,
 ((fun x=>0≤x.1.2.1):(aU × Int)→Prop),
 ((fun _=>aV (.bNT tI (.bNT (.slice 5 (.int .u8)) aE))):(aU × Int)→(Int × aU))⟩
def aAY:T :=
 .bNU (.cmp .leq .i64) (.bNV tI tI (aO (.bNT (.bNT (.slice 5 (.int .u8)) aE) tI) 1 (.Z 0)) (.ci .i64 0)) <|
 .ite (.Z 1) (
  .ret (.bNV tI (.bNT (.slice 5 (.int .u8)) aE) (.ci .i64 0) (.p1 (.bNT (.slice 5 (.int .u8)) aE) tI (.Z 0)))) (
  .bNU (.cmp .leq .i64) (.bNV tI tI (aO (.bNT (.bNT (.slice 5 (.int .u8)) aE) tI) 1 (.Z 0)) (.ci .i64 256)) <|
  .ite (.Z 2) (
   .call 0 (.p1 (.bNT (.slice 5 (.int .u8)) aE) tI (.Z 0)) <|
   .bNU (.rem .i64) (.bNV tI tI (.p1 tI (.bNT (.slice 5 (.int .u8)) aE) (.Z 3)) (aO (.bNT (.bNT (.slice 5 (.int .u8)) aE) tI) 1 (.Z 0))) <|
   .ret (.bNV tI (.bNT (.slice 5 (.int .u8)) aE) (.Z 4) (aO (.bNT tI (.bNT (.slice 5 (.int .u8)) aE)) 1 (.Z 3)))) (
   .call 0 (.p1 (.bNT (.slice 5 (.int .u8)) aE) tI (.Z 0)) <|
   .call 0 (aO (.bNT tI (.bNT (.slice 5 (.int .u8)) aE)) 1 (.Z 3)) <|
   .call 0 (aO (.bNT tI (.bNT (.slice 5 (.int .u8)) aE)) 1 (.Z 4)) <|
   .call 0 (aO (.bNT tI (.bNT (.slice 5 (.int .u8)) aE)) 1 (.Z 5)) <|
   .bNU (.ar .mul .i64) (.bNV tI tI (.p1 tI (.bNT (.slice 5 (.int .u8)) aE) (.Z 3)) (.ci .i64 16777216)) <|
   .bNU (.ar .mul .i64) (.bNV tI tI (.p1 tI (.bNT (.slice 5 (.int .u8)) aE) (.Z 4)) (.ci .i64 65536)) <|
   .bNU (.ar .add .i64) (.bNV tI tI (.Z 7) (.Z 8)) <|
   .bNU (.ar .mul .i64) (.bNV tI tI (.p1 tI (.bNT (.slice 5 (.int .u8)) aE) (.Z 5)) (.ci .i64 256)) <|
   .bNU (.ar .add .i64) (.bNV tI tI (.Z 9) (.Z 10)) <|
   .bNU (.ar .add .i64) (.bNV tI tI (.Z 11) (.p1 tI (.bNT (.slice 5 (.int .u8)) aE) (.Z 6))) <|
   .bNU (.rem .i64) (.bNV tI tI (.Z 12) (aO (.bNT (.bNT (.slice 5 (.int .u8)) aE) tI) 1 (.Z 0))) <|
   .ret (.bNV tI (.bNT (.slice 5 (.int .u8)) aE) (.Z 13) (aO (.bNT tI (.bNT (.slice 5 (.int .u8)) aE)) 1 (.Z 6)))))
theorem aW9 (f:(aU × Int)→(Int × aU)):bM Tryz.prog [xM] { zJ with fn:=f } false 3000 ⟨[],[]⟩ = .ok aAY:=by kernel_rfl
theorem aUV (x:aU × Int) (hx:okD (.bNT (.bNT (.slice 5 (.int .u8)) aE) tI) x) (hp:(fun x=>0≤x.1.2.1) x):aAY.wp [xM] [⟨(.bNT (.bNT (.slice 5 (.int .u8)) aE) tI),x⟩] [] (fun v=>(fun x r=>0≤r.1∧(0<x.2→r.1<x.2)∧(x.2≤0→r.1=0)∧0≤r.2.2.1:(aU × Int)→(Int × aU)→Prop) x (v.as (.bNT tI (.bNT (.slice 5 (.int .u8)) aE)))):=by
 obtain ⟨⟨b,i,h⟩,n⟩:=x
 change 0≤i at hp
 have q1:=wU (b,i,h) hx.1 hp
 have q2:=wU _ q1.1.2 q1.2.2.2
 have q3:=wU _ q2.1.2 q2.2.2.2
 have q4:=wU _ q3.1.2 q3.2.2.2
 replace q1:=q1.2
 replace q2:=q2.2
 replace q3:=q3.2
 replace q4:=q4.2
 dsimp only at q1 q2 q3 q4
 delta aAY xM;refine dB ?_
 (refine dT ?_;try with_reducible exact True.intro)
 (repeat' first|intro _|(with_reducible apply And.intro))
 all_goals first|omega|exact (tmB (by omega) (by omega)).1|exact (tmB (by omega) (by omega)).2|trivial
theorem aBA:∃ f:(aU × Int)→(Int × aU),(∀ x,okD (.bNT (.bNT (.slice 5 (.int .u8)) aE) tI) x→(fun x=>0≤x.1.2.1) x→(fun x r=>0≤r.1∧(0<x.2→r.1<x.2)∧(x.2≤0→r.1=0)∧0≤r.2.2.1:(aU × Int)→(Int × aU)→Prop) x (f x))∧Con.Holds Tryz.prog { zJ with fn:=f }:=lO (C:=zJ) aW (aH aLZ aR) aW9 (fun x r=>0≤r.1∧(0<x.2→r.1<x.2)∧(x.2≤0→r.1=0)∧0≤r.2.2.1:(aU × Int)→(Int × aU)→Prop) aUV
def cI:(aU × Int)→(Int × aU):=Classical.choose aBA
def bS:Con:=⟨30,(.bNT (.bNT (.slice 5 (.int .u8)) aE) tI),(.bNT tI (.bNT (.slice 5 (.int .u8)) aE)),[.box 97 ⟨true,(.bNT (.slice 5 (.int .u8)) aE),[]⟩,.val ⟨false,tI,[]⟩],[⟨false,tI,[0]⟩],false,none,
 ((fun x=>0≤x.1.2.1):(aU × Int)→Prop),
 ((cI):(aU × Int)→(Int × aU))⟩
theorem aVH:∀ x,okD (.bNT (.bNT (.slice 5 (.int .u8)) aE) tI) x→(fun x=>0≤x.1.2.1) x→(fun x r=>0≤r.1∧(0<x.2→r.1<x.2)∧(x.2≤0→r.1=0)∧0≤r.2.2.1:(aU × Int)→(Int × aU)→Prop) x (cI x):=(Classical.choose_spec aBA).1
theorem fU:Con.Holds Tryz.prog bS:=(Classical.choose_spec aBA).2
theorem cR (x:aU × Int) (hx:okD (.bNT (.bNT (.slice 5 (.int .u8)) aE) tI) x) (hp:(fun x=>0≤x.1.2.1) x):okD (.bNT tI (.bNT (.slice 5 (.int .u8)) aE)) (cI x)∧(fun x r=>0≤r.1∧(0<x.2→r.1<x.2)∧(x.2≤0→r.1=0)∧0≤r.2.2.1:(aU × Int)→(Int × aU)→Prop) x (cI x):=⟨fU.ok x hp hx,aVH x hx hp⟩
def aCQ:Con:=⟨23,(.bNT (.bNT (.slice 5 (.int .u8)) aE) tI),(.bNT .bool (.bNT (.slice 5 (.int .u8)) aE)),[.box 97 ⟨true,(.bNT (.slice 5 (.int .u8)) aE),[]⟩,.val ⟨false,tI,[]⟩],[⟨false,.bool,[0]⟩],false,none,
 ((fun x=>0≤x.1.2.1):(aU × Int)→Prop),
 ((fun _=>aV (.bNT .bool (.bNT (.slice 5 (.int .u8)) aE))):(aU × Int)→(Bool × aU))⟩
def aD1:T:=.call 0 (.Z 0) <|
 .bNU (.cmp .eql .i64) (.bNV tI tI (.p1 tI (.bNT (.slice 5 (.int .u8)) aE) (.Z 1)) (.ci .i64 0)) <|
 .ret (.bNV .bool (.bNT (.slice 5 (.int .u8)) aE) (.Z 2) (aO (.bNT tI (.bNT (.slice 5 (.int .u8)) aE)) 1 (.Z 1)))
theorem aYQ (f:(aU × Int)→(Bool × aU)):bM Tryz.prog [bS] { aCQ with fn:=f } false 3000 ⟨[],[]⟩ = .ok aD1:=by kernel_rfl
theorem aXP (x:aU × Int) (hx:okD (.bNT (.bNT (.slice 5 (.int .u8)) aE) tI) x) (hp:(fun x=>0≤x.1.2.1) x):aD1.wp [bS] [⟨(.bNT (.bNT (.slice 5 (.int .u8)) aE) tI),x⟩] [] (fun v=>(fun x r=>0≤r.2.2.1:(aU × Int)→(Bool × aU)→Prop) x (v.as (.bNT .bool (.bNT (.slice 5 (.int .u8)) aE)))):=by
 have q1:=(cR x hx hp).2
 delta aD1 bS;refine dB ?_
 exact ⟨hp,fun _=>q1.2.2.2⟩
theorem aCZ:∃ f:(aU × Int)→(Bool × aU),(∀ x,okD (.bNT (.bNT (.slice 5 (.int .u8)) aE) tI) x→(fun x=>0≤x.1.2.1) x→(fun x r=>0≤r.2.2.1:(aU × Int)→(Bool × aU)→Prop) x (f x))∧Con.Holds Tryz.prog { aCQ with fn:=f }:=lO (C:=aCQ) aW (aH fU aR) aYQ (fun x r=>0≤r.2.2.1:(aU × Int)→(Bool × aU)→Prop) aXP
def mH:(aU × Int)→(Bool × aU):=Classical.choose aCZ
def iO:Con:=⟨23,(.bNT (.bNT (.slice 5 (.int .u8)) aE) tI),(.bNT .bool (.bNT (.slice 5 (.int .u8)) aE)),[.box 97 ⟨true,(.bNT (.slice 5 (.int .u8)) aE),[]⟩,.val ⟨false,tI,[]⟩],[⟨false,.bool,[0]⟩],false,none,
 ((fun x=>0≤x.1.2.1):(aU × Int)→Prop),
 ((mH):(aU × Int)→(Bool × aU))⟩
theorem bA5:∀ x,okD (.bNT (.bNT (.slice 5 (.int .u8)) aE) tI) x→(fun x=>0≤x.1.2.1) x→(fun x r=>0≤r.2.2.1:(aU × Int)→(Bool × aU)→Prop) x (mH x):=(Classical.choose_spec aCZ).1
theorem yI:Con.Holds Tryz.prog iO:=(Classical.choose_spec aCZ).2
theorem aD0 (x:aU × Int) (hx:okD (.bNT (.bNT (.slice 5 (.int .u8)) aE) tI) x) (hp:(fun x=>0≤x.1.2.1) x):okD (.bNT .bool (.bNT (.slice 5 (.int .u8)) aE)) (mH x)∧(fun x r=>0≤r.2.2.1:(aU × Int)→(Bool × aU)→Prop) x (mH x):=⟨yI.ok x hp hx,bA5 x hx hp⟩
def uJ:Con:=⟨24,(.bNT (.bNT (.slice 5 (.int .u8)) aE) aB),(.bNT tI (.bNT (.slice 5 (.int .u8)) aE)),[.box 97 ⟨true,(.bNT (.slice 5 (.int .u8)) aE),[]⟩,.val ⟨false,aB,[]⟩],[⟨false,tI,[0]⟩],false,none,
 ((fun x=>0≤x.1.2.1∧x.2≠[]):(aU × bK)→Prop),
 ((fun _=>aV (.bNT tI (.bNT (.slice 5 (.int .u8)) aE))):(aU × bK)→(Int × aU))⟩
def uI:T :=
 .bNU (.bNX 3 tI) (aO (.bNT (.bNT (.slice 5 (.int .u8)) aE) aB) 1 (.Z 0)) <|
 .call 0 (.bNV (.bNT (.slice 5 (.int .u8)) aE) tI (.p1 (.bNT (.slice 5 (.int .u8)) aE) aB (.Z 0)) (.Z 1)) <|
 .bNU (.bNY 3 tI) (.bNV aB tI (aO (.bNT (.bNT (.slice 5 (.int .u8)) aE) aB) 1 (.Z 0)) (.p1 tI (.bNT (.slice 5 (.int .u8)) aE) (.Z 2))) <|
 .ret (.bNV tI (.bNT (.slice 5 (.int .u8)) aE) (.Z 3) (aO (.bNT tI (.bNT (.slice 5 (.int .u8)) aE)) 1 (.Z 2)))
theorem aN9 (f:(aU × bK)→(Int × aU)):bM Tryz.prog [bS] { uJ with fn:=f } false 3000 ⟨[],[]⟩ = .ok uI:=by kernel_rfl
theorem aMW (x:aU × bK) (hx:okD (.bNT (.bNT (.slice 5 (.int .u8)) aE) aB) x) (hp:(fun x=>0≤x.1.2.1∧x.2≠[]) x):uI.wp [bS] [⟨(.bNT (.bNT (.slice 5 (.int .u8)) aE) aB),x⟩] [] (fun v=>(fun x r=>r.1∈x.2∧0≤r.2.2.1:(aU × bK)→(Int × aU)→Prop) x (v.as (.bNT tI (.bNT (.slice 5 (.int .u8)) aE)))):=by
 obtain ⟨c,l⟩:=x
 obtain ⟨hp,hl⟩:0≤c.2.1∧l≠[]:=hp
 have hm:=bM7 (show List.length l≤maxLen from hx.2.1)
 have hl0:0<l.length:=List.length_pos_iff.2 hl
 have q1:=(cR (c,(l.length:Int)) ⟨hx.1,show (-9223372036854775808:Int)≤_∧_≤(9223372036854775807:Int) by omega⟩ hp).2
 dsimp only at q1
 delta uI bS;refine dB ?_
 have hlt:((cI (c,(l.length:Int))).1:Int).toNat<l.length:=by omega
 refine fun _=>⟨hp,fun _=>⟨⟨q1.1,by omega⟩,fun _=>⟨?_,q1.2.2.2⟩⟩⟩
 rw[aZ hlt]
 exact List.getElem_mem hlt
theorem uP:∃ f:(aU × bK)→(Int × aU),(∀ x,okD (.bNT (.bNT (.slice 5 (.int .u8)) aE) aB) x→(fun x=>0≤x.1.2.1∧x.2≠[]) x→(fun x r=>r.1∈x.2∧0≤r.2.2.1:(aU × bK)→(Int × aU)→Prop) x (f x))∧Con.Holds Tryz.prog { uJ with fn:=f }:=lO (C:=uJ) aW (aH fU aR) aN9 (fun x r=>r.1∈x.2∧0≤r.2.2.1:(aU × bK)→(Int × aU)→Prop) aMW
def gM:(aU × bK)→(Int × aU):=Classical.choose uP
def cO:Con:=⟨24,(.bNT (.bNT (.slice 5 (.int .u8)) aE) aB),(.bNT tI (.bNT (.slice 5 (.int .u8)) aE)),[.box 97 ⟨true,(.bNT (.slice 5 (.int .u8)) aE),[]⟩,.val ⟨false,aB,[]⟩],[⟨false,tI,[0]⟩],false,none,
 ((fun x=>0≤x.1.2.1∧x.2≠[]):(aU × bK)→Prop),
 ((gM):(aU × bK)→(Int × aU))⟩
theorem aM8:∀ x,okD (.bNT (.bNT (.slice 5 (.int .u8)) aE) aB) x→(fun x=>0≤x.1.2.1∧x.2≠[]) x→(fun x r=>r.1∈x.2∧0≤r.2.2.1:(aU × bK)→(Int × aU)→Prop) x (gM x):=(Classical.choose_spec uP).1
theorem jW:Con.Holds Tryz.prog cO:=(Classical.choose_spec uP).2
theorem lX (x:aU × bK) (hx:okD (.bNT (.bNT (.slice 5 (.int .u8)) aE) aB) x) (hp:(fun x=>0≤x.1.2.1∧x.2≠[]) x):okD (.bNT tI (.bNT (.slice 5 (.int .u8)) aE)) (gM x)∧(fun x r=>r.1∈x.2∧0≤r.2.2.1:(aU × bK)→(Int × aU)→Prop) x (gM x):=⟨jW.ok x hp hx,aM8 x hx hp⟩
def aGV:Con:=⟨90,(.bNT (.slice 5 (.int .u8)) aE),(.bNT tI (.bNT (.slice 5 (.int .u8)) aE)),[.box 97 ⟨true,(.bNT (.slice 5 (.int .u8)) aE),[]⟩],[⟨false,tI,[0]⟩],false,none,
 ((fun x=>0≤x.2.1):(aU)→Prop),
 ((fun _=>aV (.bNT tI (.bNT (.slice 5 (.int .u8)) aE))):(aU)→(Int × aU))⟩
def aH4:T:=.call 0 (.bNV (.bNT (.slice 5 (.int .u8)) aE) tI (.Z 0) (.ci .i64 12)) <|
 .bNU (.cmp .eql .i64) (.bNV tI tI (.p1 tI (.bNT (.slice 5 (.int .u8)) aE) (.Z 1)) (.ci .i64 0)) <|
 .ite (.Z 2) (
  .bNU (.lit 3 tI 6) (bB (.bNT tI (.bNT tI (.bNT tI (.bNT tI aE)))) [(.ci .i64 2147483647),(.ci .i64 (-2147483647)),(.ci .i64 2147483646),(.ci .i64 1),(.ci .i64 (-1)),(.ci .i64 0)]) <|
  .call 1 (.bNV (.bNT (.slice 5 (.int .u8)) aE) aB (aO (.bNT tI (.bNT (.slice 5 (.int .u8)) aE)) 1 (.Z 1)) (.Z 3)) <|
  .ret (.Z 4)) (
  .bNU (.cmp .eql .i64) (.bNV tI tI (.p1 tI (.bNT (.slice 5 (.int .u8)) aE) (.Z 1)) (.ci .i64 1)) <|
  .ite (.Z 3) (
   .call 0 (.bNV (.bNT (.slice 5 (.int .u8)) aE) tI (aO (.bNT tI (.bNT (.slice 5 (.int .u8)) aE)) 1 (.Z 1)) (.ci .i64 4000)) <|
   .bNU (.ar .sub .i64) (.bNV tI tI (.p1 tI (.bNT (.slice 5 (.int .u8)) aE) (.Z 4)) (.ci .i64 2000)) <|
   .bNU (.ar .mul .i64) (.bNV tI tI (.Z 5) (.ci .i64 997)) <|
   .ret (.bNV tI (.bNT (.slice 5 (.int .u8)) aE) (.Z 6) (aO (.bNT tI (.bNT (.slice 5 (.int .u8)) aE)) 1 (.Z 4)))) (
   .bNU (.cmp .eql .i64) (.bNV tI tI (.p1 tI (.bNT (.slice 5 (.int .u8)) aE) (.Z 1)) (.ci .i64 2)) <|
   .ite (.Z 4) (
    .call 0 (.bNV (.bNT (.slice 5 (.int .u8)) aE) tI (aO (.bNT tI (.bNT (.slice 5 (.int .u8)) aE)) 1 (.Z 1)) (.ci .i64 9)) <|
    .bNU (.ar .sub .i64) (.bNV tI tI (.p1 tI (.bNT (.slice 5 (.int .u8)) aE) (.Z 5)) (.ci .i64 4)) <|
    .ret (.bNV tI (.bNT (.slice 5 (.int .u8)) aE) (.Z 6) (aO (.bNT tI (.bNT (.slice 5 (.int .u8)) aE)) 1 (.Z 5)))) (
    .call 0 (.bNV (.bNT (.slice 5 (.int .u8)) aE) tI (aO (.bNT tI (.bNT (.slice 5 (.int .u8)) aE)) 1 (.Z 1)) (.ci .i64 17)) <|
    .bNU (.ar .sub .i64) (.bNV tI tI (.p1 tI (.bNT (.slice 5 (.int .u8)) aE) (.Z 5)) (.ci .i64 8)) <|
    .bNU (.ar .mul .i64) (.bNV tI tI (.Z 6) (.ci .i64 65536)) <|
    .bNU (.lit 3 tI 5) (bB (.bNT tI (.bNT tI (.bNT tI aE))) [(.ci .i64 1),(.ci .i64 1),(.ci .i64 2),(.ci .i64 4),(.ci .i64 3)]) <|
    .call 1 (.bNV (.bNT (.slice 5 (.int .u8)) aE) aB (aO (.bNT tI (.bNT (.slice 5 (.int .u8)) aE)) 1 (.Z 5)) (.Z 8)) <|
    .bNU (.quo .i64) (.bNV tI tI (.Z 7) (.p1 tI (.bNT (.slice 5 (.int .u8)) aE) (.Z 9))) <|
    .ret (.bNV tI (.bNT (.slice 5 (.int .u8)) aE) (.Z 10) (aO (.bNT tI (.bNT (.slice 5 (.int .u8)) aE)) 1 (.Z 9))))))
theorem bCD (f:(aU)→(Int × aU)):bM Tryz.prog [bS,cO] { aGV with fn:=f } false 3000 ⟨[],[(2989,3003,[8],[]),(2981,8005,[26],[])]⟩ = .ok aH4:=by kernel_rfl
theorem bCX (x:aU) (hx:okD (.bNT (.slice 5 (.int .u8)) aE) x) (hp:(fun x=>0≤x.2.1) x):aH4.wp [bS,cO] [⟨(.bNT (.slice 5 (.int .u8)) aE),x⟩] [] (fun v=>(fun x r=>iP r.1=true∧0≤r.2.2.1:(aU)→(Int × aU)→Prop) x (v.as (.bNT tI (.bNT (.slice 5 (.int .u8)) aE)))):=by
 have q1:=cR (x,12) ⟨hx,okI (by omega) (by omega)⟩ hp
 delta aH4 bS cO;refine dB ?_
 refine dT ?_
 refine ⟨hp,fun _=>?_⟩
 generalize cI (x,12)=r at q1 ⊢;obtain ⟨n1,c1⟩:=r;obtain ⟨kq1,uq1⟩:=q1;replace kq1:okD nT c1:=kq1.2;dsimp only at uq1 ⊢
 refine ⟨fun _ _=>⟨⟨uq1.2.2.2,fun h=>by cases h⟩,fun _=>?_⟩,fun _=>⟨fun _=>⟨uq1.2.2.2,fun _=>?_⟩,fun _=>⟨fun _=>⟨uq1.2.2.2,fun _=>?_⟩,fun _=>⟨uq1.2.2.2,fun _=>?_⟩⟩⟩⟩
 ·have b0:=(lX (c1,[2147483647,-2147483647,2147483646,1,-1,0]) ⟨kq1,okL (e:=3) (by show 6≤1000;omega) (by intro y hy;simp at hy;omega)⟩ ⟨uq1.2.2.2,by simp⟩).2
  generalize gM (c1,[2147483647,-2147483647,2147483646,1,-1,0])=r at b0 ⊢
  have:=b0.1
  simp only[List.mem_cons,List.mem_nil_iff,or_false] at this
  exact ⟨(zI _).2 ⟨by omega,by omega⟩,b0.2⟩
 ·have a1:=(cR (c1,4000) ⟨kq1,okI (by omega) (by omega)⟩ uq1.2.2.2).2
  generalize cI (c1,4000)=r at a1 ⊢
  dsimp only at a1
  (repeat' first|intro _|(with_reducible apply And.intro))
  all_goals first|omega|exact (zI _).2 ⟨by omega,by omega⟩
 ·have a1:=(cR (c1,9) ⟨kq1,okI (by omega) (by omega)⟩ uq1.2.2.2).2
  generalize cI (c1,9)=r at a1 ⊢
  dsimp only at a1
  (repeat' first|intro _|(with_reducible apply And.intro))
  all_goals first|omega|exact (zI _).2 ⟨by omega,by omega⟩
 ·have q2:=cR (c1,17) ⟨kq1,okI (by omega) (by omega)⟩ uq1.2.2.2
  generalize cI (c1,17)=r at q2 ⊢;obtain ⟨n2,c2⟩:=r;obtain ⟨kq2,uq2⟩:=q2;replace kq2:okD nT c2:=kq2.2;dsimp only at uq2 ⊢
  refine ⟨by omega,fun _=>⟨by omega,fun _ _=>⟨⟨uq2.2.2.2,fun h=>by cases h⟩,fun _=>?_⟩⟩⟩
  have b0:=(lX (c2,[1,1,2,4,3]) ⟨kq2,okL (e:=3) (by show 5≤1000;omega) (by intro y hy;simp at hy;omega)⟩ ⟨uq2.2.2.2,by simp⟩).2
  generalize gM (c2,[1,1,2,4,3])=r at b0 ⊢
  have:=b0.1
  simp only[List.mem_cons,List.mem_nil_iff,or_false] at this
  have t1:=tdB (a:=(n2 - 8) * 65536) (p:=r.1) (by omega) (by omega)
  (repeat' first|intro _|(with_reducible apply And.intro))
  all_goals first|omega|exact (zI _).2 ⟨by omega,by omega⟩|exact b0.2
theorem aGD:∃ f:(aU)→(Int × aU),(∀ x,okD (.bNT (.slice 5 (.int .u8)) aE) x→(fun x=>0≤x.2.1) x→(fun x r=>iP r.1=true∧0≤r.2.2.1:(aU)→(Int × aU)→Prop) x (f x))∧Con.Holds Tryz.prog { aGV with fn:=f }:=lO (C:=aGV) aW (aH fU (aH jW aR)) bCD (fun x r=>iP r.1=true∧0≤r.2.2.1:(aU)→(Int × aU)→Prop) bCX
def aC2:(aU)→(Int × aU):=Classical.choose aGD
def oC:Con:=⟨90,(.bNT (.slice 5 (.int .u8)) aE),(.bNT tI (.bNT (.slice 5 (.int .u8)) aE)),[.box 97 ⟨true,(.bNT (.slice 5 (.int .u8)) aE),[]⟩],[⟨false,tI,[0]⟩],false,none,
 ((fun x=>0≤x.2.1):(aU)→Prop),
 ((aC2):(aU)→(Int × aU))⟩
theorem bE3:∀ x,okD (.bNT (.slice 5 (.int .u8)) aE) x→(fun x=>0≤x.2.1) x→(fun x r=>iP r.1=true∧0≤r.2.2.1:(aU)→(Int × aU)→Prop) x (aC2 x):=(Classical.choose_spec aGD).1
theorem aH5:Con.Holds Tryz.prog oC:=(Classical.choose_spec aGD).2
theorem aNL (x:aU) (hx:okD (.bNT (.slice 5 (.int .u8)) aE) x) (hp:(fun x=>0≤x.2.1) x):okD (.bNT tI (.bNT (.slice 5 (.int .u8)) aE)) (aC2 x)∧(fun x r=>iP r.1=true∧0≤r.2.2.1:(aU)→(Int × aU)→Prop) x (aC2 x):=⟨aH5.ok x hp hx,bE3 x hx hp⟩
def aGK:Con:=⟨52,(.bNT (.bNT (.slice 5 (.int .u8)) aE) tI),(.bNT aB (.bNT (.slice 5 (.int .u8)) aE)),[.box 97 ⟨true,(.bNT (.slice 5 (.int .u8)) aE),[]⟩,.val ⟨false,tI,[]⟩],[⟨false,aB,[2]⟩],false,none,
 ((fun x=>0≤x.1.2.1∧x.2≤1000):(aU × Int)→Prop),
 ((fun _=>aV (.bNT aB (.bNT (.slice 5 (.int .u8)) aE))):(aU × Int)→(bK × aU))⟩
def aG3:T:=.loop (.bNT tI (.bNT (.slice 5 (.int .u8)) (.bNT tI aF))) (bB (.bNT tI (.bNT (.slice 5 (.int .u8)) (.bNT tI aF))) [(.ci .i64 0),(.p1 (.slice 5 (.int .u8)) aE (.p1 (.bNT (.slice 5 (.int .u8)) aE) tI (.Z 0))),(aJ (.bNT (.slice 5 (.int .u8)) aE) 1 (.p1 (.bNT (.slice 5 (.int .u8)) aE) tI (.Z 0))),(aO (.bNT (.slice 5 (.int .u8)) aE) 2 (.p1 (.bNT (.slice 5 (.int .u8)) aE) tI (.Z 0))),(.nl 3 tI)]) <|
 .bNU (.cmp .lss .i64) (.bNV tI tI (.p1 tI (.bNT (.slice 5 (.int .u8)) (.bNT tI aF)) (.Z 1)) (aO (.bNT (.bNT (.slice 5 (.int .u8)) aE) tI) 1 (.Z 0))) <|
 .ite (.Z 2) (
  .call 0 (bB (.bNT (.slice 5 (.int .u8)) aE) [(aJ (.bNT tI (.bNT (.slice 5 (.int .u8)) (.bNT tI aF))) 1 (.Z 1)),(aJ (.bNT tI (.bNT (.slice 5 (.int .u8)) (.bNT tI aF))) 2 (.Z 1)),(aJ (.bNT tI (.bNT (.slice 5 (.int .u8)) (.bNT tI aF))) 3 (.Z 1))]) <|
  .bNU (.lit 3 tI 1) (.p1 tI (.bNT (.slice 5 (.int .u8)) aE) (.Z 3)) <|
  .bNU (.bO0 3 tI 8) (.bNV aB aB (aO (.bNT tI (.bNT (.slice 5 (.int .u8)) (.bNT tI aF))) 4 (.Z 1)) (.Z 4)) <|
  .bNU (.ar .add .i64) (.bNV tI tI (.p1 tI (.bNT (.slice 5 (.int .u8)) (.bNT tI aF)) (.Z 1)) (.ci .i64 1)) <|
  .bNW 0 (bB (.bNT tI (.bNT (.slice 5 (.int .u8)) (.bNT tI aF))) [(.Z 6),(aJ (.bNT tI (.bNT (.slice 5 (.int .u8)) aE)) 1 (.Z 3)),(aJ (.bNT tI (.bNT (.slice 5 (.int .u8)) aE)) 2 (.Z 3)),(aO (.bNT tI (.bNT (.slice 5 (.int .u8)) aE)) 3 (.Z 3)),(.Z 5)])) (
  .ret (bB (.bNT aB (.bNT (.slice 5 (.int .u8)) aE)) [(aO (.bNT tI (.bNT (.slice 5 (.int .u8)) (.bNT tI aF))) 4 (.Z 1)),(aJ (.bNT tI (.bNT (.slice 5 (.int .u8)) (.bNT tI aF))) 1 (.Z 1)),(aJ (.bNT tI (.bNT (.slice 5 (.int .u8)) (.bNT tI aF))) 2 (.Z 1)),(aJ (.bNT tI (.bNT (.slice 5 (.int .u8)) (.bNT tI aF))) 3 (.Z 1))]))
theorem bCF (f:(aU × Int)→(bK × aU)):bM Tryz.prog [oC] { aGK with fn:=f } false 3000 ⟨[(2991,1001,[.dr 7,.tm 6 0,.on 5,.bx 1 0,.bx 1 1,.bx 1 2,.sl 2])],[]⟩ = .ok aG3:=by kernel_rfl
theorem bDN (x:aU × Int) (hx:okD (.bNT (.bNT (.slice 5 (.int .u8)) aE) tI) x) (hp:(fun x=>0≤x.1.2.1∧x.2≤1000) x):aG3.wp [oC] [⟨(.bNT (.bNT (.slice 5 (.int .u8)) aE) tI),x⟩] [] (fun v=>(fun x r=>r.1.length=x.2.toNat∧(∀ v∈r.1,iP v=true)∧0≤r.2.2.1:(aU × Int)→(bK × aU)→Prop) x (v.as (.bNT aB (.bNT (.slice 5 (.int .u8)) aE)))):=by
 obtain ⟨c,n⟩:=x
 obtain ⟨hp,hn⟩:0≤c.2.1∧n≤1000:=hp
 delta aG3 oC;refine dB ?_
 refine ⟨fun s=>∃ k:Nat,k≤n.toNat∧s.1=(k:Int)∧List.length s.2.2.2.2=k∧(∀ v∈s.2.2.2.2,iP v=true)∧@LE.le Int _ 0 s.2.2.1,fun s=>(n - s.1:Int).toNat,⟨0,Nat.zero_le _,rfl,rfl,fun v h=>by simp at h,hp⟩,fun s hs hI=>?_⟩
 obtain ⟨j,b,i,h,l⟩:=s
 obtain ⟨k,hk,e1,e2,e3,e4⟩:=hI
 change Int at j
 change j=(k:Int) at e1
 subst e1
 change List Int at l
 change l.length=k at e2
 change ∀ v∈l,iP v=true at e3
 change 0≤(i:Int) at e4
 have q:=(aNL (b,i,h) ⟨hs.2.1,hs.2.2.1,hs.2.2.2.1⟩ e4).2
 try dsimp only
 refine dT ?_
 refine ⟨fun hlt=>⟨e4,fun _ _=>⟨⟨by omega,by unfold maxLen;omega⟩,fun _=>⟨by omega,fun _=>⟨⟨k+1,by omega,pk1,by rw[e2],fun v hv=>?_,q.2⟩,by omega⟩⟩⟩⟩,fun hge=>⟨by omega,e3,e4⟩⟩
 rcases List.mem_append.1 hv with hv|hv
 ·exact e3 v hv
 ·rw[List.mem_singleton] at hv
  rw[hv];exact q.1
theorem aFX:∃ f:(aU × Int)→(bK × aU),(∀ x,okD (.bNT (.bNT (.slice 5 (.int .u8)) aE) tI) x→(fun x=>0≤x.1.2.1∧x.2≤1000) x→(fun x r=>r.1.length=x.2.toNat∧(∀ v∈r.1,iP v=true)∧0≤r.2.2.1:(aU × Int)→(bK × aU)→Prop) x (f x))∧Con.Holds Tryz.prog { aGK with fn:=f }:=lO (C:=aGK) aW (aH aH5 aR) bCF (fun x r=>r.1.length=x.2.toNat∧(∀ v∈r.1,iP v=true)∧0≤r.2.2.1:(aU × Int)→(bK × aU)→Prop) bDN
def nW:(aU × Int)→(bK × aU):=Classical.choose aFX
def jS:Con:=⟨52,(.bNT (.bNT (.slice 5 (.int .u8)) aE) tI),(.bNT aB (.bNT (.slice 5 (.int .u8)) aE)),[.box 97 ⟨true,(.bNT (.slice 5 (.int .u8)) aE),[]⟩,.val ⟨false,tI,[]⟩],[⟨false,aB,[2]⟩],false,none,
 ((fun x=>0≤x.1.2.1∧x.2≤1000):(aU × Int)→Prop),
 ((nW):(aU × Int)→(bK × aU))⟩
theorem bCE:∀ x,okD (.bNT (.bNT (.slice 5 (.int .u8)) aE) tI) x→(fun x=>0≤x.1.2.1∧x.2≤1000) x→(fun x r=>r.1.length=x.2.toNat∧(∀ v∈r.1,iP v=true)∧0≤r.2.2.1:(aU × Int)→(bK × aU)→Prop) x (nW x):=(Classical.choose_spec aFX).1
theorem aBQ:Con.Holds Tryz.prog jS:=(Classical.choose_spec aFX).2
theorem qY (x:aU × Int) (hx:okD (.bNT (.bNT (.slice 5 (.int .u8)) aE) tI) x) (hp:(fun x=>0≤x.1.2.1∧x.2≤1000) x):okD (.bNT aB (.bNT (.slice 5 (.int .u8)) aE)) (nW x)∧(fun x r=>r.1.length=x.2.toNat∧(∀ v∈r.1,iP v=true)∧0≤r.2.2.1:(aU × Int)→(bK × aU)→Prop) x (nW x):=⟨aBQ.ok x hp hx,bCE x hx hp⟩
def aGW:Con:=⟨53,(.bNT (.slice 5 (.int .u8)) aE),(.bNT tI (.bNT (.slice 5 (.int .u8)) aE)),[.box 97 ⟨true,(.bNT (.slice 5 (.int .u8)) aE),[]⟩],[⟨false,tI,[0]⟩],false,none,
 ((fun x=>0≤x.2.1):(aU)→Prop),
 ((fun _=>aV (.bNT tI (.bNT (.slice 5 (.int .u8)) aE))):(aU)→(Int × aU))⟩
def aH7:T:=.call 0 (.bNV (.bNT (.slice 5 (.int .u8)) aE) tI (.Z 0) (.ci .i64 8)) <|.ite (.p1 .bool (.bNT (.slice 5 (.int .u8)) aE) (.Z 1)) (
 .bNU (.lit 3 tI 4) (bB (.bNT tI (.bNT tI aE)) [(.ci .i64 2147483648),(.ci .i64 (-2147483648)),(.ci .i64 9223372036854775807),(.ci .i64 (-9223372036854775807))]) <|
 .call 1 (.bNV (.bNT (.slice 5 (.int .u8)) aE) aB (aO (.bNT .bool (.bNT (.slice 5 (.int .u8)) aE)) 1 (.Z 1)) (.Z 2)) <|
 .ret (.Z 3)) (
 .call 2 (aO (.bNT .bool (.bNT (.slice 5 (.int .u8)) aE)) 1 (.Z 1)) <|
 .ret (.Z 2))
theorem bCT (f:(aU)→(Int × aU)):bM Tryz.prog [iO,cO,oC] { aGW with fn:=f } false 3000 ⟨[],[(2992,3002,[6],[])]⟩ = .ok aH7:=by kernel_rfl
theorem bCG (x:aU) (hx:okD (.bNT (.slice 5 (.int .u8)) aE) x) (hp:(fun x=>0≤x.2.1) x):aH7.wp [iO,cO,oC] [⟨(.bNT (.slice 5 (.int .u8)) aE),x⟩] [] (fun v=>(fun x r=>0≤r.2.2.1:(aU)→(Int × aU)→Prop) x (v.as (.bNT tI (.bNT (.slice 5 (.int .u8)) aE)))):=by
 have q1:=aD0 (x,8) ⟨hx,okI (by omega) (by omega)⟩ hp
 delta aH7 iO cO oC;refine dB ?_
 refine dT ?_
 refine ⟨hp,fun _=>?_⟩
 generalize mH (x,8)=r at q1 ⊢;obtain ⟨n1,c1⟩:=r;obtain ⟨k1,u1⟩:=q1;replace k1:okD nT c1:=k1.2;dsimp only at u1 ⊢
 refine ⟨fun _ _=>⟨⟨u1,fun h=>by cases h⟩,fun _=>?_⟩,fun _=>⟨u1,fun _=>?_⟩⟩
 ·exact (lX (c1,[2147483648,-2147483648,9223372036854775807,-9223372036854775807]) ⟨k1,okL (e:=3) (by show 4≤1000;omega) (by intro y hy;simp at hy;omega)⟩ ⟨u1,by simp⟩).2.2
 ·exact (aNL c1 k1 u1).2.2
theorem aH0:∃ f:(aU)→(Int × aU),(∀ x,okD (.bNT (.slice 5 (.int .u8)) aE) x→(fun x=>0≤x.2.1) x→(fun x r=>0≤r.2.2.1:(aU)→(Int × aU)→Prop) x (f x))∧Con.Holds Tryz.prog { aGW with fn:=f }:=lO (C:=aGW) aW (aH yI (aH jW (aH aH5 aR))) bCT (fun x r=>0≤r.2.2.1:(aU)→(Int × aU)→Prop) bCG
def aBJ:(aU)→(Int × aU):=Classical.choose aH0
def aBN:Con:=⟨53,(.bNT (.slice 5 (.int .u8)) aE),(.bNT tI (.bNT (.slice 5 (.int .u8)) aE)),[.box 97 ⟨true,(.bNT (.slice 5 (.int .u8)) aE),[]⟩],[⟨false,tI,[0]⟩],false,none,
 ((fun x=>0≤x.2.1):(aU)→Prop),
 ((aBJ):(aU)→(Int × aU))⟩
theorem bDF:∀ x,okD (.bNT (.slice 5 (.int .u8)) aE) x→(fun x=>0≤x.2.1) x→(fun x r=>0≤r.2.2.1:(aU)→(Int × aU)→Prop) x (aBJ x):=(Classical.choose_spec aH0).1
theorem aNP:Con.Holds Tryz.prog aBN:=(Classical.choose_spec aH0).2
theorem bCJ (x:aU) (hx:okD (.bNT (.slice 5 (.int .u8)) aE) x) (hp:(fun x=>0≤x.2.1) x):okD (.bNT tI (.bNT (.slice 5 (.int .u8)) aE)) (aBJ x)∧(fun x r=>0≤r.2.2.1:(aU)→(Int × aU)→Prop) x (aBJ x):=⟨aNP.ok x hp hx,bDF x hx hp⟩
def aG7:Con:=⟨22,(.bNT (.slice 5 (.int .u8)) aE),(.bNT aB (.bNT (.slice 5 (.int .u8)) aE)),[.box 97 ⟨true,(.bNT (.slice 5 (.int .u8)) aE),[]⟩],[⟨false,aB,[2]⟩],false,none,
 ((fun x=>0≤x.2.1):(aU)→Prop),
 ((fun _=>aV (.bNT aB (.bNT (.slice 5 (.int .u8)) aE))):(aU)→(bK × aU))⟩
def aGH:T:=.call 0 (.bNV (.bNT (.slice 5 (.int .u8)) aE) tI (.Z 0) (.ci .i64 4)) <|
 .bNU (.ar .add .i64) (.bNV tI tI (.ci .i64 1) (.p1 tI (.bNT (.slice 5 (.int .u8)) aE) (.Z 1))) <|
 .call 1 (.bNV (.bNT (.slice 5 (.int .u8)) aE) tI (aO (.bNT tI (.bNT (.slice 5 (.int .u8)) aE)) 1 (.Z 1)) (.Z 2)) <|
 .call 0 (.bNV (.bNT (.slice 5 (.int .u8)) aE) tI (aO (.bNT aB (.bNT (.slice 5 (.int .u8)) aE)) 1 (.Z 3)) (.ci .i64 16)) <|
 .bNU (.cmp .eql .i64) (.bNV tI tI (.p1 tI (.bNT (.slice 5 (.int .u8)) aE) (.Z 4)) (.ci .i64 0)) <|
 .ite (.Z 5) (
  .call 2 (aO (.bNT tI (.bNT (.slice 5 (.int .u8)) aE)) 1 (.Z 4)) <|
  .bNU (.bNY 3 tI) (.bNV aB tI (.p1 aB (.bNT (.slice 5 (.int .u8)) aE) (.Z 3)) (.ci .i64 0)) <|
  .bNU (.bO1 3 tI) (bB (.bNT aB aE) [(.p1 aB (.bNT (.slice 5 (.int .u8)) aE) (.Z 3)),(.ci .i64 0),(.p1 tI (.bNT (.slice 5 (.int .u8)) aE) (.Z 6))]) <|
  .ret (.bNV aB (.bNT (.slice 5 (.int .u8)) aE) (.Z 8) (aO (.bNT tI (.bNT (.slice 5 (.int .u8)) aE)) 1 (.Z 6)))) (
  .bNU (.cmp .eql .i64) (.bNV tI tI (.p1 tI (.bNT (.slice 5 (.int .u8)) aE) (.Z 4)) (.ci .i64 1)) <|
  .ite (.Z 6) (
   .bNU (.lit 3 tI 3) (bB (.bNT tI aE) [(.ci .i64 0),(.ci .i64 6),(.ci .i64 7)]) <|
   .call 3 (.bNV (.bNT (.slice 5 (.int .u8)) aE) aB (aO (.bNT tI (.bNT (.slice 5 (.int .u8)) aE)) 1 (.Z 4)) (.Z 7)) <|
   .call 1 (.bNV (.bNT (.slice 5 (.int .u8)) aE) tI (aO (.bNT tI (.bNT (.slice 5 (.int .u8)) aE)) 1 (.Z 8)) (.p1 tI (.bNT (.slice 5 (.int .u8)) aE) (.Z 8))) <|
   .ret (.Z 9)) (
   .ret (.bNV aB (.bNT (.slice 5 (.int .u8)) aE) (.p1 aB (.bNT (.slice 5 (.int .u8)) aE) (.Z 3)) (aO (.bNT tI (.bNT (.slice 5 (.int .u8)) aE)) 1 (.Z 4)))))
theorem bE1 (f:(aU)→(bK × aU)):bM Tryz.prog [bS,jS,aBN,cO] { aG7 with fn:=f } false 3000 ⟨[],[(2984,6007,[21],[])]⟩ = .ok aGH:=by kernel_rfl
theorem bEV (x:aU) (hx:okD (.bNT (.slice 5 (.int .u8)) aE) x) (hp:(fun x=>0≤x.2.1) x):aGH.wp [bS,jS,aBN,cO] [⟨(.bNT (.slice 5 (.int .u8)) aE),x⟩] [] (fun v=>(fun x r=>r.1.length≤7∧0≤r.2.2.1:(aU)→(bK × aU)→Prop) x (v.as (.bNT aB (.bNT (.slice 5 (.int .u8)) aE)))):=by
 have q1:=cR (x,4) ⟨hx,okI (by omega) (by omega)⟩ hp
 delta aGH bS jS aBN cO;refine dB ?_
 refine dT ?_
 refine ⟨hp,fun _=>?_⟩
 generalize cI (x,4)=r at q1 ⊢;obtain ⟨n1,c1⟩:=r;obtain ⟨kq1,uq1⟩:=q1;replace kq1:okD nT c1:=kq1.2;dsimp only at uq1 ⊢
 refine ⟨by omega,fun _=>⟨⟨uq1.2.2.2,by omega⟩,fun _=>?_⟩⟩
 have q2:=qY (c1,1+n1) ⟨kq1,okI (by omega) (by omega)⟩ ⟨uq1.2.2.2,by show 1+n1≤1000;omega⟩
 generalize nW (c1,1+n1)=r at q2 ⊢;obtain ⟨l2,c2⟩:=r;obtain ⟨kq2,uq2⟩:=q2;replace kq2:okD nT c2:=kq2.2;dsimp only at uq2 ⊢
 refine ⟨uq2.2.2,fun _=>?_⟩
 have q3:=cR (c2,16) ⟨kq2,okI (by omega) (by omega)⟩ uq2.2.2
 generalize cI (c2,16)=r at q3 ⊢;obtain ⟨n3,c3⟩:=r;obtain ⟨kq3,uq3⟩:=q3;replace kq3:okD nT c3:=kq3.2;dsimp only at uq3 ⊢
 have hl2:List.length l2≤4:=by have:=uq2.1;omega
 refine ⟨fun _=>⟨uq3.2.2.2,fun _=>?_⟩,fun _=>⟨fun _ _=>⟨⟨uq3.2.2.2,fun h=>by cases h⟩,fun _=>?_⟩,fun _=>⟨by omega,uq3.2.2.2⟩⟩⟩
 ·have q4:=(bCJ c3 kq3 uq3.2.2.2).2
  (repeat' first|intro _|(with_reducible apply And.intro))
  all_goals first|omega|exact q4|(rw[List.length_set];omega)
 ·have q5:=lX (c3,[0,6,7]) ⟨kq3,okL (e:=3) (by show 3≤1000;omega) (by intro y hy;simp at hy;omega)⟩ ⟨uq3.2.2.2,by simp⟩
  generalize gM (c3,[0,6,7])=r at q5 ⊢;obtain ⟨n5,c5⟩:=r;obtain ⟨k5,u5⟩:=q5;dsimp only at u5 ⊢
  have m5:=u5.1
  simp only[List.mem_cons,List.mem_nil_iff,or_false] at m5
  refine ⟨⟨u5.2,by omega⟩,fun _=>?_⟩
  have q6:=(qY (c5,n5) ⟨k5.2,k5.1⟩ ⟨u5.2,by show n5≤1000;omega⟩).2
  dsimp only at q6
  exact ⟨by rw[q6.1];omega,q6.2.2⟩
theorem aGB:∃ f:(aU)→(bK × aU),(∀ x,okD (.bNT (.slice 5 (.int .u8)) aE) x→(fun x=>0≤x.2.1) x→(fun x r=>r.1.length≤7∧0≤r.2.2.1:(aU)→(bK × aU)→Prop) x (f x))∧Con.Holds Tryz.prog { aG7 with fn:=f }:=lO (C:=aG7) aW (aH fU (aH aBQ (aH aNP (aH jW aR)))) bE1 (fun x r=>r.1.length≤7∧0≤r.2.2.1:(aU)→(bK × aU)→Prop) bEV
def aC3:(aU)→(bK × aU):=Classical.choose aGB
def aBT:Con:=⟨22,(.bNT (.slice 5 (.int .u8)) aE),(.bNT aB (.bNT (.slice 5 (.int .u8)) aE)),[.box 97 ⟨true,(.bNT (.slice 5 (.int .u8)) aE),[]⟩],[⟨false,aB,[2]⟩],false,none,
 ((fun x=>0≤x.2.1):(aU)→Prop),
 ((aC3):(aU)→(bK × aU))⟩
theorem bDM:∀ x,okD (.bNT (.slice 5 (.int .u8)) aE) x→(fun x=>0≤x.2.1) x→(fun x r=>r.1.length≤7∧0≤r.2.2.1:(aU)→(bK × aU)→Prop) x (aC3 x):=(Classical.choose_spec aGB).1
theorem aNZ:Con.Holds Tryz.prog aBT:=(Classical.choose_spec aGB).2
theorem bCI (x:aU) (hx:okD (.bNT (.slice 5 (.int .u8)) aE) x) (hp:(fun x=>0≤x.2.1) x):okD (.bNT aB (.bNT (.slice 5 (.int .u8)) aE)) (aC3 x)∧(fun x r=>r.1.length≤7∧0≤r.2.2.1:(aU)→(bK × aU)→Prop) x (aC3 x):=⟨aNZ.ok x hp hx,bDM x hx hp⟩
def aL3:Con:=⟨123,(.bNT (.bNT (.slice 5 (.int .u8)) aE) tI),(.bNT bG (.bNT (.slice 5 (.int .u8)) aE)),[.box 97 ⟨true,(.bNT (.slice 5 (.int .u8)) aE),[]⟩,.val ⟨false,tI,[]⟩],[⟨true,bG,[0,0,0,2]⟩],false,none,
 ((fun x=>0≤x.1.2.1∧1≤x.2∧x.2≤6):(aU × Int)→Prop),
 ((fun _=>aV (.bNT bG (.bNT (.slice 5 (.int .u8)) aE))):(aU × Int)→(dJ × aU))⟩
def aJM:T:=.call 0 (.bNV (.bNT (.slice 5 (.int .u8)) aE) tI (.p1 (.bNT (.slice 5 (.int .u8)) aE) tI (.Z 0)) (.ci .i64 5)) <|
 .bNU (.ar .add .i64) (.bNV tI tI (.ci .i64 1) (.p1 tI (.bNT (.slice 5 (.int .u8)) aE) (.Z 1))) <|
 .bNU (.cmp .eql .i64) (.bNV tI tI (.Z 2) (.ci .i64 1)) <|
 .ite (.Z 3) (
  .call 0 (.bNV (.bNT (.slice 5 (.int .u8)) aE) tI (aO (.bNT tI (.bNT (.slice 5 (.int .u8)) aE)) 1 (.Z 1)) (.ci .i64 3)) <|
  .bNU (.ar .add .i64) (.bNV tI tI (.ci .i64 1) (.p1 tI (.bNT (.slice 5 (.int .u8)) aE) (.Z 4))) <|
  .call 1 (bB bG [(.Z 2),(aO (.bNT (.bNT (.slice 5 (.int .u8)) aE) tI) 1 (.Z 0)),(.Z 5),(.nl 3 tI)]) <|
  .call 2 (.bNV (.bNT (.slice 5 (.int .u8)) aE) tI (aO (.bNT tI (.bNT (.slice 5 (.int .u8)) aE)) 1 (.Z 4)) (.Z 6)) <|
  .ret (.bNV bG (.bNT (.slice 5 (.int .u8)) aE) (bB bG [(.Z 2),(aO (.bNT (.bNT (.slice 5 (.int .u8)) aE) tI) 1 (.Z 0)),(.Z 5),(.p1 aB (.bNT (.slice 5 (.int .u8)) aE) (.Z 7))]) (aO (.bNT aB (.bNT (.slice 5 (.int .u8)) aE)) 1 (.Z 7)))) (
  .call 1 (bB bG [(.Z 2),(aO (.bNT (.bNT (.slice 5 (.int .u8)) aE) tI) 1 (.Z 0)),(aO (.bNT (.bNT (.slice 5 (.int .u8)) aE) tI) 1 (.Z 0)),(.nl 3 tI)]) <|
  .call 2 (.bNV (.bNT (.slice 5 (.int .u8)) aE) tI (aO (.bNT tI (.bNT (.slice 5 (.int .u8)) aE)) 1 (.Z 1)) (.Z 4)) <|
  .ret (.bNV bG (.bNT (.slice 5 (.int .u8)) aE) (bB bG [(.Z 2),(aO (.bNT (.bNT (.slice 5 (.int .u8)) aE) tI) 1 (.Z 0)),(aO (.bNT (.bNT (.slice 5 (.int .u8)) aE) tI) 1 (.Z 0)),(.p1 aB (.bNT (.slice 5 (.int .u8)) aE) (.Z 5))]) (aO (.bNT aB (.bNT (.slice 5 (.int .u8)) aE)) 1 (.Z 5))))
theorem bG1 (f:(aU × Int)→(dJ × aU)):bM Tryz.prog [bS,kW,jS] { aL3 with fn:=f } false 3000 ⟨[],[]⟩ = .ok aJM:=by kernel_rfl
theorem bFO (x:aU × Int) (hx:okD (.bNT (.bNT (.slice 5 (.int .u8)) aE) tI) x) (hp:(fun x=>0≤x.1.2.1∧1≤x.2∧x.2≤6) x):aJM.wp [bS,kW,jS] [⟨(.bNT (.bNT (.slice 5 (.int .u8)) aE) tI),x⟩] [] (fun v=>(fun x r=>(opB r.1=true∧r.1.2.1=x.2)∧0≤r.2.2.1:(aU × Int)→(dJ × aU)→Prop) x (v.as (.bNT bG (.bNT (.slice 5 (.int .u8)) aE)))):=by
 obtain ⟨c,n⟩:=x
 obtain ⟨hp,hn1,hn2⟩:0≤c.2.1∧1≤n∧n≤6:=hp
 have q1:=cR (c,5) ⟨hx.1,okI (by omega) (by omega)⟩ hp
 delta aJM bS kW jS;refine dB ?_
 refine dT ?_
 refine ⟨hp,fun _=>?_⟩
 generalize cI (c,5)=r at q1 ⊢;obtain ⟨n1,c1⟩:=r;obtain ⟨k1,u1⟩:=q1;replace k1:okD nT c1:=k1.2;dsimp only at u1 ⊢
 refine ⟨by omega,fun _=>⟨fun h1=>⟨u1.2.2.2,fun _=>?_⟩,fun h1 hs=>?_⟩⟩
 ·have q2:=cR (c1,3) ⟨k1,okI (by omega) (by omega)⟩ u1.2.2.2
  generalize cI (c1,3)=r at q2 ⊢;obtain ⟨n2,c2⟩:=r;obtain ⟨k2,u2⟩:=q2;replace k2:okD nT c2:=k2.2;dsimp only at u2 ⊢
  have hz:=bMV (k:=1+n1) (i:=n) (o:=1+n2) hn1 hn2 (by omega) (by omega)
  refine ⟨by omega,fun _ hs=>⟨⟨u2.2.2.2,by omega⟩,fun _=>?_⟩⟩
  have q3:=(qY (c2,gC (1+n1,n,1+n2,[])) ⟨k2,hs⟩ ⟨u2.2.2.2,by show gC (1+n1,n,1+n2,[])≤1000;omega⟩).2
  exact ⟨⟨bHK (by omega) (by omega) hn1 hn2 (by omega) (by omega) (by omega) q3.1 q3.2.1,trivial⟩,q3.2.2⟩
 ·have hz:=bMV (k:=1+n1) (i:=n) (o:=n) hn1 hn2 hn1 hn2
  refine ⟨⟨u1.2.2.2,by omega⟩,fun _=>?_⟩
  have q3:=(qY (c1,gC (1+n1,n,n,[])) ⟨k1,hs⟩ ⟨u1.2.2.2,by show gC (1+n1,n,n,[])≤1000;omega⟩).2
  exact ⟨⟨bHK (by omega) (by omega) hn1 hn2 hn1 hn2 (fun _=>rfl) q3.1 q3.2.1,trivial⟩,q3.2.2⟩
theorem aL6:∃ f:(aU × Int)→(dJ × aU),(∀ x,okD (.bNT (.bNT (.slice 5 (.int .u8)) aE) tI) x→(fun x=>0≤x.1.2.1∧1≤x.2∧x.2≤6) x→(fun x r=>(opB r.1=true∧r.1.2.1=x.2)∧0≤r.2.2.1:(aU × Int)→(dJ × aU)→Prop) x (f x))∧Con.Holds Tryz.prog { aL3 with fn:=f }:=lO (C:=aL3) aW (aH fU (aH aLK (aH aBQ aR))) bG1 (fun x r=>(opB r.1=true∧r.1.2.1=x.2)∧0≤r.2.2.1:(aU × Int)→(dJ × aU)→Prop) bFO
def zA:(aU × Int)→(dJ × aU):=Classical.choose aL6
def aEU:Con:=⟨123,(.bNT (.bNT (.slice 5 (.int .u8)) aE) tI),(.bNT bG (.bNT (.slice 5 (.int .u8)) aE)),[.box 97 ⟨true,(.bNT (.slice 5 (.int .u8)) aE),[]⟩,.val ⟨false,tI,[]⟩],[⟨true,bG,[0,0,0,2]⟩],false,none,
 ((fun x=>0≤x.1.2.1∧1≤x.2∧x.2≤6):(aU × Int)→Prop),
 ((zA):(aU × Int)→(dJ × aU))⟩
theorem bH2:∀ x,okD (.bNT (.bNT (.slice 5 (.int .u8)) aE) tI) x→(fun x=>0≤x.1.2.1∧1≤x.2∧x.2≤6) x→(fun x r=>(opB r.1=true∧r.1.2.1=x.2)∧0≤r.2.2.1:(aU × Int)→(dJ × aU)→Prop) x (zA x):=(Classical.choose_spec aL6).1
theorem aS1:Con.Holds Tryz.prog aEU:=(Classical.choose_spec aL6).2
theorem bG0 (x:aU × Int) (hx:okD (.bNT (.bNT (.slice 5 (.int .u8)) aE) tI) x) (hp:(fun x=>0≤x.1.2.1∧1≤x.2∧x.2≤6) x):okD (.bNT bG (.bNT (.slice 5 (.int .u8)) aE)) (zA x)∧(fun x r=>(opB r.1=true∧r.1.2.1=x.2)∧0≤r.2.2.1:(aU × Int)→(dJ × aU)→Prop) x (zA x):=⟨aS1.ok x hp hx,bH2 x hx hp⟩
def zR:Con:=⟨92,(.bNT (.slice 5 (.int .u8)) aE),(.bNT aK (.bNT (.slice 5 (.int .u8)) aE)),[.box 97 ⟨true,(.bNT (.slice 5 (.int .u8)) aE),[]⟩],[⟨true,aK,[2]⟩],false,none,
 ((fun x=>0≤x.2.1):(aU)→Prop),
 ((fun _=>aV (.bNT aK (.bNT (.slice 5 (.int .u8)) aE))):(aU)→(bD × aU))⟩
def yW:T:=.call 0 (.bNV (.bNT (.slice 5 (.int .u8)) aE) tI (.Z 0) (.ci .i64 3)) <|
 .bNU (.ar .add .i64) (.bNV tI tI (.ci .i64 1) (.p1 tI (.bNT (.slice 5 (.int .u8)) aE) (.Z 1))) <|
 .call 0 (.bNV (.bNT (.slice 5 (.int .u8)) aE) tI (aO (.bNT tI (.bNT (.slice 5 (.int .u8)) aE)) 1 (.Z 1)) (.ci .i64 6)) <|
 .bNU (.ar .add .i64) (.bNV tI tI (.ci .i64 1) (.p1 tI (.bNT (.slice 5 (.int .u8)) aE) (.Z 3))) <|
 .loop (.bNT tI (.bNT tI (.bNT (.slice 5 (.int .u8)) (.bNT tI (.bNT tI aK))))) (bB (.bNT tI (.bNT tI (.bNT (.slice 5 (.int .u8)) (.bNT tI (.bNT tI aK))))) [(.Z 4),(.Z 2),(aJ (.bNT tI (.bNT (.slice 5 (.int .u8)) aE)) 1 (.Z 3)),(aJ (.bNT tI (.bNT (.slice 5 (.int .u8)) aE)) 2 (.Z 3)),(aO (.bNT tI (.bNT (.slice 5 (.int .u8)) aE)) 3 (.Z 3)),(.nl 78 bG)]) <|
  .bNU (.cmp .gtr .i64) (.bNV tI tI (.p1 tI (.bNT tI (.bNT (.slice 5 (.int .u8)) (.bNT tI (.bNT tI aK)))) (.Z 5)) (.ci .i64 0)) <|
  .ite (.Z 6) (
   .call 1 (.bNV (.bNT (.slice 5 (.int .u8)) aE) tI (bB (.bNT (.slice 5 (.int .u8)) aE) [(aJ (.bNT tI (.bNT tI (.bNT (.slice 5 (.int .u8)) (.bNT tI (.bNT tI aK))))) 2 (.Z 5)),(aJ (.bNT tI (.bNT tI (.bNT (.slice 5 (.int .u8)) (.bNT tI (.bNT tI aK))))) 3 (.Z 5)),(aJ (.bNT tI (.bNT tI (.bNT (.slice 5 (.int .u8)) (.bNT tI (.bNT tI aK))))) 4 (.Z 5))]) (aJ (.bNT tI (.bNT tI (.bNT (.slice 5 (.int .u8)) (.bNT tI (.bNT tI aK))))) 1 (.Z 5))) <|
   .bNU (.lit 78 bG 1) (.p1 bG (.bNT (.slice 5 (.int .u8)) aE) (.Z 7)) <|
   .bNU (.bO0 78 bG 48) (.bNV aK aK (aO (.bNT tI (.bNT tI (.bNT (.slice 5 (.int .u8)) (.bNT tI (.bNT tI aK))))) 5 (.Z 5)) (.Z 8)) <|
   .bNU (.ar .sub .i64) (.bNV tI tI (.p1 tI (.bNT tI (.bNT (.slice 5 (.int .u8)) (.bNT tI (.bNT tI aK)))) (.Z 5)) (.ci .i64 1)) <|
   .bNW 0 (bB (.bNT tI (.bNT tI (.bNT (.slice 5 (.int .u8)) (.bNT tI (.bNT tI aK))))) [(.Z 10),(aJ bG 2 (.p1 bG (.bNT (.slice 5 (.int .u8)) aE) (.Z 7))),(aJ (.bNT bG (.bNT (.slice 5 (.int .u8)) aE)) 1 (.Z 7)),(aJ (.bNT bG (.bNT (.slice 5 (.int .u8)) aE)) 2 (.Z 7)),(aO (.bNT bG (.bNT (.slice 5 (.int .u8)) aE)) 3 (.Z 7)),(.Z 9)])) (
   .ret (bB (.bNT aK (.bNT (.slice 5 (.int .u8)) aE)) [(aO (.bNT tI (.bNT tI (.bNT (.slice 5 (.int .u8)) (.bNT tI (.bNT tI aK))))) 5 (.Z 5)),(aJ (.bNT tI (.bNT tI (.bNT (.slice 5 (.int .u8)) (.bNT tI (.bNT tI aK))))) 2 (.Z 5)),(aJ (.bNT tI (.bNT tI (.bNT (.slice 5 (.int .u8)) (.bNT tI (.bNT tI aK))))) 3 (.Z 5)),(aJ (.bNT tI (.bNT tI (.bNT (.slice 5 (.int .u8)) (.bNT tI (.bNT tI aK))))) 4 (.Z 5))]))
theorem aU2 (f:(aU)→(bD × aU)):bM Tryz.prog [bS,aEU] { zR with fn:=f } false 3000 ⟨[(2989,1005,iT 13 7++[.tm 5 0,.tm 4 0,.bx 1 0,.bx 1 1,.bx 1 2,.sl 6])],[(2978,3008,[],[7])]⟩ = .ok yW:=by kernel_rfl
theorem aUA (x:aU) (hx:okD (.bNT (.slice 5 (.int .u8)) aE) x) (hp:(fun x=>0≤x.2.1) x):yW.wp [bS,aEU] [⟨(.bNT (.slice 5 (.int .u8)) aE),x⟩] [] (fun v=>(fun x r=>(1≤r.1.length∧bW r.1=true)∧r.1.length≤6∧(∀ o∈r.1,opB o=true)∧0≤r.2.2.1:(aU)→(bD × aU)→Prop) x (v.as (.bNT aK (.bNT (.slice 5 (.int .u8)) aE)))):=by
 have q1:=cR (x,3) ⟨hx,okI (by omega) (by omega)⟩ hp
 delta yW bS aEU;refine dB ?_
 refine dT ?_
 refine ⟨hp,fun _=>?_⟩
 generalize cI (x,3)=r at q1 ⊢;obtain ⟨n1,c1⟩:=r;obtain ⟨k1,u1⟩:=q1;replace k1:okD nT c1:=k1.2;dsimp only at u1 ⊢
 refine ⟨by omega,fun _=>⟨u1.2.2.2,fun _=>?_⟩⟩
 have q2:=cR (c1,6) ⟨k1,okI (by omega) (by omega)⟩ u1.2.2.2
 generalize cI (c1,6)=r at q2 ⊢;obtain ⟨n2,c2⟩:=r;obtain ⟨k2,u2⟩:=q2;replace k2:okD nT c2:=k2.2;dsimp only at u2 ⊢
 refine ⟨by omega,fun _=>⟨fun s=>@LE.le Int _ 0 s.1∧(List.length s.2.2.2.2.2:Int)+s.1=1+n2∧@LE.le Int _ 1 s.2.1∧@LE.le Int _ s.2.1 6∧((∀ o∈s.2.2.2.2.2,opB o=true)∧chB s.2.2.2.2.2 s.2.1)∧@LE.le Int _ 0 s.2.2.2.1,fun s=>(s.1:Int).toNat,⟨by show 0≤1+n2;omega,by show (0:Int)+(1+n2)=1+n2;omega,by show 1≤1+n1;omega,by show 1+n1≤6;omega,⟨fun o h=>by simp at h,fun i h=>absurd h (Nat.not_lt_zero _),fun h=>absurd h (Nat.lt_irrefl _)⟩,u2.2.2.2⟩,fun s hs hI=>?_⟩⟩
 obtain ⟨j,g,b,i,h,l⟩:=s
 obtain ⟨e1,e2,e3,e4,⟨e5,e7⟩,e6⟩:=hI
 change Int at j
 change Int at g
 change List dJ at l
 change 0≤j at e1
 change (l.length:Int)+j=1+n2 at e2
 change 1≤g at e3
 change g≤6 at e4
 change ∀ o∈l,opB o=true at e5
 change chB l g at e7
 have q:=(bG0 ((b,i,h),g) ⟨⟨hs.2.2.1,hs.2.2.2.1,hs.2.2.2.2.1⟩,hs.2.1⟩ ⟨e6,e3,e4⟩).2
 try dsimp only
 refine ⟨fun hlt=>⟨⟨e6,e3,e4⟩,fun _ _=>⟨⟨by omega,by unfold maxLen;omega⟩,fun _=>⟨by omega,fun _=>⟨⟨by omega,?_,?_,?_,⟨fun o ho=>?_,bFX e7 q.1.1 q.1.2⟩,q.2⟩,?_⟩⟩⟩⟩,fun hge=>?_⟩
 ·show (((l++[(zA ((b,i,h),g)).fst]).length:Nat):Int)+(j - 1)=1+n2
  rw[List.length_append];simp;omega
 ·obtain ⟨⟨_,_,_,_,j1,j2,_⟩,_⟩:=(hK _).1 q.1.1
  exact j1
 ·obtain ⟨⟨_,_,_,_,j1,j2,_⟩,_⟩:=(hK _).1 q.1.1
  exact j2
 ·rcases List.mem_append.1 ho with ho|ho
  ·exact e5 o ho
  ·rw[List.mem_singleton] at ho
   rw[ho];exact q.1.1
 ·show (j - 1).toNat<j.toNat
  omega
 ·have hj:j≤0:=by simpa using hge
  exact ⟨⟨by omega,(bR l).2 ⟨by omega,by omega,e7.1⟩⟩,by omega,e5,e6⟩
theorem aAZ:∃ f:(aU)→(bD × aU),(∀ x,okD (.bNT (.slice 5 (.int .u8)) aE) x→(fun x=>0≤x.2.1) x→(fun x r=>(1≤r.1.length∧bW r.1=true)∧r.1.length≤6∧(∀ o∈r.1,opB o=true)∧0≤r.2.2.1:(aU)→(bD × aU)→Prop) x (f x))∧Con.Holds Tryz.prog { zR with fn:=f }:=lO (C:=zR) aW (aH fU (aH aS1 aR)) aU2 (fun x r=>(1≤r.1.length∧bW r.1=true)∧r.1.length≤6∧(∀ o∈r.1,opB o=true)∧0≤r.2.2.1:(aU)→(bD × aU)→Prop) aUA
def pD:(aU)→(bD × aU):=Classical.choose aAZ
def tL:Con:=⟨92,(.bNT (.slice 5 (.int .u8)) aE),(.bNT aK (.bNT (.slice 5 (.int .u8)) aE)),[.box 97 ⟨true,(.bNT (.slice 5 (.int .u8)) aE),[]⟩],[⟨true,aK,[2]⟩],false,none,
 ((fun x=>0≤x.2.1):(aU)→Prop),
 ((pD):(aU)→(bD × aU))⟩
theorem aVN:∀ x,okD (.bNT (.slice 5 (.int .u8)) aE) x→(fun x=>0≤x.2.1) x→(fun x r=>(1≤r.1.length∧bW r.1=true)∧r.1.length≤6∧(∀ o∈r.1,opB o=true)∧0≤r.2.2.1:(aU)→(bD × aU)→Prop) x (pD x):=(Classical.choose_spec aAZ).1
theorem aI3:Con.Holds Tryz.prog tL:=(Classical.choose_spec aAZ).2
theorem aTF (x:aU) (hx:okD (.bNT (.slice 5 (.int .u8)) aE) x) (hp:(fun x=>0≤x.2.1) x):okD (.bNT aK (.bNT (.slice 5 (.int .u8)) aE)) (pD x)∧(fun x r=>(1≤r.1.length∧bW r.1=true)∧r.1.length≤6∧(∀ o∈r.1,opB o=true)∧0≤r.2.2.1:(aU)→(bD × aU)→Prop) x (pD x):=⟨aI3.ok x hp hx,aVN x hx hp⟩
def zP:Con:=⟨142,(.bNT (.bNT (.slice 5 (.int .u8)) aE) aK),(.bNT aN (.bNT (.slice 5 (.int .u8)) aE)),[.box 97 ⟨true,(.bNT (.slice 5 (.int .u8)) aE),[]⟩,.val ⟨true,aK,[]⟩],[⟨false,aN,[2]⟩],false,none,
 ((fun x=>0≤x.1.2.1):(aU × bD)→Prop),
 ((fun _=>aV (.bNT aN (.bNT (.slice 5 (.int .u8)) aE))):(aU × bD)→(dL × aU))⟩
def zG:T:=.call 0 (.bNV (.bNT (.slice 5 (.int .u8)) aE) tI (.p1 (.bNT (.slice 5 (.int .u8)) aE) aK (.Z 0)) (.ci .i64 4)) <|
 .bNU (.ar .add .i64) (.bNV tI tI (.ci .i64 1) (.p1 tI (.bNT (.slice 5 (.int .u8)) aE) (.Z 1))) <|
 .loop (.bNT tI (.bNT (.slice 5 (.int .u8)) (.bNT tI (.bNT tI aN)))) (bB (.bNT tI (.bNT (.slice 5 (.int .u8)) (.bNT tI (.bNT tI aN)))) [(.Z 2),(aJ (.bNT tI (.bNT (.slice 5 (.int .u8)) aE)) 1 (.Z 1)),(aJ (.bNT tI (.bNT (.slice 5 (.int .u8)) aE)) 2 (.Z 1)),(aO (.bNT tI (.bNT (.slice 5 (.int .u8)) aE)) 3 (.Z 1)),(.nl 94 aM)]) <|
  .bNU (.cmp .gtr .i64) (.bNV tI tI (.p1 tI (.bNT (.slice 5 (.int .u8)) (.bNT tI (.bNT tI aN))) (.Z 3)) (.ci .i64 0)) <|
  .ite (.Z 4) (
   .call 1 (aO (.bNT (.bNT (.slice 5 (.int .u8)) aE) aK) 1 (.Z 0)) <|
   .call 2 (.bNV (.bNT (.slice 5 (.int .u8)) aE) tI (bB (.bNT (.slice 5 (.int .u8)) aE) [(aJ (.bNT tI (.bNT (.slice 5 (.int .u8)) (.bNT tI (.bNT tI aN)))) 1 (.Z 3)),(aJ (.bNT tI (.bNT (.slice 5 (.int .u8)) (.bNT tI (.bNT tI aN)))) 2 (.Z 3)),(aJ (.bNT tI (.bNT (.slice 5 (.int .u8)) (.bNT tI (.bNT tI aN)))) 3 (.Z 3))]) (.Z 5)) <|
   .call 3 (aO (.bNT (.bNT (.slice 5 (.int .u8)) aE) aK) 1 (.Z 0)) <|
   .call 2 (.bNV (.bNT (.slice 5 (.int .u8)) aE) tI (aO (.bNT aB (.bNT (.slice 5 (.int .u8)) aE)) 1 (.Z 6)) (.Z 7)) <|
   .bNU (.lit 94 aM 1) (.bNV aB aB (.p1 aB (.bNT (.slice 5 (.int .u8)) aE) (.Z 6)) (.p1 aB (.bNT (.slice 5 (.int .u8)) aE) (.Z 8))) <|
   .bNU (.bO0 94 aM 48) (.bNV aN aN (aO (.bNT tI (.bNT (.slice 5 (.int .u8)) (.bNT tI (.bNT tI aN)))) 4 (.Z 3)) (.Z 9)) <|
   .bNU (.ar .sub .i64) (.bNV tI tI (.p1 tI (.bNT (.slice 5 (.int .u8)) (.bNT tI (.bNT tI aN))) (.Z 3)) (.ci .i64 1)) <|
   .bNW 0 (bB (.bNT tI (.bNT (.slice 5 (.int .u8)) (.bNT tI (.bNT tI aN)))) [(.Z 11),(aJ (.bNT aB (.bNT (.slice 5 (.int .u8)) aE)) 1 (.Z 8)),(aJ (.bNT aB (.bNT (.slice 5 (.int .u8)) aE)) 2 (.Z 8)),(aO (.bNT aB (.bNT (.slice 5 (.int .u8)) aE)) 3 (.Z 8)),(.Z 10)])) (
   .ret (bB (.bNT aN (.bNT (.slice 5 (.int .u8)) aE)) [(aO (.bNT tI (.bNT (.slice 5 (.int .u8)) (.bNT tI (.bNT tI aN)))) 4 (.Z 3)),(aJ (.bNT tI (.bNT (.slice 5 (.int .u8)) (.bNT tI (.bNT tI aN)))) 1 (.Z 3)),(aJ (.bNT tI (.bNT (.slice 5 (.int .u8)) (.bNT tI (.bNT tI aN)))) 2 (.Z 3)),(aJ (.bNT tI (.bNT (.slice 5 (.int .u8)) (.bNT tI (.bNT tI aN)))) 3 (.Z 3))]))
theorem aTL (f:(aU × bD)→(dL × aU)):bM Tryz.prog [bS,pJ,jS,mP] { zP with fn:=f } false 3000 ⟨[(2991,1003,iT 10 7++[.dr 1,.tm 6 0,.on 5,.bx 1 0,.bx 1 1,.bx 1 2,.sl 3])],[(2983,3005,[23,19],[])]⟩ = .ok zG:=by kernel_rfl
theorem aTM (x:aU × bD) (hx:okD (.bNT (.bNT (.slice 5 (.int .u8)) aE) aK) x) (hp:(fun x=>0≤x.1.2.1) x):zG.wp [bS,pJ,jS,mP] [⟨(.bNT (.bNT (.slice 5 (.int .u8)) aE) aK),x⟩] [] (fun v=>(fun x r=>(1≤r.1.length∧(bW x.2=true→eN x.2 r.1=true))∧r.1.length≤4∧(∀ p∈r.1,p.1.length≤6∧p.2.length≤6)∧0≤r.2.2.1:(aU × bD)→(dL × aU)→Prop) x (v.as (.bNT aN (.bNT (.slice 5 (.int .u8)) aE)))):=by
 obtain ⟨c,m⟩:=x
 have q1:=cR (c,4) ⟨hx.1,okI (by omega) (by omega)⟩ hp
 have ib:=bMA m
 have ob:=bJO m
 delta zG bS pJ jS mP;refine dB ?_
 refine dT ?_
 refine ⟨hp,fun _=>?_⟩
 generalize cI (c,4)=r at q1 ⊢;obtain ⟨n1,c1⟩:=r;obtain ⟨k1,u1⟩:=q1;replace k1:okD nT c1:=k1.2;dsimp only at u1 ⊢
 refine ⟨by omega,fun _=>⟨fun s=>@LE.le Int _ 0 s.1∧(List.length s.2.2.2.2:Int)+s.1=1+n1∧((∀ p∈s.2.2.2.2,List.length p.1≤6∧List.length p.2≤6)∧∀ p∈s.2.2.2.2,bW m=true→lH m p=true)∧@LE.le Int _ 0 s.2.2.1,fun s=>(s.1:Int).toNat,⟨by show 0≤1+n1;omega,by show (0:Int)+(1+n1)=1+n1;omega,⟨fun o h=>(by simp at h),fun o h=>by simp at h⟩,u1.2.2.2⟩,fun s hs hI=>?_⟩⟩
 obtain ⟨j,b,i,h,l⟩:=s
 obtain ⟨e1,e2,⟨e5,e7⟩,e6⟩:=hI
 change Int at j
 change List bP at l
 change 0≤j at e1
 change (l.length:Int)+j=1+n1 at e2
 change ∀ p∈l,List.length p.1≤6∧List.length p.2≤6 at e5
 change ∀ p∈l,bW m=true→lH m p=true at e7
 try dsimp only
 refine ⟨fun hlt hi=>⟨⟨e6,by omega⟩,fun _ ho=>?_⟩,fun hge=>?_⟩
 ·have q2:=qY ((b,i,h),iJ m) ⟨⟨hs.2.1,hs.2.2.1,hs.2.2.2.1⟩,hi⟩ ⟨e6,by show iJ m≤1000;omega⟩
  generalize nW ((b,i,h),iJ m)=r at q2 ⊢;obtain ⟨v2,c2⟩:=r;obtain ⟨k2,u2⟩:=q2;replace k2:okD nT c2:=k2.2;dsimp only at u2 ⊢
  refine ⟨⟨u2.2.2,by omega⟩,fun _=>?_⟩
  have q3:=(qY (c2,eM m) ⟨k2,ho⟩ ⟨u2.2.2,by show eM m≤1000;omega⟩).2
  generalize nW (c2,eM m)=r at q3 ⊢;obtain ⟨v3,c3⟩:=r;dsimp only at q3 ⊢
  refine fun _=>⟨⟨by omega,by unfold maxLen;omega⟩,fun _=>⟨by omega,fun _=>⟨⟨by omega,?_,⟨fun p hp=>?_,fun p hp hm=>?_⟩,q3.2.2⟩,?_⟩⟩⟩
  ·show (((l++[(v2,v3)]).length:Nat):Int)+(j - 1)=1+n1
   rw[List.length_append];simp;omega
  ·rcases List.mem_append.1 hp with hp|hp
   ·exact e5 p hp
   ·rw[List.mem_singleton] at hp
    subst hp
    exact ⟨by show List.length v2≤6;rw[u2.1];omega,by show List.length v3≤6;rw[q3.1];omega⟩
  ·rcases List.mem_append.1 hp with hp|hp
   ·exact e7 p hp hm
   ·rw[List.mem_singleton] at hp
    subst hp
    have h1:=bLY hm
    show (eF v2 (iJ m)&&eF v3 (eM m))=true
    rw[bBF h1.1 ib.2 u2.1 u2.2.1,bBF h1.2 ob.2 q3.1 q3.2.1];rfl
  ·show (j - 1).toNat<j.toNat
   omega
 ·have hj:j≤0:=by simpa using hge
  exact ⟨⟨by omega,fun hm=>(aJ7 m l).2 ⟨hm,⟨by omega,by omega⟩,List.all_eq_true.2 fun p hp=>e7 p hp hm⟩⟩,by omega,e5,e6⟩
theorem aB4:∃ f:(aU × bD)→(dL × aU),(∀ x,okD (.bNT (.bNT (.slice 5 (.int .u8)) aE) aK) x→(fun x=>0≤x.1.2.1) x→(fun x r=>(1≤r.1.length∧(bW x.2=true→eN x.2 r.1=true))∧r.1.length≤4∧(∀ p∈r.1,p.1.length≤6∧p.2.length≤6)∧0≤r.2.2.1:(aU × bD)→(dL × aU)→Prop) x (f x))∧Con.Holds Tryz.prog { zP with fn:=f }:=lO (C:=zP) aW (aH fU (aH aSB (aH aBQ (aH aOS aR)))) aTL (fun x r=>(1≤r.1.length∧(bW x.2=true→eN x.2 r.1=true))∧r.1.length≤4∧(∀ p∈r.1,p.1.length≤6∧p.2.length≤6)∧0≤r.2.2.1:(aU × bD)→(dL × aU)→Prop) aTM
def pA:(aU × bD)→(dL × aU):=Classical.choose aB4
def tX:Con:=⟨142,(.bNT (.bNT (.slice 5 (.int .u8)) aE) aK),(.bNT aN (.bNT (.slice 5 (.int .u8)) aE)),[.box 97 ⟨true,(.bNT (.slice 5 (.int .u8)) aE),[]⟩,.val ⟨true,aK,[]⟩],[⟨false,aN,[2]⟩],false,none,
 ((fun x=>0≤x.1.2.1):(aU × bD)→Prop),
 ((pA):(aU × bD)→(dL × aU))⟩
theorem aUW:∀ x,okD (.bNT (.bNT (.slice 5 (.int .u8)) aE) aK) x→(fun x=>0≤x.1.2.1) x→(fun x r=>(1≤r.1.length∧(bW x.2=true→eN x.2 r.1=true))∧r.1.length≤4∧(∀ p∈r.1,p.1.length≤6∧p.2.length≤6)∧0≤r.2.2.1:(aU × bD)→(dL × aU)→Prop) x (pA x):=(Classical.choose_spec aB4).1
theorem aI1:Con.Holds Tryz.prog tX:=(Classical.choose_spec aB4).2
theorem aV2 (x:aU × bD) (hx:okD (.bNT (.bNT (.slice 5 (.int .u8)) aE) aK) x) (hp:(fun x=>0≤x.1.2.1) x):okD (.bNT aN (.bNT (.slice 5 (.int .u8)) aE)) (pA x)∧(fun x r=>(1≤r.1.length∧(bW x.2=true→eN x.2 r.1=true))∧r.1.length≤4∧(∀ p∈r.1,p.1.length≤6∧p.2.length≤6)∧0≤r.2.2.1:(aU × bD)→(dL × aU)→Prop) x (pA x):=⟨aI1.ok x hp hx,aUW x hx hp⟩
end
end Go.Proofs.YtdeobhdbmehpgaaGreat
