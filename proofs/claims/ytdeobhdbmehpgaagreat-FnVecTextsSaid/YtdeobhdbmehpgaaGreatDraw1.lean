/- Draw1: lemmas. No conditions. -/
import Derived.Test.YtdeobhdbmehpgaaGreatDrawC
import Derived.Test.YtdeobhdbmehpgaaGreatLoop
import Derived.Test.YtdeobhdbmehpgaaGreatSeq5
namespace Go.Proofs.YtdeobhdbmehpgaaGreat
noncomputable section
set_option maxRecDepth 100000
open Go.ChangeShapes Go.WideShapes Go.ChangeAt Go.RowKit Go.Deep
set_option linter.unusedVariables false
set_option linter.unusedSimpArgs false
theorem aUG (x:Int):0≤yO .and .i64 x 255∧yO .and .i64 x 255≤255:=aPQ (m:=255) (by decide)
theorem bD4 {α:Type} {l:List α} (h:l.length≤maxLen):l.length≤9223372036854775807:=by unfold maxLen at h;omega
theorem tmB {a n:Int} (ha:0≤a) (hn:0<n):0≤a.tmod n∧a.tmod n<n:=by
 rw[Int.tmod_eq_emod_of_nonneg ha]
 exact ⟨Int.emod_nonneg _ (by omega),Int.emod_lt_of_pos _ hn⟩
theorem tdB {a p:Int} (h1:-600000≤a) (h2:a≤600000):-600000≤a.tdiv p∧a.tdiv p≤600000:=by
 have h:=Int.natAbs_tdiv a p
 have h3:=Nat.div_le_self a.natAbs p.natAbs
 have h4:a.natAbs.div p.natAbs=a.natAbs / p.natAbs:=rfl
 omega
theorem bCK {m:bL} (h:cX m=true) {k:Nat} (hk:k<m.length):1≤m[k].2.1∧m[k].2.1≤6∧1≤m[k].2.2.1∧m[k].2.2.1≤6:=by
 have:=((bA m).1 h).2.2 k hk
 obtain ⟨⟨_,_,h1,h2,h3,h4,_⟩,_⟩:=(gA _).1 ((sB m hk).1 this).1
 exact ⟨h1,h2,h3,h4⟩
theorem bDT (m:bL):0≤iA m∧iA m≤6:=by
 unfold iA
 split
 ·rename_i h
  have hl:=(bA m).1 h
  have h0:0<m.length:=by omega
  have:=bCK h h0
  rw[bE h0]
  omega
 ·omega
theorem bCE (m:bL):0≤dJ m∧dJ m≤6:=by
 unfold dJ
 split
 ·rename_i h
  have hl:=(bA m).1 h
  have h0:List.length m - 1<m.length:=by omega
  have:=bCK h h0
  rw[bE h0]
  omega
 ·omega
theorem bDS {k i o:Int} (h1:1≤i) (h2:i≤6) (h3:1≤o) (h4:o≤6):0≤eX (k,i,o,[])∧eX (k,i,o,[])≤36:=by
 have:=aOR h1 h2 h3 h4
 unfold eX
 dsimp only
 repeat' split
 all_goals omega
theorem aZA {k i o:Int} {P:List Int} (k1:1≤k) (k5:k≤5) (h1:1≤i) (h2:i≤6) (h3:1≤o) (h4:o≤6) (hk:k≠1→i=o) (hl:P.length=(eX (k,i,o,[])).toNat) (ha:∀ v∈P,fZ v=true):opB (k,i,o,P)=true:=by
 have hs:=bDS (k:=k) h1 h2 h3 h4
 refine (gA _).2 ⟨⟨k1,k5,h1,h2,h3,h4,hk,?_⟩,List.all_eq_true.2 ha⟩
 show (P.length:Int)=eX (k,i,o,[])
 omega
def chB (l:List dR) (g:Int):Prop:=(∀ i,i<l.length→aIE l i=true)∧(0<l.length→(l.getD (l.length - 1) zOp).2.2.1=g)
theorem bAI {l:List dR} {o:dR} {g:Int} (h:chB l g) (ho:opB o=true) (hi:o.2.1=g):chB (l++[o]) o.2.2.1:=by
 have e:∀ j,j<l.length→(l++[o]).getD j zOp=l.getD j zOp:=fun j hj=>by
  rw[List.getD_eq_getElem?_getD,List.getD_eq_getElem?_getD,List.getElem?_append_left hj]
 have e2:(l++[o]).getD l.length zOp=o:=by
  rw[List.getD_eq_getElem?_getD,List.getElem?_append_right (Nat.le_refl _),Nat.sub_self];rfl
 have el:(l++[o]).length=l.length+1:=by rw[List.length_append];rfl
 refine ⟨fun i hlt=>?_,fun _=>?_⟩
 ·rw[el] at hlt
  rcases Nat.lt_or_eq_of_le (Nat.le_of_lt_succ hlt) with h1|rfl
  ·have:=h.1 i h1
   unfold aIE at this ⊢
   rw[e i h1,e (i - 1) (by omega)];exact this
  ·unfold aIE
   rw[e2,ho]
   by_cases h0:l.length=0
   ·rw[decide_eq_true h0];rfl
   ·rw[e (l.length - 1) (by omega),h.2 (by omega),decide_eq_true (show g=o.2.1 from hi.symm),Bool.or_true];rfl
 ·rw[el,Nat.add_sub_cancel,e2]
theorem okI {n:Int} (h1:-9223372036854775808≤n) (h2:n≤9223372036854775807):okD tI n:=⟨h1,h2⟩
theorem okL {e:TypeId} {l:List Int} (hl:l.length≤1000) (h:∀ y∈l,-9223372036854775808≤y∧y≤9223372036854775807):okD (.slice e tI) l:=⟨by unfold maxLen;exact Nat.le_trans hl (by decide),h⟩
def aA1:Con:=⟨58,(.bEL (.slice 5 (.int .u8)) aD),(.bEL tI (.bEL (.slice 5 (.int .u8)) aD)),[.box 97 ⟨true,(.bEL (.slice 5 (.int .u8)) aD),[]⟩],[⟨false,tI,[0]⟩],false,none,
 ((fun x=>0≤x.2.1):(aJ)→Prop),
 ((fun _=>bG (.bEL tI (.bEL (.slice 5 (.int .u8)) aD))):(aJ)→(Int × aJ))⟩
def zO:T :=
 .bEM (.arw .mul .i64) (.bEN tI tI (aN (.bEL (.slice 5 (.int .u8)) aD) 2 (.Z 0)) (.ci .i64 6364136223846793005)) <|
 .bEM (.arw .add .i64) (.bEN tI tI (.Z 1) (.ci .i64 1442695040888963407)) <|
 .bEM (.shr .i64 .u64) (.bEN tI (.int .u64) (.Z 2) (.ci .u64 33)) <|
 .bEM (.shr .i64 .u64) (.bEN tI (.int .u64) (.Z 2) (.ci .u64 45)) <|
 .bEM (.bits .xor .i64) (.bEN tI tI (.Z 3) (.Z 4)) <|
 .bEM (.bits .and .i64) (.bEN tI tI (.Z 5) (.ci .i64 255)) <|
 .bEM (.bEP 5 (.int .u8)) (.p1 (.slice 5 (.int .u8)) aD (.Z 0)) <|
 .bEM (.cmp .lss .i64) (.bEN tI tI (aI (.bEL (.slice 5 (.int .u8)) aD) 1 (.Z 0)) (.Z 7)) <|
 .ite (.Z 8) (
  .bEM (.bEQ 5 (.int .u8)) (.bEN (.slice 5 (.int .u8)) tI (.p1 (.slice 5 (.int .u8)) aD (.Z 0)) (aI (.bEL (.slice 5 (.int .u8)) aD) 1 (.Z 0))) <|
  .bEM (.conv .u8 .i64) (.Z 9) <|
  .bEM (.arw .add .i64) (.bEN tI tI (.Z 6) (.Z 10)) <|
  .bEM (.bits .and .i64) (.bEN tI tI (.Z 11) (.ci .i64 255)) <|
  .bEM (.arw .add .i64) (.bEN tI tI (aI (.bEL (.slice 5 (.int .u8)) aD) 1 (.Z 0)) (.ci .i64 1)) <|
  .ret (aY (.bEL tI (.bEL (.slice 5 (.int .u8)) aD)) [(.Z 12),(.p1 (.slice 5 (.int .u8)) aD (.Z 0)),(.Z 13),(.Z 2)])) (
  .ret (aY (.bEL tI (.bEL (.slice 5 (.int .u8)) aD)) [(.Z 6),(.p1 (.slice 5 (.int .u8)) aD (.Z 0)),(aI (.bEL (.slice 5 (.int .u8)) aD) 1 (.Z 0)),(.Z 2)]))
theorem aSA (f:(aJ)→(Int × aJ)):bJ Tryz.prog [] { aA1 with fn:=f } true 3000 ⟨[],[]⟩ = .ok zO:=by kernel_rfl
theorem aQZ (x:aJ) (hx:okD (.bEL (.slice 5 (.int .u8)) aD) x) (hp:(fun x=>0≤x.2.1) x):zO.wp [] [⟨(.bEL (.slice 5 (.int .u8)) aD),x⟩] [] (fun v=>(fun x r=>0≤r.1∧r.1≤255∧0≤r.2.2.1:(aJ)→(Int × aJ)→Prop) x (v.as (.bEL tI (.bEL (.slice 5 (.int .u8)) aD)))):=by
 obtain ⟨b,i,h⟩:=x
 change 0≤i at hp
 have hb:b.length≤9223372036854775807:=bD4 hx.1.1
 delta zO;refine eE ?_
 (refine fJ ?_;try with_reducible exact True.intro)
 (repeat' first|intro _|(with_reducible apply And.intro))
 all_goals first|omega|exact (aUG _).1|exact (aUG _).2|(rw[mI (by show (-9223372036854775808:Int)≤_∧_≤(9223372036854775807:Int);omega)];omega)
theorem zW:∃ f:(aJ)→(Int × aJ),(∀ x,okD (.bEL (.slice 5 (.int .u8)) aD) x→(fun x=>0≤x.2.1) x→(fun x r=>0≤r.1∧r.1≤255∧0≤r.2.2.1:(aJ)→(Int × aJ)→Prop) x (f x))∧Con.Holds Tryz.prog { aA1 with fn:=f }:=iR (C:=aA1) aR aO aSA (fun x r=>0≤r.1∧r.1≤255∧0≤r.2.2.1:(aJ)→(Int × aJ)→Prop) aQZ
def lL:(aJ)→(Int × aJ):=Classical.choose zW
def fS:Con:=⟨58,(.bEL (.slice 5 (.int .u8)) aD),(.bEL tI (.bEL (.slice 5 (.int .u8)) aD)),[.box 97 ⟨true,(.bEL (.slice 5 (.int .u8)) aD),[]⟩],[⟨false,tI,[0]⟩],false,none,
 ((fun x=>0≤x.2.1):(aJ)→Prop),
 ((lL):(aJ)→(Int × aJ))⟩
theorem aS6:∀ x,okD (.bEL (.slice 5 (.int .u8)) aD) x→(fun x=>0≤x.2.1) x→(fun x r=>0≤r.1∧r.1≤255∧0≤r.2.2.1:(aJ)→(Int × aJ)→Prop) x (lL x):=(Classical.choose_spec zW).1
theorem uC:Con.Holds Tryz.prog fS:=(Classical.choose_spec zW).2
theorem lW (x:aJ) (hx:okD (.bEL (.slice 5 (.int .u8)) aD) x) (hp:(fun x=>0≤x.2.1) x):okD (.bEL tI (.bEL (.slice 5 (.int .u8)) aD)) (lL x)∧(fun x r=>0≤r.1∧r.1≤255∧0≤r.2.2.1:(aJ)→(Int × aJ)→Prop) x (lL x):=⟨uC.ok x hp hx,aS6 x hx hp⟩
def wO:Con:=⟨30,(.bEL (.bEL (.slice 5 (.int .u8)) aD) tI),(.bEL tI (.bEL (.slice 5 (.int .u8)) aD)),[.box 97 ⟨true,(.bEL (.slice 5 (.int .u8)) aD),[]⟩,.val ⟨false,tI,[]⟩],[⟨false,tI,[0]⟩],false,none,
 ((fun x=>0≤x.1.2.1):(aJ × Int)→Prop),
 ((fun _=>bG (.bEL tI (.bEL (.slice 5 (.int .u8)) aD))):(aJ × Int)→(Int × aJ))⟩
def vT:T :=
 .bEM (.cmp .leq .i64) (.bEN tI tI (aN (.bEL (.bEL (.slice 5 (.int .u8)) aD) tI) 1 (.Z 0)) (.ci .i64 0)) <|
 .ite (.Z 1) (
  .ret (.bEN tI (.bEL (.slice 5 (.int .u8)) aD) (.ci .i64 0) (.p1 (.bEL (.slice 5 (.int .u8)) aD) tI (.Z 0)))) (
  .bEM (.cmp .leq .i64) (.bEN tI tI (aN (.bEL (.bEL (.slice 5 (.int .u8)) aD) tI) 1 (.Z 0)) (.ci .i64 256)) <|
  .ite (.Z 2) (
   .call 0 (.p1 (.bEL (.slice 5 (.int .u8)) aD) tI (.Z 0)) <|
   .bEM (.rem .i64) (.bEN tI tI (.p1 tI (.bEL (.slice 5 (.int .u8)) aD) (.Z 3)) (aN (.bEL (.bEL (.slice 5 (.int .u8)) aD) tI) 1 (.Z 0))) <|
   .ret (.bEN tI (.bEL (.slice 5 (.int .u8)) aD) (.Z 4) (aN (.bEL tI (.bEL (.slice 5 (.int .u8)) aD)) 1 (.Z 3)))) (
   .call 0 (.p1 (.bEL (.slice 5 (.int .u8)) aD) tI (.Z 0)) <|
   .call 0 (aN (.bEL tI (.bEL (.slice 5 (.int .u8)) aD)) 1 (.Z 3)) <|
   .call 0 (aN (.bEL tI (.bEL (.slice 5 (.int .u8)) aD)) 1 (.Z 4)) <|
   .call 0 (aN (.bEL tI (.bEL (.slice 5 (.int .u8)) aD)) 1 (.Z 5)) <|
   .bEM (.ar .mul .i64) (.bEN tI tI (.p1 tI (.bEL (.slice 5 (.int .u8)) aD) (.Z 3)) (.ci .i64 16777216)) <|
   .bEM (.ar .mul .i64) (.bEN tI tI (.p1 tI (.bEL (.slice 5 (.int .u8)) aD) (.Z 4)) (.ci .i64 65536)) <|
   .bEM (.ar .add .i64) (.bEN tI tI (.Z 7) (.Z 8)) <|
   .bEM (.ar .mul .i64) (.bEN tI tI (.p1 tI (.bEL (.slice 5 (.int .u8)) aD) (.Z 5)) (.ci .i64 256)) <|
   .bEM (.ar .add .i64) (.bEN tI tI (.Z 9) (.Z 10)) <|
   .bEM (.ar .add .i64) (.bEN tI tI (.Z 11) (.p1 tI (.bEL (.slice 5 (.int .u8)) aD) (.Z 6))) <|
   .bEM (.rem .i64) (.bEN tI tI (.Z 12) (aN (.bEL (.bEL (.slice 5 (.int .u8)) aD) tI) 1 (.Z 0))) <|
   .ret (.bEN tI (.bEL (.slice 5 (.int .u8)) aD) (.Z 13) (aN (.bEL tI (.bEL (.slice 5 (.int .u8)) aD)) 1 (.Z 6)))))
theorem aOD (f:(aJ × Int)→(Int × aJ)):bJ Tryz.prog [fS] { wO with fn:=f } false 3000 ⟨[],[]⟩ = .ok vT:=by kernel_rfl
theorem aON (x:aJ × Int) (hx:okD (.bEL (.bEL (.slice 5 (.int .u8)) aD) tI) x) (hp:(fun x=>0≤x.1.2.1) x):vT.wp [fS] [⟨(.bEL (.bEL (.slice 5 (.int .u8)) aD) tI),x⟩] [] (fun v=>(fun x r=>0≤r.1∧(0<x.2→r.1<x.2)∧(x.2≤0→r.1=0)∧0≤r.2.2.1:(aJ × Int)→(Int × aJ)→Prop) x (v.as (.bEL tI (.bEL (.slice 5 (.int .u8)) aD)))):=by
 obtain ⟨⟨b,i,h⟩,n⟩:=x
 change 0≤i at hp
 have q1:=lW (b,i,h) hx.1 hp
 have q2:=lW _ q1.1.2 q1.2.2.2
 have q3:=lW _ q2.1.2 q2.2.2.2
 have q4:=lW _ q3.1.2 q3.2.2.2
 replace q1:=q1.2
 replace q2:=q2.2
 replace q3:=q3.2
 replace q4:=q4.2
 dsimp only at q1 q2 q3 q4
 delta vT fS;refine eE ?_
 (refine fJ ?_;try with_reducible exact True.intro)
 (repeat' first|intro _|(with_reducible apply And.intro))
 all_goals first|omega|exact (tmB (by omega) (by omega)).1|exact (tmB (by omega) (by omega)).2|trivial
theorem vS:∃ f:(aJ × Int)→(Int × aJ),(∀ x,okD (.bEL (.bEL (.slice 5 (.int .u8)) aD) tI) x→(fun x=>0≤x.1.2.1) x→(fun x r=>0≤r.1∧(0<x.2→r.1<x.2)∧(x.2≤0→r.1=0)∧0≤r.2.2.1:(aJ × Int)→(Int × aJ)→Prop) x (f x))∧Con.Holds Tryz.prog { wO with fn:=f }:=iR (C:=wO) aR (aG uC aO) aOD (fun x r=>0≤r.1∧(0<x.2→r.1<x.2)∧(x.2≤0→r.1=0)∧0≤r.2.2.1:(aJ × Int)→(Int × aJ)→Prop) aON
def bK:(aJ × Int)→(Int × aJ):=Classical.choose vS
def aV:Con:=⟨30,(.bEL (.bEL (.slice 5 (.int .u8)) aD) tI),(.bEL tI (.bEL (.slice 5 (.int .u8)) aD)),[.box 97 ⟨true,(.bEL (.slice 5 (.int .u8)) aD),[]⟩,.val ⟨false,tI,[]⟩],[⟨false,tI,[0]⟩],false,none,
 ((fun x=>0≤x.1.2.1):(aJ × Int)→Prop),
 ((bK):(aJ × Int)→(Int × aJ))⟩
theorem aO1:∀ x,okD (.bEL (.bEL (.slice 5 (.int .u8)) aD) tI) x→(fun x=>0≤x.1.2.1) x→(fun x r=>0≤r.1∧(0<x.2→r.1<x.2)∧(x.2≤0→r.1=0)∧0≤r.2.2.1:(aJ × Int)→(Int × aJ)→Prop) x (bK x):=(Classical.choose_spec vS).1
theorem dM:Con.Holds Tryz.prog aV:=(Classical.choose_spec vS).2
theorem bN (x:aJ × Int) (hx:okD (.bEL (.bEL (.slice 5 (.int .u8)) aD) tI) x) (hp:(fun x=>0≤x.1.2.1) x):okD (.bEL tI (.bEL (.slice 5 (.int .u8)) aD)) (bK x)∧(fun x r=>0≤r.1∧(0<x.2→r.1<x.2)∧(x.2≤0→r.1=0)∧0≤r.2.2.1:(aJ × Int)→(Int × aJ)→Prop) x (bK x):=⟨dM.ok x hp hx,aO1 x hx hp⟩
def aA4:Con:=⟨23,(.bEL (.bEL (.slice 5 (.int .u8)) aD) tI),(.bEL .bool (.bEL (.slice 5 (.int .u8)) aD)),[.box 97 ⟨true,(.bEL (.slice 5 (.int .u8)) aD),[]⟩,.val ⟨false,tI,[]⟩],[⟨false,.bool,[0]⟩],false,none,
 ((fun x=>0≤x.1.2.1):(aJ × Int)→Prop),
 ((fun _=>bG (.bEL .bool (.bEL (.slice 5 (.int .u8)) aD))):(aJ × Int)→(Bool × aJ))⟩
def aA9:T:=.call 0 (.Z 0) <|
 .bEM (.cmp .eql .i64) (.bEN tI tI (.p1 tI (.bEL (.slice 5 (.int .u8)) aD) (.Z 1)) (.ci .i64 0)) <|
 .ret (.bEN .bool (.bEL (.slice 5 (.int .u8)) aD) (.Z 2) (aN (.bEL tI (.bEL (.slice 5 (.int .u8)) aD)) 1 (.Z 1)))
theorem aQW (f:(aJ × Int)→(Bool × aJ)):bJ Tryz.prog [aV] { aA4 with fn:=f } false 3000 ⟨[],[]⟩ = .ok aA9:=by kernel_rfl
theorem aQ2 (x:aJ × Int) (hx:okD (.bEL (.bEL (.slice 5 (.int .u8)) aD) tI) x) (hp:(fun x=>0≤x.1.2.1) x):aA9.wp [aV] [⟨(.bEL (.bEL (.slice 5 (.int .u8)) aD) tI),x⟩] [] (fun v=>(fun x r=>0≤r.2.2.1:(aJ × Int)→(Bool × aJ)→Prop) x (v.as (.bEL .bool (.bEL (.slice 5 (.int .u8)) aD)))):=by
 have q1:=(bN x hx hp).2
 delta aA9 aV;refine eE ?_
 exact ⟨hp,fun _=>q1.2.2.2⟩
theorem aAC:∃ f:(aJ × Int)→(Bool × aJ),(∀ x,okD (.bEL (.bEL (.slice 5 (.int .u8)) aD) tI) x→(fun x=>0≤x.1.2.1) x→(fun x r=>0≤r.2.2.1:(aJ × Int)→(Bool × aJ)→Prop) x (f x))∧Con.Holds Tryz.prog { aA4 with fn:=f }:=iR (C:=aA4) aR (aG dM aO) aQW (fun x r=>0≤r.2.2.1:(aJ × Int)→(Bool × aJ)→Prop) aQ2
def gQ:(aJ × Int)→(Bool × aJ):=Classical.choose aAC
def fU:Con:=⟨23,(.bEL (.bEL (.slice 5 (.int .u8)) aD) tI),(.bEL .bool (.bEL (.slice 5 (.int .u8)) aD)),[.box 97 ⟨true,(.bEL (.slice 5 (.int .u8)) aD),[]⟩,.val ⟨false,tI,[]⟩],[⟨false,.bool,[0]⟩],false,none,
 ((fun x=>0≤x.1.2.1):(aJ × Int)→Prop),
 ((gQ):(aJ × Int)→(Bool × aJ))⟩
theorem aRC:∀ x,okD (.bEL (.bEL (.slice 5 (.int .u8)) aD) tI) x→(fun x=>0≤x.1.2.1) x→(fun x r=>0≤r.2.2.1:(aJ × Int)→(Bool × aJ)→Prop) x (gQ x):=(Classical.choose_spec aAC).1
theorem uE:Con.Holds Tryz.prog fU:=(Classical.choose_spec aAC).2
theorem pH (x:aJ × Int) (hx:okD (.bEL (.bEL (.slice 5 (.int .u8)) aD) tI) x) (hp:(fun x=>0≤x.1.2.1) x):okD (.bEL .bool (.bEL (.slice 5 (.int .u8)) aD)) (gQ x)∧(fun x r=>0≤r.2.2.1:(aJ × Int)→(Bool × aJ)→Prop) x (gQ x):=⟨uE.ok x hp hx,aRC x hx hp⟩
def rI:Con:=⟨24,(.bEL (.bEL (.slice 5 (.int .u8)) aD) aA),(.bEL tI (.bEL (.slice 5 (.int .u8)) aD)),[.box 97 ⟨true,(.bEL (.slice 5 (.int .u8)) aD),[]⟩,.val ⟨false,aA,[]⟩],[⟨false,tI,[0]⟩],false,none,
 ((fun x=>0≤x.1.2.1∧x.2≠[]):(aJ × aW)→Prop),
 ((fun _=>bG (.bEL tI (.bEL (.slice 5 (.int .u8)) aD))):(aJ × aW)→(Int × aJ))⟩
def rN:T :=
 .bEM (.bEP 3 tI) (aN (.bEL (.bEL (.slice 5 (.int .u8)) aD) aA) 1 (.Z 0)) <|
 .call 0 (.bEN (.bEL (.slice 5 (.int .u8)) aD) tI (.p1 (.bEL (.slice 5 (.int .u8)) aD) aA (.Z 0)) (.Z 1)) <|
 .bEM (.bEQ 3 tI) (.bEN aA tI (aN (.bEL (.bEL (.slice 5 (.int .u8)) aD) aA) 1 (.Z 0)) (.p1 tI (.bEL (.slice 5 (.int .u8)) aD) (.Z 2))) <|
 .ret (.bEN tI (.bEL (.slice 5 (.int .u8)) aD) (.Z 3) (aN (.bEL tI (.bEL (.slice 5 (.int .u8)) aD)) 1 (.Z 2)))
theorem aIG (f:(aJ × aW)→(Int × aJ)):bJ Tryz.prog [aV] { rI with fn:=f } false 3000 ⟨[],[]⟩ = .ok rN:=by kernel_rfl
theorem aIL (x:aJ × aW) (hx:okD (.bEL (.bEL (.slice 5 (.int .u8)) aD) aA) x) (hp:(fun x=>0≤x.1.2.1∧x.2≠[]) x):rN.wp [aV] [⟨(.bEL (.bEL (.slice 5 (.int .u8)) aD) aA),x⟩] [] (fun v=>(fun x r=>r.1∈x.2∧0≤r.2.2.1:(aJ × aW)→(Int × aJ)→Prop) x (v.as (.bEL tI (.bEL (.slice 5 (.int .u8)) aD)))):=by
 obtain ⟨c,l⟩:=x
 obtain ⟨hp,hl⟩:0≤c.2.1∧l≠[]:=hp
 have hm:=bD4 (show List.length l≤maxLen from hx.2.1)
 have hl0:0<l.length:=List.length_pos_iff.2 hl
 have q1:=(bN (c,(l.length:Int)) ⟨hx.1,show (-9223372036854775808:Int)≤_∧_≤(9223372036854775807:Int) by omega⟩ hp).2
 dsimp only at q1
 delta rN aV;refine eE ?_
 have hlt:((bK (c,(l.length:Int))).1:Int).toNat<l.length:=by omega
 refine fun _=>⟨hp,fun _=>⟨⟨q1.1,by omega⟩,fun _=>⟨?_,q1.2.2.2⟩⟩⟩
 rw[bE hlt]
 exact List.getElem_mem hlt
theorem rF:∃ f:(aJ × aW)→(Int × aJ),(∀ x,okD (.bEL (.bEL (.slice 5 (.int .u8)) aD) aA) x→(fun x=>0≤x.1.2.1∧x.2≠[]) x→(fun x r=>r.1∈x.2∧0≤r.2.2.1:(aJ × aW)→(Int × aJ)→Prop) x (f x))∧Con.Holds Tryz.prog { rI with fn:=f }:=iR (C:=rI) aR (aG dM aO) aIG (fun x r=>r.1∈x.2∧0≤r.2.2.1:(aJ × aW)→(Int × aJ)→Prop) aIL
def fV:(aJ × aW)→(Int × aJ):=Classical.choose rF
def bZ:Con:=⟨24,(.bEL (.bEL (.slice 5 (.int .u8)) aD) aA),(.bEL tI (.bEL (.slice 5 (.int .u8)) aD)),[.box 97 ⟨true,(.bEL (.slice 5 (.int .u8)) aD),[]⟩,.val ⟨false,aA,[]⟩],[⟨false,tI,[0]⟩],false,none,
 ((fun x=>0≤x.1.2.1∧x.2≠[]):(aJ × aW)→Prop),
 ((fV):(aJ × aW)→(Int × aJ))⟩
theorem aIK:∀ x,okD (.bEL (.bEL (.slice 5 (.int .u8)) aD) aA) x→(fun x=>0≤x.1.2.1∧x.2≠[]) x→(fun x r=>r.1∈x.2∧0≤r.2.2.1:(aJ × aW)→(Int × aJ)→Prop) x (fV x):=(Classical.choose_spec rF).1
theorem hN:Con.Holds Tryz.prog bZ:=(Classical.choose_spec rF).2
theorem mL (x:aJ × aW) (hx:okD (.bEL (.bEL (.slice 5 (.int .u8)) aD) aA) x) (hp:(fun x=>0≤x.1.2.1∧x.2≠[]) x):okD (.bEL tI (.bEL (.slice 5 (.int .u8)) aD)) (fV x)∧(fun x r=>r.1∈x.2∧0≤r.2.2.1:(aJ × aW)→(Int × aJ)→Prop) x (fV x):=⟨hN.ok x hp hx,aIK x hx hp⟩
def aCB:Con:=⟨90,(.bEL (.slice 5 (.int .u8)) aD),(.bEL tI (.bEL (.slice 5 (.int .u8)) aD)),[.box 97 ⟨true,(.bEL (.slice 5 (.int .u8)) aD),[]⟩],[⟨false,tI,[0]⟩],false,none,
 ((fun x=>0≤x.2.1):(aJ)→Prop),
 ((fun _=>bG (.bEL tI (.bEL (.slice 5 (.int .u8)) aD))):(aJ)→(Int × aJ))⟩
def aCX:T:=.call 0 (.bEN (.bEL (.slice 5 (.int .u8)) aD) tI (.Z 0) (.ci .i64 12)) <|
 .bEM (.cmp .eql .i64) (.bEN tI tI (.p1 tI (.bEL (.slice 5 (.int .u8)) aD) (.Z 1)) (.ci .i64 0)) <|
 .ite (.Z 2) (
  .bEM (.lit 3 tI 6) (aY (.bEL tI (.bEL tI (.bEL tI (.bEL tI aD)))) [(.ci .i64 2147483647),(.ci .i64 (-2147483647)),(.ci .i64 2147483646),(.ci .i64 1),(.ci .i64 (-1)),(.ci .i64 0)]) <|
  .call 1 (.bEN (.bEL (.slice 5 (.int .u8)) aD) aA (aN (.bEL tI (.bEL (.slice 5 (.int .u8)) aD)) 1 (.Z 1)) (.Z 3)) <|
  .ret (.Z 4)) (
  .bEM (.cmp .eql .i64) (.bEN tI tI (.p1 tI (.bEL (.slice 5 (.int .u8)) aD) (.Z 1)) (.ci .i64 1)) <|
  .ite (.Z 3) (
   .call 0 (.bEN (.bEL (.slice 5 (.int .u8)) aD) tI (aN (.bEL tI (.bEL (.slice 5 (.int .u8)) aD)) 1 (.Z 1)) (.ci .i64 4000)) <|
   .bEM (.ar .sub .i64) (.bEN tI tI (.p1 tI (.bEL (.slice 5 (.int .u8)) aD) (.Z 4)) (.ci .i64 2000)) <|
   .bEM (.ar .mul .i64) (.bEN tI tI (.Z 5) (.ci .i64 997)) <|
   .ret (.bEN tI (.bEL (.slice 5 (.int .u8)) aD) (.Z 6) (aN (.bEL tI (.bEL (.slice 5 (.int .u8)) aD)) 1 (.Z 4)))) (
   .bEM (.cmp .eql .i64) (.bEN tI tI (.p1 tI (.bEL (.slice 5 (.int .u8)) aD) (.Z 1)) (.ci .i64 2)) <|
   .ite (.Z 4) (
    .call 0 (.bEN (.bEL (.slice 5 (.int .u8)) aD) tI (aN (.bEL tI (.bEL (.slice 5 (.int .u8)) aD)) 1 (.Z 1)) (.ci .i64 9)) <|
    .bEM (.ar .sub .i64) (.bEN tI tI (.p1 tI (.bEL (.slice 5 (.int .u8)) aD) (.Z 5)) (.ci .i64 4)) <|
    .ret (.bEN tI (.bEL (.slice 5 (.int .u8)) aD) (.Z 6) (aN (.bEL tI (.bEL (.slice 5 (.int .u8)) aD)) 1 (.Z 5)))) (
    .call 0 (.bEN (.bEL (.slice 5 (.int .u8)) aD) tI (aN (.bEL tI (.bEL (.slice 5 (.int .u8)) aD)) 1 (.Z 1)) (.ci .i64 17)) <|
    .bEM (.ar .sub .i64) (.bEN tI tI (.p1 tI (.bEL (.slice 5 (.int .u8)) aD) (.Z 5)) (.ci .i64 8)) <|
    .bEM (.ar .mul .i64) (.bEN tI tI (.Z 6) (.ci .i64 65536)) <|
    .bEM (.lit 3 tI 5) (aY (.bEL tI (.bEL tI (.bEL tI aD))) [(.ci .i64 1),(.ci .i64 1),(.ci .i64 2),(.ci .i64 4),(.ci .i64 3)]) <|
    .call 1 (.bEN (.bEL (.slice 5 (.int .u8)) aD) aA (aN (.bEL tI (.bEL (.slice 5 (.int .u8)) aD)) 1 (.Z 5)) (.Z 8)) <|
    .bEM (.quo .i64) (.bEN tI tI (.Z 7) (.p1 tI (.bEL (.slice 5 (.int .u8)) aD) (.Z 9))) <|
    .ret (.bEN tI (.bEL (.slice 5 (.int .u8)) aD) (.Z 10) (aN (.bEL tI (.bEL (.slice 5 (.int .u8)) aD)) 1 (.Z 9))))))
theorem aWX (f:(aJ)→(Int × aJ)):bJ Tryz.prog [aV,bZ] { aCB with fn:=f } false 3000 ⟨[],[(2989,3003,[8],[]),(2981,8005,[26],[])]⟩ = .ok aCX:=by kernel_rfl
theorem aUP (x:aJ) (hx:okD (.bEL (.slice 5 (.int .u8)) aD) x) (hp:(fun x=>0≤x.2.1) x):aCX.wp [aV,bZ] [⟨(.bEL (.slice 5 (.int .u8)) aD),x⟩] [] (fun v=>(fun x r=>fZ r.1=true∧0≤r.2.2.1:(aJ)→(Int × aJ)→Prop) x (v.as (.bEL tI (.bEL (.slice 5 (.int .u8)) aD)))):=by
 have q1:=bN (x,12) ⟨hx,okI (by omega) (by omega)⟩ hp
 delta aCX aV bZ;refine eE ?_
 refine fJ ?_
 refine ⟨hp,fun _=>?_⟩
 generalize bK (x,12)=r at q1 ⊢;obtain ⟨n1,c1⟩:=r;obtain ⟨kq1,uq1⟩:=q1;replace kq1:okD iF c1:=kq1.2;dsimp only at uq1 ⊢
 refine ⟨fun _ _=>⟨⟨uq1.2.2.2,fun h=>by cases h⟩,fun _=>?_⟩,fun _=>⟨fun _=>⟨uq1.2.2.2,fun _=>?_⟩,fun _=>⟨fun _=>⟨uq1.2.2.2,fun _=>?_⟩,fun _=>⟨uq1.2.2.2,fun _=>?_⟩⟩⟩⟩
 ·have b0:=(mL (c1,[2147483647,-2147483647,2147483646,1,-1,0]) ⟨kq1,okL (e:=3) (by show 6≤1000;omega) (by intro y hy;simp at hy;omega)⟩ ⟨uq1.2.2.2,by simp⟩).2
  generalize fV (c1,[2147483647,-2147483647,2147483646,1,-1,0])=r at b0 ⊢
  have:=b0.1
  simp only[List.mem_cons,List.mem_nil_iff,or_false] at this
  exact ⟨(vU _).2 ⟨by omega,by omega⟩,b0.2⟩
 ·have a1:=(bN (c1,4000) ⟨kq1,okI (by omega) (by omega)⟩ uq1.2.2.2).2
  generalize bK (c1,4000)=r at a1 ⊢
  dsimp only at a1
  (repeat' first|intro _|(with_reducible apply And.intro))
  all_goals first|omega|exact (vU _).2 ⟨by omega,by omega⟩
 ·have a1:=(bN (c1,9) ⟨kq1,okI (by omega) (by omega)⟩ uq1.2.2.2).2
  generalize bK (c1,9)=r at a1 ⊢
  dsimp only at a1
  (repeat' first|intro _|(with_reducible apply And.intro))
  all_goals first|omega|exact (vU _).2 ⟨by omega,by omega⟩
 ·have q2:=bN (c1,17) ⟨kq1,okI (by omega) (by omega)⟩ uq1.2.2.2
  generalize bK (c1,17)=r at q2 ⊢;obtain ⟨n2,c2⟩:=r;obtain ⟨kq2,uq2⟩:=q2;replace kq2:okD iF c2:=kq2.2;dsimp only at uq2 ⊢
  refine ⟨by omega,fun _=>⟨by omega,fun _ _=>⟨⟨uq2.2.2.2,fun h=>by cases h⟩,fun _=>?_⟩⟩⟩
  have b0:=(mL (c2,[1,1,2,4,3]) ⟨kq2,okL (e:=3) (by show 5≤1000;omega) (by intro y hy;simp at hy;omega)⟩ ⟨uq2.2.2.2,by simp⟩).2
  generalize fV (c2,[1,1,2,4,3])=r at b0 ⊢
  have:=b0.1
  simp only[List.mem_cons,List.mem_nil_iff,or_false] at this
  have t1:=tdB (a:=(n2 - 8) * 65536) (p:=r.1) (by omega) (by omega)
  (repeat' first|intro _|(with_reducible apply And.intro))
  all_goals first|omega|exact (vU _).2 ⟨by omega,by omega⟩|exact b0.2
theorem aC4:∃ f:(aJ)→(Int × aJ),(∀ x,okD (.bEL (.slice 5 (.int .u8)) aD) x→(fun x=>0≤x.2.1) x→(fun x r=>fZ r.1=true∧0≤r.2.2.1:(aJ)→(Int × aJ)→Prop) x (f x))∧Con.Holds Tryz.prog { aCB with fn:=f }:=iR (C:=aCB) aR (aG dM (aG hN aO)) aWX (fun x r=>fZ r.1=true∧0≤r.2.2.1:(aJ)→(Int × aJ)→Prop) aUP
def xV:(aJ)→(Int × aJ):=Classical.choose aC4
def mC:Con:=⟨90,(.bEL (.slice 5 (.int .u8)) aD),(.bEL tI (.bEL (.slice 5 (.int .u8)) aD)),[.box 97 ⟨true,(.bEL (.slice 5 (.int .u8)) aD),[]⟩],[⟨false,tI,[0]⟩],false,none,
 ((fun x=>0≤x.2.1):(aJ)→Prop),
 ((xV):(aJ)→(Int × aJ))⟩
theorem aW4:∀ x,okD (.bEL (.slice 5 (.int .u8)) aD) x→(fun x=>0≤x.2.1) x→(fun x r=>fZ r.1=true∧0≤r.2.2.1:(aJ)→(Int × aJ)→Prop) x (xV x):=(Classical.choose_spec aC4).1
theorem aC5:Con.Holds Tryz.prog mC:=(Classical.choose_spec aC4).2
theorem aJP (x:aJ) (hx:okD (.bEL (.slice 5 (.int .u8)) aD) x) (hp:(fun x=>0≤x.2.1) x):okD (.bEL tI (.bEL (.slice 5 (.int .u8)) aD)) (xV x)∧(fun x r=>fZ r.1=true∧0≤r.2.2.1:(aJ)→(Int × aJ)→Prop) x (xV x):=⟨aC5.ok x hp hx,aW4 x hx hp⟩
def aD7:Con:=⟨52,(.bEL (.bEL (.slice 5 (.int .u8)) aD) tI),(.bEL aA (.bEL (.slice 5 (.int .u8)) aD)),[.box 97 ⟨true,(.bEL (.slice 5 (.int .u8)) aD),[]⟩,.val ⟨false,tI,[]⟩],[⟨false,aA,[2]⟩],false,none,
 ((fun x=>0≤x.1.2.1∧x.2≤1000):(aJ × Int)→Prop),
 ((fun _=>bG (.bEL aA (.bEL (.slice 5 (.int .u8)) aD))):(aJ × Int)→(aW × aJ))⟩
def aDG:T:=.loop (.bEL tI (.bEL (.slice 5 (.int .u8)) (.bEL tI aK))) (aY (.bEL tI (.bEL (.slice 5 (.int .u8)) (.bEL tI aK))) [(.ci .i64 0),(.p1 (.slice 5 (.int .u8)) aD (.p1 (.bEL (.slice 5 (.int .u8)) aD) tI (.Z 0))),(aI (.bEL (.slice 5 (.int .u8)) aD) 1 (.p1 (.bEL (.slice 5 (.int .u8)) aD) tI (.Z 0))),(aN (.bEL (.slice 5 (.int .u8)) aD) 2 (.p1 (.bEL (.slice 5 (.int .u8)) aD) tI (.Z 0))),(.nl 3 tI)]) <|
 .bEM (.cmp .lss .i64) (.bEN tI tI (.p1 tI (.bEL (.slice 5 (.int .u8)) (.bEL tI aK)) (.Z 1)) (aN (.bEL (.bEL (.slice 5 (.int .u8)) aD) tI) 1 (.Z 0))) <|
 .ite (.Z 2) (
  .call 0 (aY (.bEL (.slice 5 (.int .u8)) aD) [(aI (.bEL tI (.bEL (.slice 5 (.int .u8)) (.bEL tI aK))) 1 (.Z 1)),(aI (.bEL tI (.bEL (.slice 5 (.int .u8)) (.bEL tI aK))) 2 (.Z 1)),(aI (.bEL tI (.bEL (.slice 5 (.int .u8)) (.bEL tI aK))) 3 (.Z 1))]) <|
  .bEM (.lit 3 tI 1) (.p1 tI (.bEL (.slice 5 (.int .u8)) aD) (.Z 3)) <|
  .bEM (.bES 3 tI 8) (.bEN aA aA (aN (.bEL tI (.bEL (.slice 5 (.int .u8)) (.bEL tI aK))) 4 (.Z 1)) (.Z 4)) <|
  .bEM (.ar .add .i64) (.bEN tI tI (.p1 tI (.bEL (.slice 5 (.int .u8)) (.bEL tI aK)) (.Z 1)) (.ci .i64 1)) <|
  .bEO 0 (aY (.bEL tI (.bEL (.slice 5 (.int .u8)) (.bEL tI aK))) [(.Z 6),(aI (.bEL tI (.bEL (.slice 5 (.int .u8)) aD)) 1 (.Z 3)),(aI (.bEL tI (.bEL (.slice 5 (.int .u8)) aD)) 2 (.Z 3)),(aN (.bEL tI (.bEL (.slice 5 (.int .u8)) aD)) 3 (.Z 3)),(.Z 5)])) (
  .ret (aY (.bEL aA (.bEL (.slice 5 (.int .u8)) aD)) [(aN (.bEL tI (.bEL (.slice 5 (.int .u8)) (.bEL tI aK))) 4 (.Z 1)),(aI (.bEL tI (.bEL (.slice 5 (.int .u8)) (.bEL tI aK))) 1 (.Z 1)),(aI (.bEL tI (.bEL (.slice 5 (.int .u8)) (.bEL tI aK))) 2 (.Z 1)),(aI (.bEL tI (.bEL (.slice 5 (.int .u8)) (.bEL tI aK))) 3 (.Z 1))]))
theorem aV0 (f:(aJ × Int)→(aW × aJ)):bJ Tryz.prog [mC] { aD7 with fn:=f } false 3000 ⟨[(2991,1001,[.dr 7,.tm 6 0,.on 5,.bx 1 0,.bx 1 1,.bx 1 2,.sl 2])],[]⟩ = .ok aDG:=by kernel_rfl
theorem aUR (x:aJ × Int) (hx:okD (.bEL (.bEL (.slice 5 (.int .u8)) aD) tI) x) (hp:(fun x=>0≤x.1.2.1∧x.2≤1000) x):aDG.wp [mC] [⟨(.bEL (.bEL (.slice 5 (.int .u8)) aD) tI),x⟩] [] (fun v=>(fun x r=>r.1.length=x.2.toNat∧(∀ v∈r.1,fZ v=true)∧0≤r.2.2.1:(aJ × Int)→(aW × aJ)→Prop) x (v.as (.bEL aA (.bEL (.slice 5 (.int .u8)) aD)))):=by
 obtain ⟨c,n⟩:=x
 obtain ⟨hp,hn⟩:0≤c.2.1∧n≤1000:=hp
 delta aDG mC;refine eE ?_
 refine ⟨fun s=>∃ k:Nat,k≤n.toNat∧s.1=(k:Int)∧List.length s.2.2.2.2=k∧(∀ v∈s.2.2.2.2,fZ v=true)∧@LE.le Int _ 0 s.2.2.1,fun s=>(n - s.1:Int).toNat,⟨0,Nat.zero_le _,rfl,rfl,fun v h=>by simp at h,hp⟩,fun s hs hI=>?_⟩
 obtain ⟨j,b,i,h,l⟩:=s
 obtain ⟨k,hk,e1,e2,e3,e4⟩:=hI
 change Int at j
 change j=(k:Int) at e1
 subst e1
 change List Int at l
 change l.length=k at e2
 change ∀ v∈l,fZ v=true at e3
 change 0≤(i:Int) at e4
 have q:=(aJP (b,i,h) ⟨hs.2.1,hs.2.2.1,hs.2.2.2.1⟩ e4).2
 try dsimp only
 refine fJ ?_
 refine ⟨fun hlt=>⟨e4,fun _ _=>⟨⟨by omega,by unfold maxLen;omega⟩,fun _=>⟨by omega,fun _=>⟨⟨k+1,by omega,pk1,by rw[e2],fun v hv=>?_,q.2⟩,by omega⟩⟩⟩⟩,fun hge=>⟨by omega,e3,e4⟩⟩
 rcases List.mem_append.1 hv with hv|hv
 ·exact e3 v hv
 ·rw[List.mem_singleton] at hv
  rw[hv];exact q.1
theorem aDL:∃ f:(aJ × Int)→(aW × aJ),(∀ x,okD (.bEL (.bEL (.slice 5 (.int .u8)) aD) tI) x→(fun x=>0≤x.1.2.1∧x.2≤1000) x→(fun x r=>r.1.length=x.2.toNat∧(∀ v∈r.1,fZ v=true)∧0≤r.2.2.1:(aJ × Int)→(aW × aJ)→Prop) x (f x))∧Con.Holds Tryz.prog { aD7 with fn:=f }:=iR (C:=aD7) aR (aG aC5 aO) aV0 (fun x r=>r.1.length=x.2.toNat∧(∀ v∈r.1,fZ v=true)∧0≤r.2.2.1:(aJ × Int)→(aW × aJ)→Prop) aUR
def kB:(aJ × Int)→(aW × aJ):=Classical.choose aDL
def hM:Con:=⟨52,(.bEL (.bEL (.slice 5 (.int .u8)) aD) tI),(.bEL aA (.bEL (.slice 5 (.int .u8)) aD)),[.box 97 ⟨true,(.bEL (.slice 5 (.int .u8)) aD),[]⟩,.val ⟨false,tI,[]⟩],[⟨false,aA,[2]⟩],false,none,
 ((fun x=>0≤x.1.2.1∧x.2≤1000):(aJ × Int)→Prop),
 ((kB):(aJ × Int)→(aW × aJ))⟩
theorem aXD:∀ x,okD (.bEL (.bEL (.slice 5 (.int .u8)) aD) tI) x→(fun x=>0≤x.1.2.1∧x.2≤1000) x→(fun x r=>r.1.length=x.2.toNat∧(∀ v∈r.1,fZ v=true)∧0≤r.2.2.1:(aJ × Int)→(aW × aJ)→Prop) x (kB x):=(Classical.choose_spec aDL).1
theorem xU:Con.Holds Tryz.prog hM:=(Classical.choose_spec aDL).2
theorem lO (x:aJ × Int) (hx:okD (.bEL (.bEL (.slice 5 (.int .u8)) aD) tI) x) (hp:(fun x=>0≤x.1.2.1∧x.2≤1000) x):okD (.bEL aA (.bEL (.slice 5 (.int .u8)) aD)) (kB x)∧(fun x r=>r.1.length=x.2.toNat∧(∀ v∈r.1,fZ v=true)∧0≤r.2.2.1:(aJ × Int)→(aW × aJ)→Prop) x (kB x):=⟨xU.ok x hp hx,aXD x hx hp⟩
def aCV:Con:=⟨53,(.bEL (.slice 5 (.int .u8)) aD),(.bEL tI (.bEL (.slice 5 (.int .u8)) aD)),[.box 97 ⟨true,(.bEL (.slice 5 (.int .u8)) aD),[]⟩],[⟨false,tI,[0]⟩],false,none,
 ((fun x=>0≤x.2.1):(aJ)→Prop),
 ((fun _=>bG (.bEL tI (.bEL (.slice 5 (.int .u8)) aD))):(aJ)→(Int × aJ))⟩
def aC3:T:=.call 0 (.bEN (.bEL (.slice 5 (.int .u8)) aD) tI (.Z 0) (.ci .i64 8)) <|.ite (.p1 .bool (.bEL (.slice 5 (.int .u8)) aD) (.Z 1)) (
 .bEM (.lit 3 tI 4) (aY (.bEL tI (.bEL tI aD)) [(.ci .i64 2147483648),(.ci .i64 (-2147483648)),(.ci .i64 9223372036854775807),(.ci .i64 (-9223372036854775807))]) <|
 .call 1 (.bEN (.bEL (.slice 5 (.int .u8)) aD) aA (aN (.bEL .bool (.bEL (.slice 5 (.int .u8)) aD)) 1 (.Z 1)) (.Z 2)) <|
 .ret (.Z 3)) (
 .call 2 (aN (.bEL .bool (.bEL (.slice 5 (.int .u8)) aD)) 1 (.Z 1)) <|
 .ret (.Z 2))
theorem aV7 (f:(aJ)→(Int × aJ)):bJ Tryz.prog [fU,bZ,mC] { aCV with fn:=f } false 3000 ⟨[],[(2992,3002,[6],[])]⟩ = .ok aC3:=by kernel_rfl
theorem aWH (x:aJ) (hx:okD (.bEL (.slice 5 (.int .u8)) aD) x) (hp:(fun x=>0≤x.2.1) x):aC3.wp [fU,bZ,mC] [⟨(.bEL (.slice 5 (.int .u8)) aD),x⟩] [] (fun v=>(fun x r=>0≤r.2.2.1:(aJ)→(Int × aJ)→Prop) x (v.as (.bEL tI (.bEL (.slice 5 (.int .u8)) aD)))):=by
 have q1:=pH (x,8) ⟨hx,okI (by omega) (by omega)⟩ hp
 delta aC3 fU bZ mC;refine eE ?_
 refine fJ ?_
 refine ⟨hp,fun _=>?_⟩
 generalize gQ (x,8)=r at q1 ⊢;obtain ⟨n1,c1⟩:=r;obtain ⟨k1,u1⟩:=q1;replace k1:okD iF c1:=k1.2;dsimp only at u1 ⊢
 refine ⟨fun _ _=>⟨⟨u1,fun h=>by cases h⟩,fun _=>?_⟩,fun _=>⟨u1,fun _=>?_⟩⟩
 ·exact (mL (c1,[2147483648,-2147483648,9223372036854775807,-9223372036854775807]) ⟨k1,okL (e:=3) (by show 4≤1000;omega) (by intro y hy;simp at hy;omega)⟩ ⟨u1,by simp⟩).2.2
 ·exact (aJP c1 k1 u1).2.2
theorem aDB:∃ f:(aJ)→(Int × aJ),(∀ x,okD (.bEL (.slice 5 (.int .u8)) aD) x→(fun x=>0≤x.2.1) x→(fun x r=>0≤r.2.2.1:(aJ)→(Int × aJ)→Prop) x (f x))∧Con.Holds Tryz.prog { aCV with fn:=f }:=iR (C:=aCV) aR (aG uE (aG hN (aG aC5 aO))) aV7 (fun x r=>0≤r.2.2.1:(aJ)→(Int × aJ)→Prop) aWH
def xF:(aJ)→(Int × aJ):=Classical.choose aDB
def xH:Con:=⟨53,(.bEL (.slice 5 (.int .u8)) aD),(.bEL tI (.bEL (.slice 5 (.int .u8)) aD)),[.box 97 ⟨true,(.bEL (.slice 5 (.int .u8)) aD),[]⟩],[⟨false,tI,[0]⟩],false,none,
 ((fun x=>0≤x.2.1):(aJ)→Prop),
 ((xF):(aJ)→(Int × aJ))⟩
theorem aWN:∀ x,okD (.bEL (.slice 5 (.int .u8)) aD) x→(fun x=>0≤x.2.1) x→(fun x r=>0≤r.2.2.1:(aJ)→(Int × aJ)→Prop) x (xF x):=(Classical.choose_spec aDB).1
theorem aJ0:Con.Holds Tryz.prog xH:=(Classical.choose_spec aDB).2
theorem aX3 (x:aJ) (hx:okD (.bEL (.slice 5 (.int .u8)) aD) x) (hp:(fun x=>0≤x.2.1) x):okD (.bEL tI (.bEL (.slice 5 (.int .u8)) aD)) (xF x)∧(fun x r=>0≤r.2.2.1:(aJ)→(Int × aJ)→Prop) x (xF x):=⟨aJ0.ok x hp hx,aWN x hx hp⟩
def aD3:Con:=⟨22,(.bEL (.slice 5 (.int .u8)) aD),(.bEL aA (.bEL (.slice 5 (.int .u8)) aD)),[.box 97 ⟨true,(.bEL (.slice 5 (.int .u8)) aD),[]⟩],[⟨false,aA,[2]⟩],false,none,
 ((fun x=>0≤x.2.1):(aJ)→Prop),
 ((fun _=>bG (.bEL aA (.bEL (.slice 5 (.int .u8)) aD))):(aJ)→(aW × aJ))⟩
def aD9:T:=.call 0 (.bEN (.bEL (.slice 5 (.int .u8)) aD) tI (.Z 0) (.ci .i64 4)) <|
 .bEM (.ar .add .i64) (.bEN tI tI (.ci .i64 1) (.p1 tI (.bEL (.slice 5 (.int .u8)) aD) (.Z 1))) <|
 .call 1 (.bEN (.bEL (.slice 5 (.int .u8)) aD) tI (aN (.bEL tI (.bEL (.slice 5 (.int .u8)) aD)) 1 (.Z 1)) (.Z 2)) <|
 .call 0 (.bEN (.bEL (.slice 5 (.int .u8)) aD) tI (aN (.bEL aA (.bEL (.slice 5 (.int .u8)) aD)) 1 (.Z 3)) (.ci .i64 16)) <|
 .bEM (.cmp .eql .i64) (.bEN tI tI (.p1 tI (.bEL (.slice 5 (.int .u8)) aD) (.Z 4)) (.ci .i64 0)) <|
 .ite (.Z 5) (
  .call 2 (aN (.bEL tI (.bEL (.slice 5 (.int .u8)) aD)) 1 (.Z 4)) <|
  .bEM (.bEQ 3 tI) (.bEN aA tI (.p1 aA (.bEL (.slice 5 (.int .u8)) aD) (.Z 3)) (.ci .i64 0)) <|
  .bEM (.bET 3 tI) (aY (.bEL aA aD) [(.p1 aA (.bEL (.slice 5 (.int .u8)) aD) (.Z 3)),(.ci .i64 0),(.p1 tI (.bEL (.slice 5 (.int .u8)) aD) (.Z 6))]) <|
  .ret (.bEN aA (.bEL (.slice 5 (.int .u8)) aD) (.Z 8) (aN (.bEL tI (.bEL (.slice 5 (.int .u8)) aD)) 1 (.Z 6)))) (
  .bEM (.cmp .eql .i64) (.bEN tI tI (.p1 tI (.bEL (.slice 5 (.int .u8)) aD) (.Z 4)) (.ci .i64 1)) <|
  .ite (.Z 6) (
   .bEM (.lit 3 tI 3) (aY (.bEL tI aD) [(.ci .i64 0),(.ci .i64 6),(.ci .i64 7)]) <|
   .call 3 (.bEN (.bEL (.slice 5 (.int .u8)) aD) aA (aN (.bEL tI (.bEL (.slice 5 (.int .u8)) aD)) 1 (.Z 4)) (.Z 7)) <|
   .call 1 (.bEN (.bEL (.slice 5 (.int .u8)) aD) tI (aN (.bEL tI (.bEL (.slice 5 (.int .u8)) aD)) 1 (.Z 8)) (.p1 tI (.bEL (.slice 5 (.int .u8)) aD) (.Z 8))) <|
   .ret (.Z 9)) (
   .ret (.bEN aA (.bEL (.slice 5 (.int .u8)) aD) (.p1 aA (.bEL (.slice 5 (.int .u8)) aD) (.Z 3)) (aN (.bEL tI (.bEL (.slice 5 (.int .u8)) aD)) 1 (.Z 4)))))
theorem aXA (f:(aJ)→(aW × aJ)):bJ Tryz.prog [aV,hM,xH,bZ] { aD3 with fn:=f } false 3000 ⟨[],[(2984,6007,[21],[])]⟩ = .ok aD9:=by kernel_rfl
theorem aWF (x:aJ) (hx:okD (.bEL (.slice 5 (.int .u8)) aD) x) (hp:(fun x=>0≤x.2.1) x):aD9.wp [aV,hM,xH,bZ] [⟨(.bEL (.slice 5 (.int .u8)) aD),x⟩] [] (fun v=>(fun x r=>r.1.length≤7∧0≤r.2.2.1:(aJ)→(aW × aJ)→Prop) x (v.as (.bEL aA (.bEL (.slice 5 (.int .u8)) aD)))):=by
 have q1:=bN (x,4) ⟨hx,okI (by omega) (by omega)⟩ hp
 delta aD9 aV hM xH bZ;refine eE ?_
 refine fJ ?_
 refine ⟨hp,fun _=>?_⟩
 generalize bK (x,4)=r at q1 ⊢;obtain ⟨n1,c1⟩:=r;obtain ⟨kq1,uq1⟩:=q1;replace kq1:okD iF c1:=kq1.2;dsimp only at uq1 ⊢
 refine ⟨by omega,fun _=>⟨⟨uq1.2.2.2,by omega⟩,fun _=>?_⟩⟩
 have q2:=lO (c1,1+n1) ⟨kq1,okI (by omega) (by omega)⟩ ⟨uq1.2.2.2,by show 1+n1≤1000;omega⟩
 generalize kB (c1,1+n1)=r at q2 ⊢;obtain ⟨l2,c2⟩:=r;obtain ⟨kq2,uq2⟩:=q2;replace kq2:okD iF c2:=kq2.2;dsimp only at uq2 ⊢
 refine ⟨uq2.2.2,fun _=>?_⟩
 have q3:=bN (c2,16) ⟨kq2,okI (by omega) (by omega)⟩ uq2.2.2
 generalize bK (c2,16)=r at q3 ⊢;obtain ⟨n3,c3⟩:=r;obtain ⟨kq3,uq3⟩:=q3;replace kq3:okD iF c3:=kq3.2;dsimp only at uq3 ⊢
 have hl2:List.length l2≤4:=by have:=uq2.1;omega
 refine ⟨fun _=>⟨uq3.2.2.2,fun _=>?_⟩,fun _=>⟨fun _ _=>⟨⟨uq3.2.2.2,fun h=>by cases h⟩,fun _=>?_⟩,fun _=>⟨by omega,uq3.2.2.2⟩⟩⟩
 ·have q4:=(aX3 c3 kq3 uq3.2.2.2).2
  (repeat' first|intro _|(with_reducible apply And.intro))
  all_goals first|omega|exact q4|(rw[List.length_set];omega)
 ·have q5:=mL (c3,[0,6,7]) ⟨kq3,okL (e:=3) (by show 3≤1000;omega) (by intro y hy;simp at hy;omega)⟩ ⟨uq3.2.2.2,by simp⟩
  generalize fV (c3,[0,6,7])=r at q5 ⊢;obtain ⟨n5,c5⟩:=r;obtain ⟨k5,u5⟩:=q5;dsimp only at u5 ⊢
  have m5:=u5.1
  simp only[List.mem_cons,List.mem_nil_iff,or_false] at m5
  refine ⟨⟨u5.2,by omega⟩,fun _=>?_⟩
  have q6:=(lO (c5,n5) ⟨k5.2,k5.1⟩ ⟨u5.2,by show n5≤1000;omega⟩).2
  dsimp only at q6
  exact ⟨by rw[q6.1];omega,q6.2.2⟩
theorem aCT:∃ f:(aJ)→(aW × aJ),(∀ x,okD (.bEL (.slice 5 (.int .u8)) aD) x→(fun x=>0≤x.2.1) x→(fun x r=>r.1.length≤7∧0≤r.2.2.1:(aJ)→(aW × aJ)→Prop) x (f x))∧Con.Holds Tryz.prog { aD3 with fn:=f }:=iR (C:=aD3) aR (aG dM (aG xU (aG aJ0 (aG hN aO)))) aXA (fun x r=>r.1.length≤7∧0≤r.2.2.1:(aJ)→(aW × aJ)→Prop) aWF
def oG:(aJ)→(aW × aJ):=Classical.choose aCT
def hK:Con:=⟨22,(.bEL (.slice 5 (.int .u8)) aD),(.bEL aA (.bEL (.slice 5 (.int .u8)) aD)),[.box 97 ⟨true,(.bEL (.slice 5 (.int .u8)) aD),[]⟩],[⟨false,aA,[2]⟩],false,none,
 ((fun x=>0≤x.2.1):(aJ)→Prop),
 ((oG):(aJ)→(aW × aJ))⟩
theorem aVC:∀ x,okD (.bEL (.slice 5 (.int .u8)) aD) x→(fun x=>0≤x.2.1) x→(fun x r=>r.1.length≤7∧0≤r.2.2.1:(aJ)→(aW × aJ)→Prop) x (oG x):=(Classical.choose_spec aCT).1
theorem yD:Con.Holds Tryz.prog hK:=(Classical.choose_spec aCT).2
theorem aJR (x:aJ) (hx:okD (.bEL (.slice 5 (.int .u8)) aD) x) (hp:(fun x=>0≤x.2.1) x):okD (.bEL aA (.bEL (.slice 5 (.int .u8)) aD)) (oG x)∧(fun x r=>r.1.length≤7∧0≤r.2.2.1:(aJ)→(aW × aJ)→Prop) x (oG x):=⟨yD.ok x hp hx,aVC x hx hp⟩
def aFU:Con:=⟨123,(.bEL (.bEL (.slice 5 (.int .u8)) aD) tI),(.bEL bC (.bEL (.slice 5 (.int .u8)) aD)),[.box 97 ⟨true,(.bEL (.slice 5 (.int .u8)) aD),[]⟩,.val ⟨false,tI,[]⟩],[⟨true,bC,[0,0,0,2]⟩],false,none,
 ((fun x=>0≤x.1.2.1∧1≤x.2∧x.2≤6):(aJ × Int)→Prop),
 ((fun _=>bG (.bEL bC (.bEL (.slice 5 (.int .u8)) aD))):(aJ × Int)→(dR × aJ))⟩
def aFK:T:=.call 0 (.bEN (.bEL (.slice 5 (.int .u8)) aD) tI (.p1 (.bEL (.slice 5 (.int .u8)) aD) tI (.Z 0)) (.ci .i64 5)) <|
 .bEM (.ar .add .i64) (.bEN tI tI (.ci .i64 1) (.p1 tI (.bEL (.slice 5 (.int .u8)) aD) (.Z 1))) <|
 .bEM (.cmp .eql .i64) (.bEN tI tI (.Z 2) (.ci .i64 1)) <|
 .ite (.Z 3) (
  .call 0 (.bEN (.bEL (.slice 5 (.int .u8)) aD) tI (aN (.bEL tI (.bEL (.slice 5 (.int .u8)) aD)) 1 (.Z 1)) (.ci .i64 3)) <|
  .bEM (.ar .add .i64) (.bEN tI tI (.ci .i64 1) (.p1 tI (.bEL (.slice 5 (.int .u8)) aD) (.Z 4))) <|
  .call 1 (aY bC [(.Z 2),(aN (.bEL (.bEL (.slice 5 (.int .u8)) aD) tI) 1 (.Z 0)),(.Z 5),(.nl 3 tI)]) <|
  .call 2 (.bEN (.bEL (.slice 5 (.int .u8)) aD) tI (aN (.bEL tI (.bEL (.slice 5 (.int .u8)) aD)) 1 (.Z 4)) (.Z 6)) <|
  .ret (.bEN bC (.bEL (.slice 5 (.int .u8)) aD) (aY bC [(.Z 2),(aN (.bEL (.bEL (.slice 5 (.int .u8)) aD) tI) 1 (.Z 0)),(.Z 5),(.p1 aA (.bEL (.slice 5 (.int .u8)) aD) (.Z 7))]) (aN (.bEL aA (.bEL (.slice 5 (.int .u8)) aD)) 1 (.Z 7)))) (
  .call 1 (aY bC [(.Z 2),(aN (.bEL (.bEL (.slice 5 (.int .u8)) aD) tI) 1 (.Z 0)),(aN (.bEL (.bEL (.slice 5 (.int .u8)) aD) tI) 1 (.Z 0)),(.nl 3 tI)]) <|
  .call 2 (.bEN (.bEL (.slice 5 (.int .u8)) aD) tI (aN (.bEL tI (.bEL (.slice 5 (.int .u8)) aD)) 1 (.Z 1)) (.Z 4)) <|
  .ret (.bEN bC (.bEL (.slice 5 (.int .u8)) aD) (aY bC [(.Z 2),(aN (.bEL (.bEL (.slice 5 (.int .u8)) aD) tI) 1 (.Z 0)),(aN (.bEL (.bEL (.slice 5 (.int .u8)) aD) tI) 1 (.Z 0)),(.p1 aA (.bEL (.slice 5 (.int .u8)) aD) (.Z 5))]) (aN (.bEL aA (.bEL (.slice 5 (.int .u8)) aD)) 1 (.Z 5))))
theorem aZN (f:(aJ × Int)→(dR × aJ)):bJ Tryz.prog [aV,iM,hM] { aFU with fn:=f } false 3000 ⟨[],[]⟩ = .ok aFK:=by kernel_rfl
theorem bAM (x:aJ × Int) (hx:okD (.bEL (.bEL (.slice 5 (.int .u8)) aD) tI) x) (hp:(fun x=>0≤x.1.2.1∧1≤x.2∧x.2≤6) x):aFK.wp [aV,iM,hM] [⟨(.bEL (.bEL (.slice 5 (.int .u8)) aD) tI),x⟩] [] (fun v=>(fun x r=>(opB r.1=true∧r.1.2.1=x.2)∧0≤r.2.2.1:(aJ × Int)→(dR × aJ)→Prop) x (v.as (.bEL bC (.bEL (.slice 5 (.int .u8)) aD)))):=by
 obtain ⟨c,n⟩:=x
 obtain ⟨hp,hn1,hn2⟩:0≤c.2.1∧1≤n∧n≤6:=hp
 have q1:=bN (c,5) ⟨hx.1,okI (by omega) (by omega)⟩ hp
 delta aFK aV iM hM;refine eE ?_
 refine fJ ?_
 refine ⟨hp,fun _=>?_⟩
 generalize bK (c,5)=r at q1 ⊢;obtain ⟨n1,c1⟩:=r;obtain ⟨k1,u1⟩:=q1;replace k1:okD iF c1:=k1.2;dsimp only at u1 ⊢
 refine ⟨by omega,fun _=>⟨fun h1=>⟨u1.2.2.2,fun _=>?_⟩,fun h1 hs=>?_⟩⟩
 ·have q2:=bN (c1,3) ⟨k1,okI (by omega) (by omega)⟩ u1.2.2.2
  generalize bK (c1,3)=r at q2 ⊢;obtain ⟨n2,c2⟩:=r;obtain ⟨k2,u2⟩:=q2;replace k2:okD iF c2:=k2.2;dsimp only at u2 ⊢
  have hz:=bDS (k:=1+n1) (i:=n) (o:=1+n2) hn1 hn2 (by omega) (by omega)
  refine ⟨by omega,fun _ hs=>⟨⟨u2.2.2.2,by omega⟩,fun _=>?_⟩⟩
  have q3:=(lO (c2,eX (1+n1,n,1+n2,[])) ⟨k2,hs⟩ ⟨u2.2.2.2,by show eX (1+n1,n,1+n2,[])≤1000;omega⟩).2
  exact ⟨⟨aZA (by omega) (by omega) hn1 hn2 (by omega) (by omega) (by omega) q3.1 q3.2.1,trivial⟩,q3.2.2⟩
 ·have hz:=bDS (k:=1+n1) (i:=n) (o:=n) hn1 hn2 hn1 hn2
  refine ⟨⟨u1.2.2.2,by omega⟩,fun _=>?_⟩
  have q3:=(lO (c1,eX (1+n1,n,n,[])) ⟨k1,hs⟩ ⟨u1.2.2.2,by show eX (1+n1,n,n,[])≤1000;omega⟩).2
  exact ⟨⟨aZA (by omega) (by omega) hn1 hn2 hn1 hn2 (fun _=>rfl) q3.1 q3.2.1,trivial⟩,q3.2.2⟩
theorem aH4:∃ f:(aJ × Int)→(dR × aJ),(∀ x,okD (.bEL (.bEL (.slice 5 (.int .u8)) aD) tI) x→(fun x=>0≤x.1.2.1∧1≤x.2∧x.2≤6) x→(fun x r=>(opB r.1=true∧r.1.2.1=x.2)∧0≤r.2.2.1:(aJ × Int)→(dR × aJ)→Prop) x (f x))∧Con.Holds Tryz.prog { aFU with fn:=f }:=iR (C:=aFU) aR (aG dM (aG aF7 (aG xU aO))) aZN (fun x r=>(opB r.1=true∧r.1.2.1=x.2)∧0≤r.2.2.1:(aJ × Int)→(dR × aJ)→Prop) bAM
def vP:(aJ × Int)→(dR × aJ):=Classical.choose aH4
def aBO:Con:=⟨123,(.bEL (.bEL (.slice 5 (.int .u8)) aD) tI),(.bEL bC (.bEL (.slice 5 (.int .u8)) aD)),[.box 97 ⟨true,(.bEL (.slice 5 (.int .u8)) aD),[]⟩,.val ⟨false,tI,[]⟩],[⟨true,bC,[0,0,0,2]⟩],false,none,
 ((fun x=>0≤x.1.2.1∧1≤x.2∧x.2≤6):(aJ × Int)→Prop),
 ((vP):(aJ × Int)→(dR × aJ))⟩
theorem aZU:∀ x,okD (.bEL (.bEL (.slice 5 (.int .u8)) aD) tI) x→(fun x=>0≤x.1.2.1∧1≤x.2∧x.2≤6) x→(fun x r=>(opB r.1=true∧r.1.2.1=x.2)∧0≤r.2.2.1:(aJ × Int)→(dR × aJ)→Prop) x (vP x):=(Classical.choose_spec aH4).1
theorem aMA:Con.Holds Tryz.prog aBO:=(Classical.choose_spec aH4).2
theorem aZR (x:aJ × Int) (hx:okD (.bEL (.bEL (.slice 5 (.int .u8)) aD) tI) x) (hp:(fun x=>0≤x.1.2.1∧1≤x.2∧x.2≤6) x):okD (.bEL bC (.bEL (.slice 5 (.int .u8)) aD)) (vP x)∧(fun x r=>(opB r.1=true∧r.1.2.1=x.2)∧0≤r.2.2.1:(aJ × Int)→(dR × aJ)→Prop) x (vP x):=⟨aMA.ok x hp hx,aZU x hx hp⟩
def vH:Con:=⟨92,(.bEL (.slice 5 (.int .u8)) aD),(.bEL aF (.bEL (.slice 5 (.int .u8)) aD)),[.box 97 ⟨true,(.bEL (.slice 5 (.int .u8)) aD),[]⟩],[⟨true,aF,[2]⟩],false,none,
 ((fun x=>0≤x.2.1):(aJ)→Prop),
 ((fun _=>bG (.bEL aF (.bEL (.slice 5 (.int .u8)) aD))):(aJ)→(bL × aJ))⟩
def vB:T:=.call 0 (.bEN (.bEL (.slice 5 (.int .u8)) aD) tI (.Z 0) (.ci .i64 3)) <|
 .bEM (.ar .add .i64) (.bEN tI tI (.ci .i64 1) (.p1 tI (.bEL (.slice 5 (.int .u8)) aD) (.Z 1))) <|
 .call 0 (.bEN (.bEL (.slice 5 (.int .u8)) aD) tI (aN (.bEL tI (.bEL (.slice 5 (.int .u8)) aD)) 1 (.Z 1)) (.ci .i64 6)) <|
 .bEM (.ar .add .i64) (.bEN tI tI (.ci .i64 1) (.p1 tI (.bEL (.slice 5 (.int .u8)) aD) (.Z 3))) <|
 .loop (.bEL tI (.bEL tI (.bEL (.slice 5 (.int .u8)) (.bEL tI (.bEL tI aF))))) (aY (.bEL tI (.bEL tI (.bEL (.slice 5 (.int .u8)) (.bEL tI (.bEL tI aF))))) [(.Z 4),(.Z 2),(aI (.bEL tI (.bEL (.slice 5 (.int .u8)) aD)) 1 (.Z 3)),(aI (.bEL tI (.bEL (.slice 5 (.int .u8)) aD)) 2 (.Z 3)),(aN (.bEL tI (.bEL (.slice 5 (.int .u8)) aD)) 3 (.Z 3)),(.nl 78 bC)]) <|
  .bEM (.cmp .gtr .i64) (.bEN tI tI (.p1 tI (.bEL tI (.bEL (.slice 5 (.int .u8)) (.bEL tI (.bEL tI aF)))) (.Z 5)) (.ci .i64 0)) <|
  .ite (.Z 6) (
   .call 1 (.bEN (.bEL (.slice 5 (.int .u8)) aD) tI (aY (.bEL (.slice 5 (.int .u8)) aD) [(aI (.bEL tI (.bEL tI (.bEL (.slice 5 (.int .u8)) (.bEL tI (.bEL tI aF))))) 2 (.Z 5)),(aI (.bEL tI (.bEL tI (.bEL (.slice 5 (.int .u8)) (.bEL tI (.bEL tI aF))))) 3 (.Z 5)),(aI (.bEL tI (.bEL tI (.bEL (.slice 5 (.int .u8)) (.bEL tI (.bEL tI aF))))) 4 (.Z 5))]) (aI (.bEL tI (.bEL tI (.bEL (.slice 5 (.int .u8)) (.bEL tI (.bEL tI aF))))) 1 (.Z 5))) <|
   .bEM (.lit 78 bC 1) (.p1 bC (.bEL (.slice 5 (.int .u8)) aD) (.Z 7)) <|
   .bEM (.bES 78 bC 48) (.bEN aF aF (aN (.bEL tI (.bEL tI (.bEL (.slice 5 (.int .u8)) (.bEL tI (.bEL tI aF))))) 5 (.Z 5)) (.Z 8)) <|
   .bEM (.ar .sub .i64) (.bEN tI tI (.p1 tI (.bEL tI (.bEL (.slice 5 (.int .u8)) (.bEL tI (.bEL tI aF)))) (.Z 5)) (.ci .i64 1)) <|
   .bEO 0 (aY (.bEL tI (.bEL tI (.bEL (.slice 5 (.int .u8)) (.bEL tI (.bEL tI aF))))) [(.Z 10),(aI bC 2 (.p1 bC (.bEL (.slice 5 (.int .u8)) aD) (.Z 7))),(aI (.bEL bC (.bEL (.slice 5 (.int .u8)) aD)) 1 (.Z 7)),(aI (.bEL bC (.bEL (.slice 5 (.int .u8)) aD)) 2 (.Z 7)),(aN (.bEL bC (.bEL (.slice 5 (.int .u8)) aD)) 3 (.Z 7)),(.Z 9)])) (
   .ret (aY (.bEL aF (.bEL (.slice 5 (.int .u8)) aD)) [(aN (.bEL tI (.bEL tI (.bEL (.slice 5 (.int .u8)) (.bEL tI (.bEL tI aF))))) 5 (.Z 5)),(aI (.bEL tI (.bEL tI (.bEL (.slice 5 (.int .u8)) (.bEL tI (.bEL tI aF))))) 2 (.Z 5)),(aI (.bEL tI (.bEL tI (.bEL (.slice 5 (.int .u8)) (.bEL tI (.bEL tI aF))))) 3 (.Z 5)),(aI (.bEL tI (.bEL tI (.bEL (.slice 5 (.int .u8)) (.bEL tI (.bEL tI aF))))) 4 (.Z 5))]))
theorem aPG (f:(aJ)→(bL × aJ)):bJ Tryz.prog [aV,aBO] { vH with fn:=f } false 3000 ⟨[(2989,1005,jT 13 7++[.tm 5 0,.tm 4 0,.bx 1 0,.bx 1 1,.bx 1 2,.sl 6])],[(2978,3008,[],[7])]⟩ = .ok vB:=by kernel_rfl
theorem aPM (x:aJ) (hx:okD (.bEL (.slice 5 (.int .u8)) aD) x) (hp:(fun x=>0≤x.2.1) x):vB.wp [aV,aBO] [⟨(.bEL (.slice 5 (.int .u8)) aD),x⟩] [] (fun v=>(fun x r=>(1≤r.1.length∧cX r.1=true)∧r.1.length≤6∧(∀ o∈r.1,opB o=true)∧0≤r.2.2.1:(aJ)→(bL × aJ)→Prop) x (v.as (.bEL aF (.bEL (.slice 5 (.int .u8)) aD)))):=by
 have q1:=bN (x,3) ⟨hx,okI (by omega) (by omega)⟩ hp
 delta vB aV aBO;refine eE ?_
 refine fJ ?_
 refine ⟨hp,fun _=>?_⟩
 generalize bK (x,3)=r at q1 ⊢;obtain ⟨n1,c1⟩:=r;obtain ⟨k1,u1⟩:=q1;replace k1:okD iF c1:=k1.2;dsimp only at u1 ⊢
 refine ⟨by omega,fun _=>⟨u1.2.2.2,fun _=>?_⟩⟩
 have q2:=bN (c1,6) ⟨k1,okI (by omega) (by omega)⟩ u1.2.2.2
 generalize bK (c1,6)=r at q2 ⊢;obtain ⟨n2,c2⟩:=r;obtain ⟨k2,u2⟩:=q2;replace k2:okD iF c2:=k2.2;dsimp only at u2 ⊢
 refine ⟨by omega,fun _=>⟨fun s=>@LE.le Int _ 0 s.1∧(List.length s.2.2.2.2.2:Int)+s.1=1+n2∧@LE.le Int _ 1 s.2.1∧@LE.le Int _ s.2.1 6∧((∀ o∈s.2.2.2.2.2,opB o=true)∧chB s.2.2.2.2.2 s.2.1)∧@LE.le Int _ 0 s.2.2.2.1,fun s=>(s.1:Int).toNat,⟨by show 0≤1+n2;omega,by show (0:Int)+(1+n2)=1+n2;omega,by show 1≤1+n1;omega,by show 1+n1≤6;omega,⟨fun o h=>by simp at h,fun i h=>absurd h (Nat.not_lt_zero _),fun h=>absurd h (Nat.lt_irrefl _)⟩,u2.2.2.2⟩,fun s hs hI=>?_⟩⟩
 obtain ⟨j,g,b,i,h,l⟩:=s
 obtain ⟨e1,e2,e3,e4,⟨e5,e7⟩,e6⟩:=hI
 change Int at j
 change Int at g
 change List dR at l
 change 0≤j at e1
 change (l.length:Int)+j=1+n2 at e2
 change 1≤g at e3
 change g≤6 at e4
 change ∀ o∈l,opB o=true at e5
 change chB l g at e7
 have q:=(aZR ((b,i,h),g) ⟨⟨hs.2.2.1,hs.2.2.2.1,hs.2.2.2.2.1⟩,hs.2.1⟩ ⟨e6,e3,e4⟩).2
 try dsimp only
 refine ⟨fun hlt=>⟨⟨e6,e3,e4⟩,fun _ _=>⟨⟨by omega,by unfold maxLen;omega⟩,fun _=>⟨by omega,fun _=>⟨⟨by omega,?_,?_,?_,⟨fun o ho=>?_,bAI e7 q.1.1 q.1.2⟩,q.2⟩,?_⟩⟩⟩⟩,fun hge=>?_⟩
 ·show (((l++[(vP ((b,i,h),g)).fst]).length:Nat):Int)+(j - 1)=1+n2
  rw[List.length_append];simp;omega
 ·obtain ⟨⟨_,_,_,_,j1,j2,_⟩,_⟩:=(gA _).1 q.1.1
  exact j1
 ·obtain ⟨⟨_,_,_,_,j1,j2,_⟩,_⟩:=(gA _).1 q.1.1
  exact j2
 ·rcases List.mem_append.1 ho with ho|ho
  ·exact e5 o ho
  ·rw[List.mem_singleton] at ho
   rw[ho];exact q.1.1
 ·show (j - 1).toNat<j.toNat
  omega
 ·have hj:j≤0:=by simpa using hge
  exact ⟨⟨by omega,(bA l).2 ⟨by omega,by omega,e7.1⟩⟩,by omega,e5,e6⟩
theorem vV:∃ f:(aJ)→(bL × aJ),(∀ x,okD (.bEL (.slice 5 (.int .u8)) aD) x→(fun x=>0≤x.2.1) x→(fun x r=>(1≤r.1.length∧cX r.1=true)∧r.1.length≤6∧(∀ o∈r.1,opB o=true)∧0≤r.2.2.1:(aJ)→(bL × aJ)→Prop) x (f x))∧Con.Holds Tryz.prog { vH with fn:=f }:=iR (C:=vH) aR (aG dM (aG aMA aO)) aPG (fun x r=>(1≤r.1.length∧cX r.1=true)∧r.1.length≤6∧(∀ o∈r.1,opB o=true)∧0≤r.2.2.1:(aJ)→(bL × aJ)→Prop) aPM
def nF:(aJ)→(bL × aJ):=Classical.choose vV
def qR:Con:=⟨92,(.bEL (.slice 5 (.int .u8)) aD),(.bEL aF (.bEL (.slice 5 (.int .u8)) aD)),[.box 97 ⟨true,(.bEL (.slice 5 (.int .u8)) aD),[]⟩],[⟨true,aF,[2]⟩],false,none,
 ((fun x=>0≤x.2.1):(aJ)→Prop),
 ((nF):(aJ)→(bL × aJ))⟩
theorem aNB:∀ x,okD (.bEL (.slice 5 (.int .u8)) aD) x→(fun x=>0≤x.2.1) x→(fun x r=>(1≤r.1.length∧cX r.1=true)∧r.1.length≤6∧(∀ o∈r.1,opB o=true)∧0≤r.2.2.1:(aJ)→(bL × aJ)→Prop) x (nF x):=(Classical.choose_spec vV).1
theorem aE3:Con.Holds Tryz.prog qR:=(Classical.choose_spec vV).2
theorem aMB (x:aJ) (hx:okD (.bEL (.slice 5 (.int .u8)) aD) x) (hp:(fun x=>0≤x.2.1) x):okD (.bEL aF (.bEL (.slice 5 (.int .u8)) aD)) (nF x)∧(fun x r=>(1≤r.1.length∧cX r.1=true)∧r.1.length≤6∧(∀ o∈r.1,opB o=true)∧0≤r.2.2.1:(aJ)→(bL × aJ)→Prop) x (nF x):=⟨aE3.ok x hp hx,aNB x hx hp⟩
end
end Go.Proofs.YtdeobhdbmehpgaaGreat
