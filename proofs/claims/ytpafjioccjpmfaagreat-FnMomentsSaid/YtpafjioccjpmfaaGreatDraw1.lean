/- Draw1: lemmas. No conditions. -/
import Derived.Test.YtpafjioccjpmfaaGreatDrawC
import Derived.Test.YtpafjioccjpmfaaGreatLoop
import Derived.Test.YtpafjioccjpmfaaGreatSeq5
namespace Go.Proofs.YtpafjioccjpmfaaGreat
noncomputable section
set_option maxRecDepth 100000
open Go.ChangeShapes Go.WideShapes Go.ChangeAt Go.RowKit Go.Deep
set_option linter.unusedVariables false
set_option linter.unusedSimpArgs false
theorem bCB (x:Int):0≤aCR .and .i64 x 255∧aCR .and .i64 x 255≤255:=aUJ (m:=255) (by decide)
theorem bPD {α:Type} {l:List α} (h:l.length≤maxLen):l.length≤9223372036854775807:=by unfold maxLen at h;omega
theorem tmB {a n:Int} (ha:0≤a) (hn:0<n):0≤a.tmod n∧a.tmod n<n:=by
 rw[Int.tmod_eq_emod_of_nonneg ha]
 exact ⟨Int.emod_nonneg _ (by omega),Int.emod_lt_of_pos _ hn⟩
theorem tdB {a p:Int} (h1:-600000≤a) (h2:a≤600000):-600000≤a.tdiv p∧a.tdiv p≤600000:=by
 have h:=Int.natAbs_tdiv a p
 have h3:=Nat.div_le_self a.natAbs p.natAbs
 have h4:a.natAbs.div p.natAbs=a.natAbs / p.natAbs:=rfl
 omega
theorem bBX {m:bE} (h:bO m=true) {k:Nat} (hk:k<m.length):1≤m[k].2.1∧m[k].2.1≤6∧1≤m[k].2.2.1∧m[k].2.2.1≤6:=by
 have:=((bM m).1 h).2.2 k hk
 obtain ⟨⟨_,_,h1,h2,h3,h4,_⟩,_⟩:=(eH _).1 ((iO m hk).1 this).1
 exact ⟨h1,h2,h3,h4⟩
theorem bNG (m:bE):0≤dM m∧dM m≤6:=by
 unfold dM
 split
 ·rename_i h
  have hl:=(bM m).1 h
  have h0:0<m.length:=by omega
  have:=bBX h h0
  rw[aW h0]
  omega
 ·omega
theorem bKC (m:bE):0≤cH m∧cH m≤6:=by
 unfold cH
 split
 ·rename_i h
  have hl:=(bM m).1 h
  have h0:List.length m - 1<m.length:=by omega
  have:=bBX h h0
  rw[aW h0]
  omega
 ·omega
theorem bNB {k i o:Int} (h1:1≤i) (h2:i≤6) (h3:1≤o) (h4:o≤6):0≤dZ (k,i,o,[])∧dZ (k,i,o,[])≤36:=by
 have:=aTZ h1 h2 h3 h4
 unfold dZ
 dsimp only
 repeat' split
 all_goals omega
theorem bJC {k i o:Int} {P:List Int} (k1:1≤k) (k5:k≤5) (h1:1≤i) (h2:i≤6) (h3:1≤o) (h4:o≤6) (hk:k≠1→i=o) (hl:P.length=(dZ (k,i,o,[])).toNat) (ha:∀ v∈P,gM v=true):opB (k,i,o,P)=true:=by
 have hs:=bNB (k:=k) h1 h2 h3 h4
 refine (eH _).2 ⟨⟨k1,k5,h1,h2,h3,h4,hk,?_⟩,List.all_eq_true.2 ha⟩
 show (P.length:Int)=dZ (k,i,o,[])
 omega
def chB (l:List cZ) (g:Int):Prop:=(∀ i,i<l.length→aLV l i=true)∧(0<l.length→(l.getD (l.length - 1) qY).2.2.1=g)
theorem bFX {l:List cZ} {o:cZ} {g:Int} (h:chB l g) (ho:opB o=true) (hi:o.2.1=g):chB (l++[o]) o.2.2.1:=by
 have e:∀ j,j<l.length→(l++[o]).getD j qY=l.getD j qY:=fun j hj=>by
  rw[List.getD_eq_getElem?_getD,List.getD_eq_getElem?_getD,List.getElem?_append_left hj]
 have e2:(l++[o]).getD l.length qY=o:=by
  rw[List.getD_eq_getElem?_getD,List.getElem?_append_right (Nat.le_refl _),Nat.sub_self];rfl
 have el:(l++[o]).length=l.length+1:=by rw[List.length_append];rfl
 refine ⟨fun i hlt=>?_,fun _=>?_⟩
 ·rw[el] at hlt
  rcases Nat.lt_or_eq_of_le (Nat.le_of_lt_succ hlt) with h1|rfl
  ·have:=h.1 i h1
   unfold aLV at this ⊢
   rw[e i h1,e (i - 1) (by omega)];exact this
  ·unfold aLV
   rw[e2,ho]
   by_cases h0:l.length=0
   ·rw[decide_eq_true h0];rfl
   ·rw[e (l.length - 1) (by omega),h.2 (by omega),decide_eq_true (show g=o.2.1 from hi.symm),Bool.or_true];rfl
 ·rw[el,Nat.add_sub_cancel,e2]
theorem bBU {v:List Int} {n:Int} (h1:1≤n) (h6:n≤6) (hl:v.length=n.toNat) (ha:∀ x∈v,gM x=true):cN v n=true:=by
 unfold cN
 rw[(dB v).2 ⟨by omega,by omega,List.all_eq_true.2 ha⟩,decide_eq_true (show (v.length:Int)=n by omega)];rfl
theorem bNH {m:bE} (h:bO m=true):1≤dM m∧1≤cH m:=by
 have hl:=(bM m).1 h
 unfold dM cH
 rw[if_pos h,if_pos h]
 have h0:=bBX h (show 0<m.length by omega)
 have h9:=bBX h (show m.length - 1<m.length by omega)
 rw[aW (show 0<m.length by omega),aW (show List.length m - 1<m.length by omega)]
 exact ⟨h0.1,h9.2.2.1⟩
theorem okI {n:Int} (h1:-9223372036854775808≤n) (h2:n≤9223372036854775807):okD tI n:=⟨h1,h2⟩
theorem okL {e:TypeId} {l:List Int} (hl:l.length≤1000) (h:∀ y∈l,-9223372036854775808≤y∧y≤9223372036854775807):okD (.slice e tI) l:=⟨by unfold maxLen;exact Nat.le_trans hl (by decide),h⟩
def aDE:Con:=⟨82,(.bPW (.slice 5 (.int .u8)) aD),(.bPW tI (.bPW (.slice 5 (.int .u8)) aD)),[.box 91 ⟨true,(.bPW (.slice 5 (.int .u8)) aD),[]⟩],[⟨false,tI,[0]⟩],false,none,
 ((fun x=>0≤x.2.1):(aN)→Prop),
 ((fun _=>aP (.bPW tI (.bPW (.slice 5 (.int .u8)) aD))):(aN)→(Int × aN))⟩
def aEO:T :=
 .bPX (.arw .mul .i64) (.bPY tI tI (aS (.bPW (.slice 5 (.int .u8)) aD) 2 (.Z 0)) (.ci .i64 6364136223846793005)) <|
 .bPX (.arw .add .i64) (.bPY tI tI (.Z 1) (.ci .i64 1442695040888963407)) <|
 .bPX (.shr .i64 .u64) (.bPY tI (.int .u64) (.Z 2) (.ci .u64 33)) <|
 .bPX (.shr .i64 .u64) (.bPY tI (.int .u64) (.Z 2) (.ci .u64 45)) <|
 .bPX (.bits .xor .i64) (.bPY tI tI (.Z 3) (.Z 4)) <|
 .bPX (.bits .and .i64) (.bPY tI tI (.Z 5) (.ci .i64 255)) <|
 .bPX (.bQ0 5 (.int .u8)) (.p1 (.slice 5 (.int .u8)) aD (.Z 0)) <|
 .bPX (.cmp .lss .i64) (.bPY tI tI (aH (.bPW (.slice 5 (.int .u8)) aD) 1 (.Z 0)) (.Z 7)) <|
 .ite (.Z 8) (
  .bPX (.bQ1 5 (.int .u8)) (.bPY (.slice 5 (.int .u8)) tI (.p1 (.slice 5 (.int .u8)) aD (.Z 0)) (aH (.bPW (.slice 5 (.int .u8)) aD) 1 (.Z 0))) <|
  .bPX (.conv .u8 .i64) (.Z 9) <|
  .bPX (.arw .add .i64) (.bPY tI tI (.Z 6) (.Z 10)) <|
  .bPX (.bits .and .i64) (.bPY tI tI (.Z 11) (.ci .i64 255)) <|
  .bPX (.arw .add .i64) (.bPY tI tI (aH (.bPW (.slice 5 (.int .u8)) aD) 1 (.Z 0)) (.ci .i64 1)) <|
  .ret (bP (.bPW tI (.bPW (.slice 5 (.int .u8)) aD)) [(.Z 12),(.p1 (.slice 5 (.int .u8)) aD (.Z 0)),(.Z 13),(.Z 2)])) (
  .ret (bP (.bPW tI (.bPW (.slice 5 (.int .u8)) aD)) [(.Z 6),(.p1 (.slice 5 (.int .u8)) aD (.Z 0)),(aH (.bPW (.slice 5 (.int .u8)) aD) 1 (.Z 0)),(.Z 2)]))
theorem aX4 (f:(aN)→(Int × aN)):bW Tryz.prog [] { aDE with fn:=f } true 3000 ⟨[],[]⟩ = .ok aEO:=by kernel_rfl
theorem aX0 (x:aN) (hx:okD (.bPW (.slice 5 (.int .u8)) aD) x) (hp:(fun x=>0≤x.2.1) x):aEO.wp [] [⟨(.bPW (.slice 5 (.int .u8)) aD),x⟩] [] (fun v=>(fun x r=>0≤r.1∧r.1≤255∧0≤r.2.2.1:(aN)→(Int × aN)→Prop) x (v.as (.bPW tI (.bPW (.slice 5 (.int .u8)) aD)))):=by
 obtain ⟨b,i,h⟩:=x
 change 0≤i at hp
 have hb:b.length≤9223372036854775807:=bPD hx.1.1
 delta aEO;refine dY ?_
 (refine eD ?_;try with_reducible exact True.intro)
 (repeat' first|intro _|(with_reducible apply And.intro))
 all_goals first|omega|exact (bCB _).1|exact (bCB _).2|(rw[uH (by show (-9223372036854775808:Int)≤_∧_≤(9223372036854775807:Int);omega)];omega)
theorem aDI:∃ f:(aN)→(Int × aN),(∀ x,okD (.bPW (.slice 5 (.int .u8)) aD) x→(fun x=>0≤x.2.1) x→(fun x r=>0≤r.1∧r.1≤255∧0≤r.2.2.1:(aN)→(Int × aN)→Prop) x (f x))∧Con.Holds Tryz.prog { aDE with fn:=f }:=iX (C:=aDE) aZ aT aX4 (fun x r=>0≤r.1∧r.1≤255∧0≤r.2.2.1:(aN)→(Int × aN)→Prop) aX0
def yS:(aN)→(Int × aN):=Classical.choose aDI
def xR:Con:=⟨82,(.bPW (.slice 5 (.int .u8)) aD),(.bPW tI (.bPW (.slice 5 (.int .u8)) aD)),[.box 91 ⟨true,(.bPW (.slice 5 (.int .u8)) aD),[]⟩],[⟨false,tI,[0]⟩],false,none,
 ((fun x=>0≤x.2.1):(aN)→Prop),
 ((yS):(aN)→(Int × aN))⟩
theorem aZP:∀ x,okD (.bPW (.slice 5 (.int .u8)) aD) x→(fun x=>0≤x.2.1) x→(fun x r=>0≤r.1∧r.1≤255∧0≤r.2.2.1:(aN)→(Int × aN)→Prop) x (yS x):=(Classical.choose_spec aDI).1
theorem aL7:Con.Holds Tryz.prog xR:=(Classical.choose_spec aDI).2
theorem yD (x:aN) (hx:okD (.bPW (.slice 5 (.int .u8)) aD) x) (hp:(fun x=>0≤x.2.1) x):okD (.bPW tI (.bPW (.slice 5 (.int .u8)) aD)) (yS x)∧(fun x r=>0≤r.1∧r.1≤255∧0≤r.2.2.1:(aN)→(Int × aN)→Prop) x (yS x):=⟨aL7.ok x hp hx,aZP x hx hp⟩
def aA5:Con:=⟨46,(.bPW (.bPW (.slice 5 (.int .u8)) aD) tI),(.bPW tI (.bPW (.slice 5 (.int .u8)) aD)),[.box 91 ⟨true,(.bPW (.slice 5 (.int .u8)) aD),[]⟩,.val ⟨false,tI,[]⟩],[⟨false,tI,[0]⟩],false,none,
 ((fun x=>0≤x.1.2.1):(aN × Int)→Prop),
 ((fun _=>aP (.bPW tI (.bPW (.slice 5 (.int .u8)) aD))):(aN × Int)→(Int × aN))⟩
def zN:T :=
 .bPX (.cmp .leq .i64) (.bPY tI tI (aS (.bPW (.bPW (.slice 5 (.int .u8)) aD) tI) 1 (.Z 0)) (.ci .i64 0)) <|
 .ite (.Z 1) (
  .ret (.bPY tI (.bPW (.slice 5 (.int .u8)) aD) (.ci .i64 0) (.p1 (.bPW (.slice 5 (.int .u8)) aD) tI (.Z 0)))) (
  .bPX (.cmp .leq .i64) (.bPY tI tI (aS (.bPW (.bPW (.slice 5 (.int .u8)) aD) tI) 1 (.Z 0)) (.ci .i64 256)) <|
  .ite (.Z 2) (
   .call 0 (.p1 (.bPW (.slice 5 (.int .u8)) aD) tI (.Z 0)) <|
   .bPX (.rem .i64) (.bPY tI tI (.p1 tI (.bPW (.slice 5 (.int .u8)) aD) (.Z 3)) (aS (.bPW (.bPW (.slice 5 (.int .u8)) aD) tI) 1 (.Z 0))) <|
   .ret (.bPY tI (.bPW (.slice 5 (.int .u8)) aD) (.Z 4) (aS (.bPW tI (.bPW (.slice 5 (.int .u8)) aD)) 1 (.Z 3)))) (
   .call 0 (.p1 (.bPW (.slice 5 (.int .u8)) aD) tI (.Z 0)) <|
   .call 0 (aS (.bPW tI (.bPW (.slice 5 (.int .u8)) aD)) 1 (.Z 3)) <|
   .call 0 (aS (.bPW tI (.bPW (.slice 5 (.int .u8)) aD)) 1 (.Z 4)) <|
   .call 0 (aS (.bPW tI (.bPW (.slice 5 (.int .u8)) aD)) 1 (.Z 5)) <|
   .bPX (.ar .mul .i64) (.bPY tI tI (.p1 tI (.bPW (.slice 5 (.int .u8)) aD) (.Z 3)) (.ci .i64 16777216)) <|
   .bPX (.ar .mul .i64) (.bPY tI tI (.p1 tI (.bPW (.slice 5 (.int .u8)) aD) (.Z 4)) (.ci .i64 65536)) <|
   .bPX (.ar .add .i64) (.bPY tI tI (.Z 7) (.Z 8)) <|
   .bPX (.ar .mul .i64) (.bPY tI tI (.p1 tI (.bPW (.slice 5 (.int .u8)) aD) (.Z 5)) (.ci .i64 256)) <|
   .bPX (.ar .add .i64) (.bPY tI tI (.Z 9) (.Z 10)) <|
   .bPX (.ar .add .i64) (.bPY tI tI (.Z 11) (.p1 tI (.bPW (.slice 5 (.int .u8)) aD) (.Z 6))) <|
   .bPX (.rem .i64) (.bPY tI tI (.Z 12) (aS (.bPW (.bPW (.slice 5 (.int .u8)) aD) tI) 1 (.Z 0))) <|
   .ret (.bPY tI (.bPW (.slice 5 (.int .u8)) aD) (.Z 13) (aS (.bPW tI (.bPW (.slice 5 (.int .u8)) aD)) 1 (.Z 6)))))
theorem aWG (f:(aN × Int)→(Int × aN)):bW Tryz.prog [xR] { aA5 with fn:=f } false 3000 ⟨[],[]⟩ = .ok zN:=by kernel_rfl
theorem aU5 (x:aN × Int) (hx:okD (.bPW (.bPW (.slice 5 (.int .u8)) aD) tI) x) (hp:(fun x=>0≤x.1.2.1) x):zN.wp [xR] [⟨(.bPW (.bPW (.slice 5 (.int .u8)) aD) tI),x⟩] [] (fun v=>(fun x r=>0≤r.1∧(0<x.2→r.1<x.2)∧(x.2≤0→r.1=0)∧0≤r.2.2.1:(aN × Int)→(Int × aN)→Prop) x (v.as (.bPW tI (.bPW (.slice 5 (.int .u8)) aD)))):=by
 obtain ⟨⟨b,i,h⟩,n⟩:=x
 change 0≤i at hp
 have q1:=yD (b,i,h) hx.1 hp
 have q2:=yD _ q1.1.2 q1.2.2.2
 have q3:=yD _ q2.1.2 q2.2.2.2
 have q4:=yD _ q3.1.2 q3.2.2.2
 replace q1:=q1.2
 replace q2:=q2.2
 replace q3:=q3.2
 replace q4:=q4.2
 dsimp only at q1 q2 q3 q4
 delta zN xR;refine dY ?_
 (refine eD ?_;try with_reducible exact True.intro)
 (repeat' first|intro _|(with_reducible apply And.intro))
 all_goals first|omega|exact (tmB (by omega) (by omega)).1|exact (tmB (by omega) (by omega)).2|trivial
theorem aBD:∃ f:(aN × Int)→(Int × aN),(∀ x,okD (.bPW (.bPW (.slice 5 (.int .u8)) aD) tI) x→(fun x=>0≤x.1.2.1) x→(fun x r=>0≤r.1∧(0<x.2→r.1<x.2)∧(x.2≤0→r.1=0)∧0≤r.2.2.1:(aN × Int)→(Int × aN)→Prop) x (f x))∧Con.Holds Tryz.prog { aA5 with fn:=f }:=iX (C:=aA5) aZ (aG aL7 aT) aWG (fun x r=>0≤r.1∧(0<x.2→r.1<x.2)∧(x.2≤0→r.1=0)∧0≤r.2.2.1:(aN × Int)→(Int × aN)→Prop) aU5
def cF:(aN × Int)→(Int × aN):=Classical.choose aBD
def bN:Con:=⟨46,(.bPW (.bPW (.slice 5 (.int .u8)) aD) tI),(.bPW tI (.bPW (.slice 5 (.int .u8)) aD)),[.box 91 ⟨true,(.bPW (.slice 5 (.int .u8)) aD),[]⟩,.val ⟨false,tI,[]⟩],[⟨false,tI,[0]⟩],false,none,
 ((fun x=>0≤x.1.2.1):(aN × Int)→Prop),
 ((cF):(aN × Int)→(Int × aN))⟩
theorem aV1:∀ x,okD (.bPW (.bPW (.slice 5 (.int .u8)) aD) tI) x→(fun x=>0≤x.1.2.1) x→(fun x r=>0≤r.1∧(0<x.2→r.1<x.2)∧(x.2≤0→r.1=0)∧0≤r.2.2.1:(aN × Int)→(Int × aN)→Prop) x (cF x):=(Classical.choose_spec aBD).1
theorem eV:Con.Holds Tryz.prog bN:=(Classical.choose_spec aBD).2
theorem cK (x:aN × Int) (hx:okD (.bPW (.bPW (.slice 5 (.int .u8)) aD) tI) x) (hp:(fun x=>0≤x.1.2.1) x):okD (.bPW tI (.bPW (.slice 5 (.int .u8)) aD)) (cF x)∧(fun x r=>0≤r.1∧(0<x.2→r.1<x.2)∧(x.2≤0→r.1=0)∧0≤r.2.2.1:(aN × Int)→(Int × aN)→Prop) x (cF x):=⟨eV.ok x hp hx,aV1 x hx hp⟩
def aDU:Con:=⟨81,(.bPW (.bPW (.slice 5 (.int .u8)) aD) tI),(.bPW .bool (.bPW (.slice 5 (.int .u8)) aD)),[.box 91 ⟨true,(.bPW (.slice 5 (.int .u8)) aD),[]⟩,.val ⟨false,tI,[]⟩],[⟨false,.bool,[0]⟩],false,none,
 ((fun x=>0≤x.1.2.1):(aN × Int)→Prop),
 ((fun _=>aP (.bPW .bool (.bPW (.slice 5 (.int .u8)) aD))):(aN × Int)→(Bool × aN))⟩
def aE3:T:=.call 0 (.Z 0) <|
 .bPX (.cmp .eql .i64) (.bPY tI tI (.p1 tI (.bPW (.slice 5 (.int .u8)) aD) (.Z 1)) (.ci .i64 0)) <|
 .ret (.bPY .bool (.bPW (.slice 5 (.int .u8)) aD) (.Z 2) (aS (.bPW tI (.bPW (.slice 5 (.int .u8)) aD)) 1 (.Z 1)))
theorem aXE (f:(aN × Int)→(Bool × aN)):bW Tryz.prog [bN] { aDU with fn:=f } false 3000 ⟨[],[]⟩ = .ok aE3:=by kernel_rfl
theorem bA6 (x:aN × Int) (hx:okD (.bPW (.bPW (.slice 5 (.int .u8)) aD) tI) x) (hp:(fun x=>0≤x.1.2.1) x):aE3.wp [bN] [⟨(.bPW (.bPW (.slice 5 (.int .u8)) aD) tI),x⟩] [] (fun v=>(fun x r=>0≤r.2.2.1:(aN × Int)→(Bool × aN)→Prop) x (v.as (.bPW .bool (.bPW (.slice 5 (.int .u8)) aD)))):=by
 have q1:=(cK x hx hp).2
 delta aE3 bN;refine dY ?_
 exact ⟨hp,fun _=>q1.2.2.2⟩
theorem aER:∃ f:(aN × Int)→(Bool × aN),(∀ x,okD (.bPW (.bPW (.slice 5 (.int .u8)) aD) tI) x→(fun x=>0≤x.1.2.1) x→(fun x r=>0≤r.2.2.1:(aN × Int)→(Bool × aN)→Prop) x (f x))∧Con.Holds Tryz.prog { aDU with fn:=f }:=iX (C:=aDU) aZ (aG eV aT) aXE (fun x r=>0≤r.2.2.1:(aN × Int)→(Bool × aN)→Prop) bA6
def nB:(aN × Int)→(Bool × aN):=Classical.choose aER
def iV:Con:=⟨81,(.bPW (.bPW (.slice 5 (.int .u8)) aD) tI),(.bPW .bool (.bPW (.slice 5 (.int .u8)) aD)),[.box 91 ⟨true,(.bPW (.slice 5 (.int .u8)) aD),[]⟩,.val ⟨false,tI,[]⟩],[⟨false,.bool,[0]⟩],false,none,
 ((fun x=>0≤x.1.2.1):(aN × Int)→Prop),
 ((nB):(aN × Int)→(Bool × aN))⟩
theorem aZY:∀ x,okD (.bPW (.bPW (.slice 5 (.int .u8)) aD) tI) x→(fun x=>0≤x.1.2.1) x→(fun x r=>0≤r.2.2.1:(aN × Int)→(Bool × aN)→Prop) x (nB x):=(Classical.choose_spec aER).1
theorem yR:Con.Holds Tryz.prog iV:=(Classical.choose_spec aER).2
theorem aE9 (x:aN × Int) (hx:okD (.bPW (.bPW (.slice 5 (.int .u8)) aD) tI) x) (hp:(fun x=>0≤x.1.2.1) x):okD (.bPW .bool (.bPW (.slice 5 (.int .u8)) aD)) (nB x)∧(fun x r=>0≤r.2.2.1:(aN × Int)→(Bool × aN)→Prop) x (nB x):=⟨yR.ok x hp hx,aZY x hx hp⟩
def vM:Con:=⟨48,(.bPW (.bPW (.slice 5 (.int .u8)) aD) aB),(.bPW tI (.bPW (.slice 5 (.int .u8)) aD)),[.box 91 ⟨true,(.bPW (.slice 5 (.int .u8)) aD),[]⟩,.val ⟨false,aB,[]⟩],[⟨false,tI,[0]⟩],false,none,
 ((fun x=>0≤x.1.2.1∧x.2≠[]):(aN × bK)→Prop),
 ((fun _=>aP (.bPW tI (.bPW (.slice 5 (.int .u8)) aD))):(aN × bK)→(Int × aN))⟩
def wH:T :=
 .bPX (.bQ0 3 tI) (aS (.bPW (.bPW (.slice 5 (.int .u8)) aD) aB) 1 (.Z 0)) <|
 .call 0 (.bPY (.bPW (.slice 5 (.int .u8)) aD) tI (.p1 (.bPW (.slice 5 (.int .u8)) aD) aB (.Z 0)) (.Z 1)) <|
 .bPX (.bQ1 3 tI) (.bPY aB tI (aS (.bPW (.bPW (.slice 5 (.int .u8)) aD) aB) 1 (.Z 0)) (.p1 tI (.bPW (.slice 5 (.int .u8)) aD) (.Z 2))) <|
 .ret (.bPY tI (.bPW (.slice 5 (.int .u8)) aD) (.Z 3) (aS (.bPW tI (.bPW (.slice 5 (.int .u8)) aD)) 1 (.Z 2)))
theorem aO4 (f:(aN × bK)→(Int × aN)):bW Tryz.prog [bN] { vM with fn:=f } false 3000 ⟨[],[]⟩ = .ok wH:=by kernel_rfl
theorem aNJ (x:aN × bK) (hx:okD (.bPW (.bPW (.slice 5 (.int .u8)) aD) aB) x) (hp:(fun x=>0≤x.1.2.1∧x.2≠[]) x):wH.wp [bN] [⟨(.bPW (.bPW (.slice 5 (.int .u8)) aD) aB),x⟩] [] (fun v=>(fun x r=>r.1∈x.2∧0≤r.2.2.1:(aN × bK)→(Int × aN)→Prop) x (v.as (.bPW tI (.bPW (.slice 5 (.int .u8)) aD)))):=by
 obtain ⟨c,l⟩:=x
 obtain ⟨hp,hl⟩:0≤c.2.1∧l≠[]:=hp
 have hm:=bPD (show List.length l≤maxLen from hx.2.1)
 have hl0:0<l.length:=List.length_pos_iff.2 hl
 have q1:=(cK (c,(l.length:Int)) ⟨hx.1,show (-9223372036854775808:Int)≤_∧_≤(9223372036854775807:Int) by omega⟩ hp).2
 dsimp only at q1
 delta wH bN;refine dY ?_
 have hlt:((cF (c,(l.length:Int))).1:Int).toNat<l.length:=by omega
 refine fun _=>⟨hp,fun _=>⟨⟨q1.1,by omega⟩,fun _=>⟨?_,q1.2.2.2⟩⟩⟩
 rw[aW hlt]
 exact List.getElem_mem hlt
theorem wB:∃ f:(aN × bK)→(Int × aN),(∀ x,okD (.bPW (.bPW (.slice 5 (.int .u8)) aD) aB) x→(fun x=>0≤x.1.2.1∧x.2≠[]) x→(fun x r=>r.1∈x.2∧0≤r.2.2.1:(aN × bK)→(Int × aN)→Prop) x (f x))∧Con.Holds Tryz.prog { vM with fn:=f }:=iX (C:=vM) aZ (aG eV aT) aO4 (fun x r=>r.1∈x.2∧0≤r.2.2.1:(aN × bK)→(Int × aN)→Prop) aNJ
def gY:(aN × bK)→(Int × aN):=Classical.choose wB
def cM:Con:=⟨48,(.bPW (.bPW (.slice 5 (.int .u8)) aD) aB),(.bPW tI (.bPW (.slice 5 (.int .u8)) aD)),[.box 91 ⟨true,(.bPW (.slice 5 (.int .u8)) aD),[]⟩,.val ⟨false,aB,[]⟩],[⟨false,tI,[0]⟩],false,none,
 ((fun x=>0≤x.1.2.1∧x.2≠[]):(aN × bK)→Prop),
 ((gY):(aN × bK)→(Int × aN))⟩
theorem aNZ:∀ x,okD (.bPW (.bPW (.slice 5 (.int .u8)) aD) aB) x→(fun x=>0≤x.1.2.1∧x.2≠[]) x→(fun x r=>r.1∈x.2∧0≤r.2.2.1:(aN × bK)→(Int × aN)→Prop) x (gY x):=(Classical.choose_spec wB).1
theorem jA:Con.Holds Tryz.prog cM:=(Classical.choose_spec wB).2
theorem kH (x:aN × bK) (hx:okD (.bPW (.bPW (.slice 5 (.int .u8)) aD) aB) x) (hp:(fun x=>0≤x.1.2.1∧x.2≠[]) x):okD (.bPW tI (.bPW (.slice 5 (.int .u8)) aD)) (gY x)∧(fun x r=>r.1∈x.2∧0≤r.2.2.1:(aN × bK)→(Int × aN)→Prop) x (gY x):=⟨jA.ok x hp hx,aNZ x hx hp⟩
def aHE:Con:=⟨131,(.bPW (.slice 5 (.int .u8)) aD),(.bPW tI (.bPW (.slice 5 (.int .u8)) aD)),[.box 91 ⟨true,(.bPW (.slice 5 (.int .u8)) aD),[]⟩],[⟨false,tI,[0]⟩],false,none,
 ((fun x=>0≤x.2.1):(aN)→Prop),
 ((fun _=>aP (.bPW tI (.bPW (.slice 5 (.int .u8)) aD))):(aN)→(Int × aN))⟩
def aH7:T:=.call 0 (.bPY (.bPW (.slice 5 (.int .u8)) aD) tI (.Z 0) (.ci .i64 12)) <|
 .bPX (.cmp .eql .i64) (.bPY tI tI (.p1 tI (.bPW (.slice 5 (.int .u8)) aD) (.Z 1)) (.ci .i64 0)) <|
 .ite (.Z 2) (
  .bPX (.lit 3 tI 6) (bP (.bPW tI (.bPW tI (.bPW tI (.bPW tI aD)))) [(.ci .i64 2147483647),(.ci .i64 (-2147483647)),(.ci .i64 2147483646),(.ci .i64 1),(.ci .i64 (-1)),(.ci .i64 0)]) <|
  .call 1 (.bPY (.bPW (.slice 5 (.int .u8)) aD) aB (aS (.bPW tI (.bPW (.slice 5 (.int .u8)) aD)) 1 (.Z 1)) (.Z 3)) <|
  .ret (.Z 4)) (
  .bPX (.cmp .eql .i64) (.bPY tI tI (.p1 tI (.bPW (.slice 5 (.int .u8)) aD) (.Z 1)) (.ci .i64 1)) <|
  .ite (.Z 3) (
   .call 0 (.bPY (.bPW (.slice 5 (.int .u8)) aD) tI (aS (.bPW tI (.bPW (.slice 5 (.int .u8)) aD)) 1 (.Z 1)) (.ci .i64 4000)) <|
   .bPX (.ar .sub .i64) (.bPY tI tI (.p1 tI (.bPW (.slice 5 (.int .u8)) aD) (.Z 4)) (.ci .i64 2000)) <|
   .bPX (.ar .mul .i64) (.bPY tI tI (.Z 5) (.ci .i64 997)) <|
   .ret (.bPY tI (.bPW (.slice 5 (.int .u8)) aD) (.Z 6) (aS (.bPW tI (.bPW (.slice 5 (.int .u8)) aD)) 1 (.Z 4)))) (
   .bPX (.cmp .eql .i64) (.bPY tI tI (.p1 tI (.bPW (.slice 5 (.int .u8)) aD) (.Z 1)) (.ci .i64 2)) <|
   .ite (.Z 4) (
    .call 0 (.bPY (.bPW (.slice 5 (.int .u8)) aD) tI (aS (.bPW tI (.bPW (.slice 5 (.int .u8)) aD)) 1 (.Z 1)) (.ci .i64 9)) <|
    .bPX (.ar .sub .i64) (.bPY tI tI (.p1 tI (.bPW (.slice 5 (.int .u8)) aD) (.Z 5)) (.ci .i64 4)) <|
    .ret (.bPY tI (.bPW (.slice 5 (.int .u8)) aD) (.Z 6) (aS (.bPW tI (.bPW (.slice 5 (.int .u8)) aD)) 1 (.Z 5)))) (
    .call 0 (.bPY (.bPW (.slice 5 (.int .u8)) aD) tI (aS (.bPW tI (.bPW (.slice 5 (.int .u8)) aD)) 1 (.Z 1)) (.ci .i64 17)) <|
    .bPX (.ar .sub .i64) (.bPY tI tI (.p1 tI (.bPW (.slice 5 (.int .u8)) aD) (.Z 5)) (.ci .i64 8)) <|
    .bPX (.ar .mul .i64) (.bPY tI tI (.Z 6) (.ci .i64 65536)) <|
    .bPX (.lit 3 tI 5) (bP (.bPW tI (.bPW tI (.bPW tI aD))) [(.ci .i64 1),(.ci .i64 1),(.ci .i64 2),(.ci .i64 4),(.ci .i64 3)]) <|
    .call 1 (.bPY (.bPW (.slice 5 (.int .u8)) aD) aB (aS (.bPW tI (.bPW (.slice 5 (.int .u8)) aD)) 1 (.Z 5)) (.Z 8)) <|
    .bPX (.quo .i64) (.bPY tI tI (.Z 7) (.p1 tI (.bPW (.slice 5 (.int .u8)) aD) (.Z 9))) <|
    .ret (.bPY tI (.bPW (.slice 5 (.int .u8)) aD) (.Z 10) (aS (.bPW tI (.bPW (.slice 5 (.int .u8)) aD)) 1 (.Z 9))))))
theorem bEB (f:(aN)→(Int × aN)):bW Tryz.prog [bN,cM] { aHE with fn:=f } false 3000 ⟨[],[(2989,3003,[8],[]),(2981,8005,[26],[])]⟩ = .ok aH7:=by kernel_rfl
theorem bEV (x:aN) (hx:okD (.bPW (.slice 5 (.int .u8)) aD) x) (hp:(fun x=>0≤x.2.1) x):aH7.wp [bN,cM] [⟨(.bPW (.slice 5 (.int .u8)) aD),x⟩] [] (fun v=>(fun x r=>gM r.1=true∧0≤r.2.2.1:(aN)→(Int × aN)→Prop) x (v.as (.bPW tI (.bPW (.slice 5 (.int .u8)) aD)))):=by
 have q1:=cK (x,12) ⟨hx,okI (by omega) (by omega)⟩ hp
 delta aH7 bN cM;refine dY ?_
 refine eD ?_
 refine ⟨hp,fun _=>?_⟩
 generalize cF (x,12)=r at q1 ⊢;obtain ⟨n1,c1⟩:=r;obtain ⟨kq1,uq1⟩:=q1;replace kq1:okD mM c1:=kq1.2;dsimp only at uq1 ⊢
 refine ⟨fun _ _=>⟨⟨uq1.2.2.2,fun h=>by cases h⟩,fun _=>?_⟩,fun _=>⟨fun _=>⟨uq1.2.2.2,fun _=>?_⟩,fun _=>⟨fun _=>⟨uq1.2.2.2,fun _=>?_⟩,fun _=>⟨uq1.2.2.2,fun _=>?_⟩⟩⟩⟩
 ·have b0:=(kH (c1,[2147483647,-2147483647,2147483646,1,-1,0]) ⟨kq1,okL (e:=3) (by show 6≤1000;omega) (by intro y hy;simp at hy;omega)⟩ ⟨uq1.2.2.2,by simp⟩).2
  generalize gY (c1,[2147483647,-2147483647,2147483646,1,-1,0])=r at b0 ⊢
  have:=b0.1
  simp only[List.mem_cons,List.mem_nil_iff,or_false] at this
  exact ⟨(sY _).2 ⟨by omega,by omega⟩,b0.2⟩
 ·have a1:=(cK (c1,4000) ⟨kq1,okI (by omega) (by omega)⟩ uq1.2.2.2).2
  generalize cF (c1,4000)=r at a1 ⊢
  dsimp only at a1
  (repeat' first|intro _|(with_reducible apply And.intro))
  all_goals first|omega|exact (sY _).2 ⟨by omega,by omega⟩
 ·have a1:=(cK (c1,9) ⟨kq1,okI (by omega) (by omega)⟩ uq1.2.2.2).2
  generalize cF (c1,9)=r at a1 ⊢
  dsimp only at a1
  (repeat' first|intro _|(with_reducible apply And.intro))
  all_goals first|omega|exact (sY _).2 ⟨by omega,by omega⟩
 ·have q2:=cK (c1,17) ⟨kq1,okI (by omega) (by omega)⟩ uq1.2.2.2
  generalize cF (c1,17)=r at q2 ⊢;obtain ⟨n2,c2⟩:=r;obtain ⟨kq2,uq2⟩:=q2;replace kq2:okD mM c2:=kq2.2;dsimp only at uq2 ⊢
  refine ⟨by omega,fun _=>⟨by omega,fun _ _=>⟨⟨uq2.2.2.2,fun h=>by cases h⟩,fun _=>?_⟩⟩⟩
  have b0:=(kH (c2,[1,1,2,4,3]) ⟨kq2,okL (e:=3) (by show 5≤1000;omega) (by intro y hy;simp at hy;omega)⟩ ⟨uq2.2.2.2,by simp⟩).2
  generalize gY (c2,[1,1,2,4,3])=r at b0 ⊢
  have:=b0.1
  simp only[List.mem_cons,List.mem_nil_iff,or_false] at this
  have t1:=tdB (a:=(n2 - 8) * 65536) (p:=r.1) (by omega) (by omega)
  (repeat' first|intro _|(with_reducible apply And.intro))
  all_goals first|omega|exact (sY _).2 ⟨by omega,by omega⟩|exact b0.2
theorem aHB:∃ f:(aN)→(Int × aN),(∀ x,okD (.bPW (.slice 5 (.int .u8)) aD) x→(fun x=>0≤x.2.1) x→(fun x r=>gM r.1=true∧0≤r.2.2.1:(aN)→(Int × aN)→Prop) x (f x))∧Con.Holds Tryz.prog { aHE with fn:=f }:=iX (C:=aHE) aZ (aG eV (aG jA aT)) bEB (fun x r=>gM r.1=true∧0≤r.2.2.1:(aN)→(Int × aN)→Prop) bEV
def aCD:(aN)→(Int × aN):=Classical.choose aHB
def pK:Con:=⟨131,(.bPW (.slice 5 (.int .u8)) aD),(.bPW tI (.bPW (.slice 5 (.int .u8)) aD)),[.box 91 ⟨true,(.bPW (.slice 5 (.int .u8)) aD),[]⟩],[⟨false,tI,[0]⟩],false,none,
 ((fun x=>0≤x.2.1):(aN)→Prop),
 ((aCD):(aN)→(Int × aN))⟩
theorem bFJ:∀ x,okD (.bPW (.slice 5 (.int .u8)) aD) x→(fun x=>0≤x.2.1) x→(fun x r=>gM r.1=true∧0≤r.2.2.1:(aN)→(Int × aN)→Prop) x (aCD x):=(Classical.choose_spec aHB).1
theorem aHV:Con.Holds Tryz.prog pK:=(Classical.choose_spec aHB).2
theorem aPJ (x:aN) (hx:okD (.bPW (.slice 5 (.int .u8)) aD) x) (hp:(fun x=>0≤x.2.1) x):okD (.bPW tI (.bPW (.slice 5 (.int .u8)) aD)) (aCD x)∧(fun x r=>gM r.1=true∧0≤r.2.2.1:(aN)→(Int × aN)→Prop) x (aCD x):=⟨aHV.ok x hp hx,bFJ x hx hp⟩
def aH9:Con:=⟨113,(.bPW (.bPW (.slice 5 (.int .u8)) aD) tI),(.bPW aB (.bPW (.slice 5 (.int .u8)) aD)),[.box 91 ⟨true,(.bPW (.slice 5 (.int .u8)) aD),[]⟩,.val ⟨false,tI,[]⟩],[⟨false,aB,[2]⟩],false,none,
 ((fun x=>0≤x.1.2.1∧x.2≤1000):(aN × Int)→Prop),
 ((fun _=>aP (.bPW aB (.bPW (.slice 5 (.int .u8)) aD))):(aN × Int)→(bK × aN))⟩
def aHM:T:=.loop (.bPW tI (.bPW (.slice 5 (.int .u8)) (.bPW tI aI))) (bP (.bPW tI (.bPW (.slice 5 (.int .u8)) (.bPW tI aI))) [(.ci .i64 0),(.p1 (.slice 5 (.int .u8)) aD (.p1 (.bPW (.slice 5 (.int .u8)) aD) tI (.Z 0))),(aH (.bPW (.slice 5 (.int .u8)) aD) 1 (.p1 (.bPW (.slice 5 (.int .u8)) aD) tI (.Z 0))),(aS (.bPW (.slice 5 (.int .u8)) aD) 2 (.p1 (.bPW (.slice 5 (.int .u8)) aD) tI (.Z 0))),(.nl 3 tI)]) <|
 .bPX (.cmp .lss .i64) (.bPY tI tI (.p1 tI (.bPW (.slice 5 (.int .u8)) (.bPW tI aI)) (.Z 1)) (aS (.bPW (.bPW (.slice 5 (.int .u8)) aD) tI) 1 (.Z 0))) <|
 .ite (.Z 2) (
  .call 0 (bP (.bPW (.slice 5 (.int .u8)) aD) [(aH (.bPW tI (.bPW (.slice 5 (.int .u8)) (.bPW tI aI))) 1 (.Z 1)),(aH (.bPW tI (.bPW (.slice 5 (.int .u8)) (.bPW tI aI))) 2 (.Z 1)),(aH (.bPW tI (.bPW (.slice 5 (.int .u8)) (.bPW tI aI))) 3 (.Z 1))]) <|
  .bPX (.lit 3 tI 1) (.p1 tI (.bPW (.slice 5 (.int .u8)) aD) (.Z 3)) <|
  .bPX (.bQ3 3 tI 8) (.bPY aB aB (aS (.bPW tI (.bPW (.slice 5 (.int .u8)) (.bPW tI aI))) 4 (.Z 1)) (.Z 4)) <|
  .bPX (.ar .add .i64) (.bPY tI tI (.p1 tI (.bPW (.slice 5 (.int .u8)) (.bPW tI aI)) (.Z 1)) (.ci .i64 1)) <|
  .bPZ 0 (bP (.bPW tI (.bPW (.slice 5 (.int .u8)) (.bPW tI aI))) [(.Z 6),(aH (.bPW tI (.bPW (.slice 5 (.int .u8)) aD)) 1 (.Z 3)),(aH (.bPW tI (.bPW (.slice 5 (.int .u8)) aD)) 2 (.Z 3)),(aS (.bPW tI (.bPW (.slice 5 (.int .u8)) aD)) 3 (.Z 3)),(.Z 5)])) (
  .ret (bP (.bPW aB (.bPW (.slice 5 (.int .u8)) aD)) [(aS (.bPW tI (.bPW (.slice 5 (.int .u8)) (.bPW tI aI))) 4 (.Z 1)),(aH (.bPW tI (.bPW (.slice 5 (.int .u8)) (.bPW tI aI))) 1 (.Z 1)),(aH (.bPW tI (.bPW (.slice 5 (.int .u8)) (.bPW tI aI))) 2 (.Z 1)),(aH (.bPW tI (.bPW (.slice 5 (.int .u8)) (.bPW tI aI))) 3 (.Z 1))]))
theorem bF9 (f:(aN × Int)→(bK × aN)):bW Tryz.prog [pK] { aH9 with fn:=f } false 3000 ⟨[(2991,1001,[.dr 7,.tm 6 0,.on 5,.bx 1 0,.bx 1 1,.bx 1 2,.sl 2])],[]⟩ = .ok aHM:=by kernel_rfl
theorem bDX (x:aN × Int) (hx:okD (.bPW (.bPW (.slice 5 (.int .u8)) aD) tI) x) (hp:(fun x=>0≤x.1.2.1∧x.2≤1000) x):aHM.wp [pK] [⟨(.bPW (.bPW (.slice 5 (.int .u8)) aD) tI),x⟩] [] (fun v=>(fun x r=>r.1.length=x.2.toNat∧(∀ v∈r.1,gM v=true)∧0≤r.2.2.1:(aN × Int)→(bK × aN)→Prop) x (v.as (.bPW aB (.bPW (.slice 5 (.int .u8)) aD)))):=by
 obtain ⟨c,n⟩:=x
 obtain ⟨hp,hn⟩:0≤c.2.1∧n≤1000:=hp
 delta aHM pK;refine dY ?_
 refine ⟨fun s=>∃ k:Nat,k≤n.toNat∧s.1=(k:Int)∧List.length s.2.2.2.2=k∧(∀ v∈s.2.2.2.2,gM v=true)∧@LE.le Int _ 0 s.2.2.1,fun s=>(n - s.1:Int).toNat,⟨0,Nat.zero_le _,rfl,rfl,fun v h=>by simp at h,hp⟩,fun s hs hI=>?_⟩
 obtain ⟨j,b,i,h,l⟩:=s
 obtain ⟨k,hk,e1,e2,e3,e4⟩:=hI
 change Int at j
 change j=(k:Int) at e1
 subst e1
 change List Int at l
 change l.length=k at e2
 change ∀ v∈l,gM v=true at e3
 change 0≤(i:Int) at e4
 have q:=(aPJ (b,i,h) ⟨hs.2.1,hs.2.2.1,hs.2.2.2.1⟩ e4).2
 try dsimp only
 refine eD ?_
 refine ⟨fun hlt=>⟨e4,fun _ _=>⟨⟨by omega,by unfold maxLen;omega⟩,fun _=>⟨by omega,fun _=>⟨⟨k+1,by omega,pk1,by rw[e2],fun v hv=>?_,q.2⟩,by omega⟩⟩⟩⟩,fun hge=>⟨by omega,e3,e4⟩⟩
 rcases List.mem_append.1 hv with hv|hv
 ·exact e3 v hv
 ·rw[List.mem_singleton] at hv
  rw[hv];exact q.1
theorem aGE:∃ f:(aN × Int)→(bK × aN),(∀ x,okD (.bPW (.bPW (.slice 5 (.int .u8)) aD) tI) x→(fun x=>0≤x.1.2.1∧x.2≤1000) x→(fun x r=>r.1.length=x.2.toNat∧(∀ v∈r.1,gM v=true)∧0≤r.2.2.1:(aN × Int)→(bK × aN)→Prop) x (f x))∧Con.Holds Tryz.prog { aH9 with fn:=f }:=iX (C:=aH9) aZ (aG aHV aT) bF9 (fun x r=>r.1.length=x.2.toNat∧(∀ v∈r.1,gM v=true)∧0≤r.2.2.1:(aN × Int)→(bK × aN)→Prop) bDX
def oY:(aN × Int)→(bK × aN):=Classical.choose aGE
def kI:Con:=⟨113,(.bPW (.bPW (.slice 5 (.int .u8)) aD) tI),(.bPW aB (.bPW (.slice 5 (.int .u8)) aD)),[.box 91 ⟨true,(.bPW (.slice 5 (.int .u8)) aD),[]⟩,.val ⟨false,tI,[]⟩],[⟨false,aB,[2]⟩],false,none,
 ((fun x=>0≤x.1.2.1∧x.2≤1000):(aN × Int)→Prop),
 ((oY):(aN × Int)→(bK × aN))⟩
theorem bFN:∀ x,okD (.bPW (.bPW (.slice 5 (.int .u8)) aD) tI) x→(fun x=>0≤x.1.2.1∧x.2≤1000) x→(fun x r=>r.1.length=x.2.toNat∧(∀ v∈r.1,gM v=true)∧0≤r.2.2.1:(aN × Int)→(bK × aN)→Prop) x (oY x):=(Classical.choose_spec aGE).1
theorem aCJ:Con.Holds Tryz.prog kI:=(Classical.choose_spec aGE).2
theorem rT (x:aN × Int) (hx:okD (.bPW (.bPW (.slice 5 (.int .u8)) aD) tI) x) (hp:(fun x=>0≤x.1.2.1∧x.2≤1000) x):okD (.bPW aB (.bPW (.slice 5 (.int .u8)) aD)) (oY x)∧(fun x r=>r.1.length=x.2.toNat∧(∀ v∈r.1,gM v=true)∧0≤r.2.2.1:(aN × Int)→(bK × aN)→Prop) x (oY x):=⟨aCJ.ok x hp hx,bFN x hx hp⟩
def aGP:Con:=⟨114,(.bPW (.slice 5 (.int .u8)) aD),(.bPW tI (.bPW (.slice 5 (.int .u8)) aD)),[.box 91 ⟨true,(.bPW (.slice 5 (.int .u8)) aD),[]⟩],[⟨false,tI,[0]⟩],false,none,
 ((fun x=>0≤x.2.1):(aN)→Prop),
 ((fun _=>aP (.bPW tI (.bPW (.slice 5 (.int .u8)) aD))):(aN)→(Int × aN))⟩
def aGH:T:=.call 0 (.bPY (.bPW (.slice 5 (.int .u8)) aD) tI (.Z 0) (.ci .i64 8)) <|.ite (.p1 .bool (.bPW (.slice 5 (.int .u8)) aD) (.Z 1)) (
 .bPX (.lit 3 tI 4) (bP (.bPW tI (.bPW tI aD)) [(.ci .i64 2147483648),(.ci .i64 (-2147483648)),(.ci .i64 9223372036854775807),(.ci .i64 (-9223372036854775807))]) <|
 .call 1 (.bPY (.bPW (.slice 5 (.int .u8)) aD) aB (aS (.bPW .bool (.bPW (.slice 5 (.int .u8)) aD)) 1 (.Z 1)) (.Z 2)) <|
 .ret (.Z 3)) (
 .call 2 (aS (.bPW .bool (.bPW (.slice 5 (.int .u8)) aD)) 1 (.Z 1)) <|
 .ret (.Z 2))
theorem bFV (f:(aN)→(Int × aN)):bW Tryz.prog [iV,cM,pK] { aGP with fn:=f } false 3000 ⟨[],[(2992,3002,[6],[])]⟩ = .ok aGH:=by kernel_rfl
theorem bDD (x:aN) (hx:okD (.bPW (.slice 5 (.int .u8)) aD) x) (hp:(fun x=>0≤x.2.1) x):aGH.wp [iV,cM,pK] [⟨(.bPW (.slice 5 (.int .u8)) aD),x⟩] [] (fun v=>(fun x r=>0≤r.2.2.1:(aN)→(Int × aN)→Prop) x (v.as (.bPW tI (.bPW (.slice 5 (.int .u8)) aD)))):=by
 have q1:=aE9 (x,8) ⟨hx,okI (by omega) (by omega)⟩ hp
 delta aGH iV cM pK;refine dY ?_
 refine eD ?_
 refine ⟨hp,fun _=>?_⟩
 generalize nB (x,8)=r at q1 ⊢;obtain ⟨n1,c1⟩:=r;obtain ⟨k1,u1⟩:=q1;replace k1:okD mM c1:=k1.2;dsimp only at u1 ⊢
 refine ⟨fun _ _=>⟨⟨u1,fun h=>by cases h⟩,fun _=>?_⟩,fun _=>⟨u1,fun _=>?_⟩⟩
 ·exact (kH (c1,[2147483648,-2147483648,9223372036854775807,-9223372036854775807]) ⟨k1,okL (e:=3) (by show 4≤1000;omega) (by intro y hy;simp at hy;omega)⟩ ⟨u1,by simp⟩).2.2
 ·exact (aPJ c1 k1 u1).2.2
theorem aGX:∃ f:(aN)→(Int × aN),(∀ x,okD (.bPW (.slice 5 (.int .u8)) aD) x→(fun x=>0≤x.2.1) x→(fun x r=>0≤r.2.2.1:(aN)→(Int × aN)→Prop) x (f x))∧Con.Holds Tryz.prog { aGP with fn:=f }:=iX (C:=aGP) aZ (aG yR (aG jA (aG aHV aT))) bFV (fun x r=>0≤r.2.2.1:(aN)→(Int × aN)→Prop) bDD
def aC6:(aN)→(Int × aN):=Classical.choose aGX
def pH:Con:=⟨114,(.bPW (.slice 5 (.int .u8)) aD),(.bPW tI (.bPW (.slice 5 (.int .u8)) aD)),[.box 91 ⟨true,(.bPW (.slice 5 (.int .u8)) aD),[]⟩],[⟨false,tI,[0]⟩],false,none,
 ((fun x=>0≤x.2.1):(aN)→Prop),
 ((aC6):(aN)→(Int × aN))⟩
theorem bE4:∀ x,okD (.bPW (.slice 5 (.int .u8)) aD) x→(fun x=>0≤x.2.1) x→(fun x r=>0≤r.2.2.1:(aN)→(Int × aN)→Prop) x (aC6 x):=(Classical.choose_spec aGX).1
theorem aGV:Con.Holds Tryz.prog pH:=(Classical.choose_spec aGX).2
theorem aP3 (x:aN) (hx:okD (.bPW (.slice 5 (.int .u8)) aD) x) (hp:(fun x=>0≤x.2.1) x):okD (.bPW tI (.bPW (.slice 5 (.int .u8)) aD)) (aC6 x)∧(fun x r=>0≤r.2.2.1:(aN)→(Int × aN)→Prop) x (aC6 x):=⟨aGV.ok x hp hx,bE4 x hx hp⟩
def aGB:Con:=⟨84,(.bPW (.slice 5 (.int .u8)) aD),(.bPW aB (.bPW (.slice 5 (.int .u8)) aD)),[.box 91 ⟨true,(.bPW (.slice 5 (.int .u8)) aD),[]⟩],[⟨false,aB,[2]⟩],false,none,
 ((fun x=>0≤x.2.1):(aN)→Prop),
 ((fun _=>aP (.bPW aB (.bPW (.slice 5 (.int .u8)) aD))):(aN)→(bK × aN))⟩
def aH6:T:=.call 0 (.bPY (.bPW (.slice 5 (.int .u8)) aD) tI (.Z 0) (.ci .i64 4)) <|
 .bPX (.ar .add .i64) (.bPY tI tI (.ci .i64 1) (.p1 tI (.bPW (.slice 5 (.int .u8)) aD) (.Z 1))) <|
 .call 1 (.bPY (.bPW (.slice 5 (.int .u8)) aD) tI (aS (.bPW tI (.bPW (.slice 5 (.int .u8)) aD)) 1 (.Z 1)) (.Z 2)) <|
 .call 0 (.bPY (.bPW (.slice 5 (.int .u8)) aD) tI (aS (.bPW aB (.bPW (.slice 5 (.int .u8)) aD)) 1 (.Z 3)) (.ci .i64 16)) <|
 .bPX (.cmp .eql .i64) (.bPY tI tI (.p1 tI (.bPW (.slice 5 (.int .u8)) aD) (.Z 4)) (.ci .i64 0)) <|
 .ite (.Z 5) (
  .call 2 (aS (.bPW tI (.bPW (.slice 5 (.int .u8)) aD)) 1 (.Z 4)) <|
  .bPX (.bQ1 3 tI) (.bPY aB tI (.p1 aB (.bPW (.slice 5 (.int .u8)) aD) (.Z 3)) (.ci .i64 0)) <|
  .bPX (.bQ4 3 tI) (bP (.bPW aB aD) [(.p1 aB (.bPW (.slice 5 (.int .u8)) aD) (.Z 3)),(.ci .i64 0),(.p1 tI (.bPW (.slice 5 (.int .u8)) aD) (.Z 6))]) <|
  .ret (.bPY aB (.bPW (.slice 5 (.int .u8)) aD) (.Z 8) (aS (.bPW tI (.bPW (.slice 5 (.int .u8)) aD)) 1 (.Z 6)))) (
  .bPX (.cmp .eql .i64) (.bPY tI tI (.p1 tI (.bPW (.slice 5 (.int .u8)) aD) (.Z 4)) (.ci .i64 1)) <|
  .ite (.Z 6) (
   .bPX (.lit 3 tI 3) (bP (.bPW tI aD) [(.ci .i64 0),(.ci .i64 6),(.ci .i64 7)]) <|
   .call 3 (.bPY (.bPW (.slice 5 (.int .u8)) aD) aB (aS (.bPW tI (.bPW (.slice 5 (.int .u8)) aD)) 1 (.Z 4)) (.Z 7)) <|
   .call 1 (.bPY (.bPW (.slice 5 (.int .u8)) aD) tI (aS (.bPW tI (.bPW (.slice 5 (.int .u8)) aD)) 1 (.Z 8)) (.p1 tI (.bPW (.slice 5 (.int .u8)) aD) (.Z 8))) <|
   .ret (.Z 9)) (
   .ret (.bPY aB (.bPW (.slice 5 (.int .u8)) aD) (.p1 aB (.bPW (.slice 5 (.int .u8)) aD) (.Z 3)) (aS (.bPW tI (.bPW (.slice 5 (.int .u8)) aD)) 1 (.Z 4)))))
theorem bET (f:(aN)→(bK × aN)):bW Tryz.prog [bN,kI,pH,cM] { aGB with fn:=f } false 3000 ⟨[],[(2984,6007,[21],[])]⟩ = .ok aH6:=by kernel_rfl
theorem bEF (x:aN) (hx:okD (.bPW (.slice 5 (.int .u8)) aD) x) (hp:(fun x=>0≤x.2.1) x):aH6.wp [bN,kI,pH,cM] [⟨(.bPW (.slice 5 (.int .u8)) aD),x⟩] [] (fun v=>(fun x r=>r.1.length≤7∧0≤r.2.2.1:(aN)→(bK × aN)→Prop) x (v.as (.bPW aB (.bPW (.slice 5 (.int .u8)) aD)))):=by
 have q1:=cK (x,4) ⟨hx,okI (by omega) (by omega)⟩ hp
 delta aH6 bN kI pH cM;refine dY ?_
 refine eD ?_
 refine ⟨hp,fun _=>?_⟩
 generalize cF (x,4)=r at q1 ⊢;obtain ⟨n1,c1⟩:=r;obtain ⟨kq1,uq1⟩:=q1;replace kq1:okD mM c1:=kq1.2;dsimp only at uq1 ⊢
 refine ⟨by omega,fun _=>⟨⟨uq1.2.2.2,by omega⟩,fun _=>?_⟩⟩
 have q2:=rT (c1,1+n1) ⟨kq1,okI (by omega) (by omega)⟩ ⟨uq1.2.2.2,by show 1+n1≤1000;omega⟩
 generalize oY (c1,1+n1)=r at q2 ⊢;obtain ⟨l2,c2⟩:=r;obtain ⟨kq2,uq2⟩:=q2;replace kq2:okD mM c2:=kq2.2;dsimp only at uq2 ⊢
 refine ⟨uq2.2.2,fun _=>?_⟩
 have q3:=cK (c2,16) ⟨kq2,okI (by omega) (by omega)⟩ uq2.2.2
 generalize cF (c2,16)=r at q3 ⊢;obtain ⟨n3,c3⟩:=r;obtain ⟨kq3,uq3⟩:=q3;replace kq3:okD mM c3:=kq3.2;dsimp only at uq3 ⊢
 have hl2:List.length l2≤4:=by have:=uq2.1;omega
 refine ⟨fun _=>⟨uq3.2.2.2,fun _=>?_⟩,fun _=>⟨fun _ _=>⟨⟨uq3.2.2.2,fun h=>by cases h⟩,fun _=>?_⟩,fun _=>⟨by omega,uq3.2.2.2⟩⟩⟩
 ·have q4:=(aP3 c3 kq3 uq3.2.2.2).2
  (repeat' first|intro _|(with_reducible apply And.intro))
  all_goals first|omega|exact q4|(rw[List.length_set];omega)
 ·have q5:=kH (c3,[0,6,7]) ⟨kq3,okL (e:=3) (by show 3≤1000;omega) (by intro y hy;simp at hy;omega)⟩ ⟨uq3.2.2.2,by simp⟩
  generalize gY (c3,[0,6,7])=r at q5 ⊢;obtain ⟨n5,c5⟩:=r;obtain ⟨k5,u5⟩:=q5;dsimp only at u5 ⊢
  have m5:=u5.1
  simp only[List.mem_cons,List.mem_nil_iff,or_false] at m5
  refine ⟨⟨u5.2,by omega⟩,fun _=>?_⟩
  have q6:=(rT (c5,n5) ⟨k5.2,k5.1⟩ ⟨u5.2,by show n5≤1000;omega⟩).2
  dsimp only at q6
  exact ⟨by rw[q6.1];omega,q6.2.2⟩
theorem aH1:∃ f:(aN)→(bK × aN),(∀ x,okD (.bPW (.slice 5 (.int .u8)) aD) x→(fun x=>0≤x.2.1) x→(fun x r=>r.1.length≤7∧0≤r.2.2.1:(aN)→(bK × aN)→Prop) x (f x))∧Con.Holds Tryz.prog { aGB with fn:=f }:=iX (C:=aGB) aZ (aG eV (aG aCJ (aG aGV (aG jA aT)))) bET (fun x r=>r.1.length≤7∧0≤r.2.2.1:(aN)→(bK × aN)→Prop) bEF
def wR:(aN)→(bK × aN):=Classical.choose aH1
def aCI:Con:=⟨84,(.bPW (.slice 5 (.int .u8)) aD),(.bPW aB (.bPW (.slice 5 (.int .u8)) aD)),[.box 91 ⟨true,(.bPW (.slice 5 (.int .u8)) aD),[]⟩],[⟨false,aB,[2]⟩],false,none,
 ((fun x=>0≤x.2.1):(aN)→Prop),
 ((wR):(aN)→(bK × aN))⟩
theorem bDV:∀ x,okD (.bPW (.slice 5 (.int .u8)) aD) x→(fun x=>0≤x.2.1) x→(fun x r=>r.1.length≤7∧0≤r.2.2.1:(aN)→(bK × aN)→Prop) x (wR x):=(Classical.choose_spec aH1).1
theorem aQ3:Con.Holds Tryz.prog aCI:=(Classical.choose_spec aH1).2
theorem bE6 (x:aN) (hx:okD (.bPW (.slice 5 (.int .u8)) aD) x) (hp:(fun x=>0≤x.2.1) x):okD (.bPW aB (.bPW (.slice 5 (.int .u8)) aD)) (wR x)∧(fun x r=>r.1.length≤7∧0≤r.2.2.1:(aN)→(bK × aN)→Prop) x (wR x):=⟨aQ3.ok x hp hx,bDV x hx hp⟩
def aMV:Con:=⟨112,(.bPW (.bPW (.slice 5 (.int .u8)) aD) tI),(.bPW bU (.bPW (.slice 5 (.int .u8)) aD)),[.box 91 ⟨true,(.bPW (.slice 5 (.int .u8)) aD),[]⟩,.val ⟨false,tI,[]⟩],[⟨true,bU,[0,0,0,2]⟩],false,none,
 ((fun x=>0≤x.1.2.1∧1≤x.2∧x.2≤6):(aN × Int)→Prop),
 ((fun _=>aP (.bPW bU (.bPW (.slice 5 (.int .u8)) aD))):(aN × Int)→(cZ × aN))⟩
def aJF:T:=.call 0 (.bPY (.bPW (.slice 5 (.int .u8)) aD) tI (.p1 (.bPW (.slice 5 (.int .u8)) aD) tI (.Z 0)) (.ci .i64 5)) <|
 .bPX (.ar .add .i64) (.bPY tI tI (.ci .i64 1) (.p1 tI (.bPW (.slice 5 (.int .u8)) aD) (.Z 1))) <|
 .bPX (.cmp .eql .i64) (.bPY tI tI (.Z 2) (.ci .i64 1)) <|
 .ite (.Z 3) (
  .call 0 (.bPY (.bPW (.slice 5 (.int .u8)) aD) tI (aS (.bPW tI (.bPW (.slice 5 (.int .u8)) aD)) 1 (.Z 1)) (.ci .i64 3)) <|
  .bPX (.ar .add .i64) (.bPY tI tI (.ci .i64 1) (.p1 tI (.bPW (.slice 5 (.int .u8)) aD) (.Z 4))) <|
  .call 1 (bP bU [(.Z 2),(aS (.bPW (.bPW (.slice 5 (.int .u8)) aD) tI) 1 (.Z 0)),(.Z 5),(.nl 3 tI)]) <|
  .call 2 (.bPY (.bPW (.slice 5 (.int .u8)) aD) tI (aS (.bPW tI (.bPW (.slice 5 (.int .u8)) aD)) 1 (.Z 4)) (.Z 6)) <|
  .ret (.bPY bU (.bPW (.slice 5 (.int .u8)) aD) (bP bU [(.Z 2),(aS (.bPW (.bPW (.slice 5 (.int .u8)) aD) tI) 1 (.Z 0)),(.Z 5),(.p1 aB (.bPW (.slice 5 (.int .u8)) aD) (.Z 7))]) (aS (.bPW aB (.bPW (.slice 5 (.int .u8)) aD)) 1 (.Z 7)))) (
  .call 1 (bP bU [(.Z 2),(aS (.bPW (.bPW (.slice 5 (.int .u8)) aD) tI) 1 (.Z 0)),(aS (.bPW (.bPW (.slice 5 (.int .u8)) aD) tI) 1 (.Z 0)),(.nl 3 tI)]) <|
  .call 2 (.bPY (.bPW (.slice 5 (.int .u8)) aD) tI (aS (.bPW tI (.bPW (.slice 5 (.int .u8)) aD)) 1 (.Z 1)) (.Z 4)) <|
  .ret (.bPY bU (.bPW (.slice 5 (.int .u8)) aD) (bP bU [(.Z 2),(aS (.bPW (.bPW (.slice 5 (.int .u8)) aD) tI) 1 (.Z 0)),(aS (.bPW (.bPW (.slice 5 (.int .u8)) aD) tI) 1 (.Z 0)),(.p1 aB (.bPW (.slice 5 (.int .u8)) aD) (.Z 5))]) (aS (.bPW aB (.bPW (.slice 5 (.int .u8)) aD)) 1 (.Z 5))))
theorem bJN (f:(aN × Int)→(cZ × aN)):bW Tryz.prog [bN,lD,kI] { aMV with fn:=f } false 3000 ⟨[],[]⟩ = .ok aJF:=by kernel_rfl
theorem bHP (x:aN × Int) (hx:okD (.bPW (.bPW (.slice 5 (.int .u8)) aD) tI) x) (hp:(fun x=>0≤x.1.2.1∧1≤x.2∧x.2≤6) x):aJF.wp [bN,lD,kI] [⟨(.bPW (.bPW (.slice 5 (.int .u8)) aD) tI),x⟩] [] (fun v=>(fun x r=>(opB r.1=true∧r.1.2.1=x.2)∧0≤r.2.2.1:(aN × Int)→(cZ × aN)→Prop) x (v.as (.bPW bU (.bPW (.slice 5 (.int .u8)) aD)))):=by
 obtain ⟨c,n⟩:=x
 obtain ⟨hp,hn1,hn2⟩:0≤c.2.1∧1≤n∧n≤6:=hp
 have q1:=cK (c,5) ⟨hx.1,okI (by omega) (by omega)⟩ hp
 delta aJF bN lD kI;refine dY ?_
 refine eD ?_
 refine ⟨hp,fun _=>?_⟩
 generalize cF (c,5)=r at q1 ⊢;obtain ⟨n1,c1⟩:=r;obtain ⟨k1,u1⟩:=q1;replace k1:okD mM c1:=k1.2;dsimp only at u1 ⊢
 refine ⟨by omega,fun _=>⟨fun h1=>⟨u1.2.2.2,fun _=>?_⟩,fun h1 hs=>?_⟩⟩
 ·have q2:=cK (c1,3) ⟨k1,okI (by omega) (by omega)⟩ u1.2.2.2
  generalize cF (c1,3)=r at q2 ⊢;obtain ⟨n2,c2⟩:=r;obtain ⟨k2,u2⟩:=q2;replace k2:okD mM c2:=k2.2;dsimp only at u2 ⊢
  have hz:=bNB (k:=1+n1) (i:=n) (o:=1+n2) hn1 hn2 (by omega) (by omega)
  refine ⟨by omega,fun _ hs=>⟨⟨u2.2.2.2,by omega⟩,fun _=>?_⟩⟩
  have q3:=(rT (c2,dZ (1+n1,n,1+n2,[])) ⟨k2,hs⟩ ⟨u2.2.2.2,by show dZ (1+n1,n,1+n2,[])≤1000;omega⟩).2
  exact ⟨⟨bJC (by omega) (by omega) hn1 hn2 (by omega) (by omega) (by omega) q3.1 q3.2.1,trivial⟩,q3.2.2⟩
 ·have hz:=bNB (k:=1+n1) (i:=n) (o:=n) hn1 hn2 hn1 hn2
  refine ⟨⟨u1.2.2.2,by omega⟩,fun _=>?_⟩
  have q3:=(rT (c1,dZ (1+n1,n,n,[])) ⟨k1,hs⟩ ⟨u1.2.2.2,by show dZ (1+n1,n,n,[])≤1000;omega⟩).2
  exact ⟨⟨bJC (by omega) (by omega) hn1 hn2 hn1 hn2 (fun _=>rfl) q3.1 q3.2.1,trivial⟩,q3.2.2⟩
theorem aK0:∃ f:(aN × Int)→(cZ × aN),(∀ x,okD (.bPW (.bPW (.slice 5 (.int .u8)) aD) tI) x→(fun x=>0≤x.1.2.1∧1≤x.2∧x.2≤6) x→(fun x r=>(opB r.1=true∧r.1.2.1=x.2)∧0≤r.2.2.1:(aN × Int)→(cZ × aN)→Prop) x (f x))∧Con.Holds Tryz.prog { aMV with fn:=f }:=iX (C:=aMV) aZ (aG eV (aG aL2 (aG aCJ aT))) bJN (fun x r=>(opB r.1=true∧r.1.2.1=x.2)∧0≤r.2.2.1:(aN × Int)→(cZ × aN)→Prop) bHP
def wM:(aN × Int)→(cZ × aN):=Classical.choose aK0
def sP:Con:=⟨112,(.bPW (.bPW (.slice 5 (.int .u8)) aD) tI),(.bPW bU (.bPW (.slice 5 (.int .u8)) aD)),[.box 91 ⟨true,(.bPW (.slice 5 (.int .u8)) aD),[]⟩,.val ⟨false,tI,[]⟩],[⟨true,bU,[0,0,0,2]⟩],false,none,
 ((fun x=>0≤x.1.2.1∧1≤x.2∧x.2≤6):(aN × Int)→Prop),
 ((wM):(aN × Int)→(cZ × aN))⟩
theorem bH5:∀ x,okD (.bPW (.bPW (.slice 5 (.int .u8)) aD) tI) x→(fun x=>0≤x.1.2.1∧1≤x.2∧x.2≤6) x→(fun x r=>(opB r.1=true∧r.1.2.1=x.2)∧0≤r.2.2.1:(aN × Int)→(cZ × aN)→Prop) x (wM x):=(Classical.choose_spec aK0).1
theorem aK3:Con.Holds Tryz.prog sP:=(Classical.choose_spec aK0).2
theorem aV9 (x:aN × Int) (hx:okD (.bPW (.bPW (.slice 5 (.int .u8)) aD) tI) x) (hp:(fun x=>0≤x.1.2.1∧1≤x.2∧x.2≤6) x):okD (.bPW bU (.bPW (.slice 5 (.int .u8)) aD)) (wM x)∧(fun x r=>(opB r.1=true∧r.1.2.1=x.2)∧0≤r.2.2.1:(aN × Int)→(cZ × aN)→Prop) x (wM x):=⟨aK3.ok x hp hx,bH5 x hx hp⟩
def aAA:Con:=⟨78,(.bPW (.slice 5 (.int .u8)) aD),(.bPW aE (.bPW (.slice 5 (.int .u8)) aD)),[.box 91 ⟨true,(.bPW (.slice 5 (.int .u8)) aD),[]⟩],[⟨true,aE,[2]⟩],false,none,
 ((fun x=>0≤x.2.1):(aN)→Prop),
 ((fun _=>aP (.bPW aE (.bPW (.slice 5 (.int .u8)) aD))):(aN)→(bE × aN))⟩
def zT:T:=.call 0 (.bPY (.bPW (.slice 5 (.int .u8)) aD) tI (.Z 0) (.ci .i64 3)) <|
 .bPX (.ar .add .i64) (.bPY tI tI (.ci .i64 1) (.p1 tI (.bPW (.slice 5 (.int .u8)) aD) (.Z 1))) <|
 .call 0 (.bPY (.bPW (.slice 5 (.int .u8)) aD) tI (aS (.bPW tI (.bPW (.slice 5 (.int .u8)) aD)) 1 (.Z 1)) (.ci .i64 6)) <|
 .bPX (.ar .add .i64) (.bPY tI tI (.ci .i64 1) (.p1 tI (.bPW (.slice 5 (.int .u8)) aD) (.Z 3))) <|
 .loop (.bPW tI (.bPW tI (.bPW (.slice 5 (.int .u8)) (.bPW tI (.bPW tI aE))))) (bP (.bPW tI (.bPW tI (.bPW (.slice 5 (.int .u8)) (.bPW tI (.bPW tI aE))))) [(.Z 4),(.Z 2),(aH (.bPW tI (.bPW (.slice 5 (.int .u8)) aD)) 1 (.Z 3)),(aH (.bPW tI (.bPW (.slice 5 (.int .u8)) aD)) 2 (.Z 3)),(aS (.bPW tI (.bPW (.slice 5 (.int .u8)) aD)) 3 (.Z 3)),(.nl 80 bU)]) <|
  .bPX (.cmp .gtr .i64) (.bPY tI tI (.p1 tI (.bPW tI (.bPW (.slice 5 (.int .u8)) (.bPW tI (.bPW tI aE)))) (.Z 5)) (.ci .i64 0)) <|
  .ite (.Z 6) (
   .call 1 (.bPY (.bPW (.slice 5 (.int .u8)) aD) tI (bP (.bPW (.slice 5 (.int .u8)) aD) [(aH (.bPW tI (.bPW tI (.bPW (.slice 5 (.int .u8)) (.bPW tI (.bPW tI aE))))) 2 (.Z 5)),(aH (.bPW tI (.bPW tI (.bPW (.slice 5 (.int .u8)) (.bPW tI (.bPW tI aE))))) 3 (.Z 5)),(aH (.bPW tI (.bPW tI (.bPW (.slice 5 (.int .u8)) (.bPW tI (.bPW tI aE))))) 4 (.Z 5))]) (aH (.bPW tI (.bPW tI (.bPW (.slice 5 (.int .u8)) (.bPW tI (.bPW tI aE))))) 1 (.Z 5))) <|
   .bPX (.lit 80 bU 1) (.p1 bU (.bPW (.slice 5 (.int .u8)) aD) (.Z 7)) <|
   .bPX (.bQ3 80 bU 48) (.bPY aE aE (aS (.bPW tI (.bPW tI (.bPW (.slice 5 (.int .u8)) (.bPW tI (.bPW tI aE))))) 5 (.Z 5)) (.Z 8)) <|
   .bPX (.ar .sub .i64) (.bPY tI tI (.p1 tI (.bPW tI (.bPW (.slice 5 (.int .u8)) (.bPW tI (.bPW tI aE)))) (.Z 5)) (.ci .i64 1)) <|
   .bPZ 0 (bP (.bPW tI (.bPW tI (.bPW (.slice 5 (.int .u8)) (.bPW tI (.bPW tI aE))))) [(.Z 10),(aH bU 2 (.p1 bU (.bPW (.slice 5 (.int .u8)) aD) (.Z 7))),(aH (.bPW bU (.bPW (.slice 5 (.int .u8)) aD)) 1 (.Z 7)),(aH (.bPW bU (.bPW (.slice 5 (.int .u8)) aD)) 2 (.Z 7)),(aS (.bPW bU (.bPW (.slice 5 (.int .u8)) aD)) 3 (.Z 7)),(.Z 9)])) (
   .ret (bP (.bPW aE (.bPW (.slice 5 (.int .u8)) aD)) [(aS (.bPW tI (.bPW tI (.bPW (.slice 5 (.int .u8)) (.bPW tI (.bPW tI aE))))) 5 (.Z 5)),(aH (.bPW tI (.bPW tI (.bPW (.slice 5 (.int .u8)) (.bPW tI (.bPW tI aE))))) 2 (.Z 5)),(aH (.bPW tI (.bPW tI (.bPW (.slice 5 (.int .u8)) (.bPW tI (.bPW tI aE))))) 3 (.Z 5)),(aH (.bPW tI (.bPW tI (.bPW (.slice 5 (.int .u8)) (.bPW tI (.bPW tI aE))))) 4 (.Z 5))]))
theorem aW6 (f:(aN)→(bE × aN)):bW Tryz.prog [bN,sP] { aAA with fn:=f } false 3000 ⟨[(2989,1005,jV 13 7++[.tm 5 0,.tm 4 0,.bx 1 0,.bx 1 1,.bx 1 2,.sl 6])],[(2978,3008,[],[7])]⟩ = .ok zT:=by kernel_rfl
theorem aVY (x:aN) (hx:okD (.bPW (.slice 5 (.int .u8)) aD) x) (hp:(fun x=>0≤x.2.1) x):zT.wp [bN,sP] [⟨(.bPW (.slice 5 (.int .u8)) aD),x⟩] [] (fun v=>(fun x r=>(1≤r.1.length∧bO r.1=true)∧r.1.length≤6∧(∀ o∈r.1,opB o=true)∧0≤r.2.2.1:(aN)→(bE × aN)→Prop) x (v.as (.bPW aE (.bPW (.slice 5 (.int .u8)) aD)))):=by
 have q1:=cK (x,3) ⟨hx,okI (by omega) (by omega)⟩ hp
 delta zT bN sP;refine dY ?_
 refine eD ?_
 refine ⟨hp,fun _=>?_⟩
 generalize cF (x,3)=r at q1 ⊢;obtain ⟨n1,c1⟩:=r;obtain ⟨k1,u1⟩:=q1;replace k1:okD mM c1:=k1.2;dsimp only at u1 ⊢
 refine ⟨by omega,fun _=>⟨u1.2.2.2,fun _=>?_⟩⟩
 have q2:=cK (c1,6) ⟨k1,okI (by omega) (by omega)⟩ u1.2.2.2
 generalize cF (c1,6)=r at q2 ⊢;obtain ⟨n2,c2⟩:=r;obtain ⟨k2,u2⟩:=q2;replace k2:okD mM c2:=k2.2;dsimp only at u2 ⊢
 refine ⟨by omega,fun _=>⟨fun s=>@LE.le Int _ 0 s.1∧(List.length s.2.2.2.2.2:Int)+s.1=1+n2∧@LE.le Int _ 1 s.2.1∧@LE.le Int _ s.2.1 6∧((∀ o∈s.2.2.2.2.2,opB o=true)∧chB s.2.2.2.2.2 s.2.1)∧@LE.le Int _ 0 s.2.2.2.1,fun s=>(s.1:Int).toNat,⟨by show 0≤1+n2;omega,by show (0:Int)+(1+n2)=1+n2;omega,by show 1≤1+n1;omega,by show 1+n1≤6;omega,⟨fun o h=>by simp at h,fun i h=>absurd h (Nat.not_lt_zero _),fun h=>absurd h (Nat.lt_irrefl _)⟩,u2.2.2.2⟩,fun s hs hI=>?_⟩⟩
 obtain ⟨j,g,b,i,h,l⟩:=s
 obtain ⟨e1,e2,e3,e4,⟨e5,e7⟩,e6⟩:=hI
 change Int at j
 change Int at g
 change List cZ at l
 change 0≤j at e1
 change (l.length:Int)+j=1+n2 at e2
 change 1≤g at e3
 change g≤6 at e4
 change ∀ o∈l,opB o=true at e5
 change chB l g at e7
 have q:=(aV9 ((b,i,h),g) ⟨⟨hs.2.2.1,hs.2.2.2.1,hs.2.2.2.2.1⟩,hs.2.1⟩ ⟨e6,e3,e4⟩).2
 try dsimp only
 refine ⟨fun hlt=>⟨⟨e6,e3,e4⟩,fun _ _=>⟨⟨by omega,by unfold maxLen;omega⟩,fun _=>⟨by omega,fun _=>⟨⟨by omega,?_,?_,?_,⟨fun o ho=>?_,bFX e7 q.1.1 q.1.2⟩,q.2⟩,?_⟩⟩⟩⟩,fun hge=>?_⟩
 ·show (((l++[(wM ((b,i,h),g)).fst]).length:Nat):Int)+(j - 1)=1+n2
  rw[List.length_append];simp;omega
 ·obtain ⟨⟨_,_,_,_,j1,j2,_⟩,_⟩:=(eH _).1 q.1.1
  exact j1
 ·obtain ⟨⟨_,_,_,_,j1,j2,_⟩,_⟩:=(eH _).1 q.1.1
  exact j2
 ·rcases List.mem_append.1 ho with ho|ho
  ·exact e5 o ho
  ·rw[List.mem_singleton] at ho
   rw[ho];exact q.1.1
 ·show (j - 1).toNat<j.toNat
  omega
 ·have hj:j≤0:=by simpa using hge
  exact ⟨⟨by omega,(bM l).2 ⟨by omega,by omega,e7.1⟩⟩,by omega,e5,e6⟩
theorem aA1:∃ f:(aN)→(bE × aN),(∀ x,okD (.bPW (.slice 5 (.int .u8)) aD) x→(fun x=>0≤x.2.1) x→(fun x r=>(1≤r.1.length∧bO r.1=true)∧r.1.length≤6∧(∀ o∈r.1,opB o=true)∧0≤r.2.2.1:(aN)→(bE × aN)→Prop) x (f x))∧Con.Holds Tryz.prog { aAA with fn:=f }:=iX (C:=aAA) aZ (aG eV (aG aK3 aT)) aW6 (fun x r=>(1≤r.1.length∧bO r.1=true)∧r.1.length≤6∧(∀ o∈r.1,opB o=true)∧0≤r.2.2.1:(aN)→(bE × aN)→Prop) aVY
def nP:(aN)→(bE × aN):=Classical.choose aA1
def lJ:Con:=⟨78,(.bPW (.slice 5 (.int .u8)) aD),(.bPW aE (.bPW (.slice 5 (.int .u8)) aD)),[.box 91 ⟨true,(.bPW (.slice 5 (.int .u8)) aD),[]⟩],[⟨true,aE,[2]⟩],false,none,
 ((fun x=>0≤x.2.1):(aN)→Prop),
 ((nP):(aN)→(bE × aN))⟩
theorem aUC:∀ x,okD (.bPW (.slice 5 (.int .u8)) aD) x→(fun x=>0≤x.2.1) x→(fun x r=>(1≤r.1.length∧bO r.1=true)∧r.1.length≤6∧(∀ o∈r.1,opB o=true)∧0≤r.2.2.1:(aN)→(bE × aN)→Prop) x (nP x):=(Classical.choose_spec aA1).1
theorem aBJ:Con.Holds Tryz.prog lJ:=(Classical.choose_spec aA1).2
theorem aI2 (x:aN) (hx:okD (.bPW (.slice 5 (.int .u8)) aD) x) (hp:(fun x=>0≤x.2.1) x):okD (.bPW aE (.bPW (.slice 5 (.int .u8)) aD)) (nP x)∧(fun x r=>(1≤r.1.length∧bO r.1=true)∧r.1.length≤6∧(∀ o∈r.1,opB o=true)∧0≤r.2.2.1:(aN)→(bE × aN)→Prop) x (nP x):=⟨aBJ.ok x hp hx,aUC x hx hp⟩
def aA4:Con:=⟨80,(.bPW (.bPW (.slice 5 (.int .u8)) aD) aE),(.bPW aF (.bPW (.slice 5 (.int .u8)) aD)),[.box 91 ⟨true,(.bPW (.slice 5 (.int .u8)) aD),[]⟩,.val ⟨true,aE,[]⟩],[⟨false,aF,[2]⟩],false,none,
 ((fun x=>0≤x.1.2.1):(aN × bE)→Prop),
 ((fun _=>aP (.bPW aF (.bPW (.slice 5 (.int .u8)) aD))):(aN × bE)→(bL × aN))⟩
def aAM:T:=.call 0 (.bPY (.bPW (.slice 5 (.int .u8)) aD) tI (.p1 (.bPW (.slice 5 (.int .u8)) aD) aE (.Z 0)) (.ci .i64 4)) <|
 .bPX (.ar .add .i64) (.bPY tI tI (.ci .i64 1) (.p1 tI (.bPW (.slice 5 (.int .u8)) aD) (.Z 1))) <|
 .loop (.bPW tI (.bPW (.slice 5 (.int .u8)) (.bPW tI (.bPW tI aF)))) (bP (.bPW tI (.bPW (.slice 5 (.int .u8)) (.bPW tI (.bPW tI aF)))) [(.Z 2),(aH (.bPW tI (.bPW (.slice 5 (.int .u8)) aD)) 1 (.Z 1)),(aH (.bPW tI (.bPW (.slice 5 (.int .u8)) aD)) 2 (.Z 1)),(aS (.bPW tI (.bPW (.slice 5 (.int .u8)) aD)) 3 (.Z 1)),(.nl 108 aQ)]) <|
  .bPX (.cmp .gtr .i64) (.bPY tI tI (.p1 tI (.bPW (.slice 5 (.int .u8)) (.bPW tI (.bPW tI aF))) (.Z 3)) (.ci .i64 0)) <|
  .ite (.Z 4) (
   .call 1 (aS (.bPW (.bPW (.slice 5 (.int .u8)) aD) aE) 1 (.Z 0)) <|
   .call 2 (.bPY (.bPW (.slice 5 (.int .u8)) aD) tI (bP (.bPW (.slice 5 (.int .u8)) aD) [(aH (.bPW tI (.bPW (.slice 5 (.int .u8)) (.bPW tI (.bPW tI aF)))) 1 (.Z 3)),(aH (.bPW tI (.bPW (.slice 5 (.int .u8)) (.bPW tI (.bPW tI aF)))) 2 (.Z 3)),(aH (.bPW tI (.bPW (.slice 5 (.int .u8)) (.bPW tI (.bPW tI aF)))) 3 (.Z 3))]) (.Z 5)) <|
   .call 3 (aS (.bPW (.bPW (.slice 5 (.int .u8)) aD) aE) 1 (.Z 0)) <|
   .call 2 (.bPY (.bPW (.slice 5 (.int .u8)) aD) tI (aS (.bPW aB (.bPW (.slice 5 (.int .u8)) aD)) 1 (.Z 6)) (.Z 7)) <|
   .bPX (.lit 108 aQ 1) (.bPY aB aB (.p1 aB (.bPW (.slice 5 (.int .u8)) aD) (.Z 6)) (.p1 aB (.bPW (.slice 5 (.int .u8)) aD) (.Z 8))) <|
   .bPX (.bQ3 108 aQ 48) (.bPY aF aF (aS (.bPW tI (.bPW (.slice 5 (.int .u8)) (.bPW tI (.bPW tI aF)))) 4 (.Z 3)) (.Z 9)) <|
   .bPX (.ar .sub .i64) (.bPY tI tI (.p1 tI (.bPW (.slice 5 (.int .u8)) (.bPW tI (.bPW tI aF))) (.Z 3)) (.ci .i64 1)) <|
   .bPZ 0 (bP (.bPW tI (.bPW (.slice 5 (.int .u8)) (.bPW tI (.bPW tI aF)))) [(.Z 11),(aH (.bPW aB (.bPW (.slice 5 (.int .u8)) aD)) 1 (.Z 8)),(aH (.bPW aB (.bPW (.slice 5 (.int .u8)) aD)) 2 (.Z 8)),(aS (.bPW aB (.bPW (.slice 5 (.int .u8)) aD)) 3 (.Z 8)),(.Z 10)])) (
   .ret (bP (.bPW aF (.bPW (.slice 5 (.int .u8)) aD)) [(aS (.bPW tI (.bPW (.slice 5 (.int .u8)) (.bPW tI (.bPW tI aF)))) 4 (.Z 3)),(aH (.bPW tI (.bPW (.slice 5 (.int .u8)) (.bPW tI (.bPW tI aF)))) 1 (.Z 3)),(aH (.bPW tI (.bPW (.slice 5 (.int .u8)) (.bPW tI (.bPW tI aF)))) 2 (.Z 3)),(aH (.bPW tI (.bPW (.slice 5 (.int .u8)) (.bPW tI (.bPW tI aF)))) 3 (.Z 3))]))
theorem aT8 (f:(aN × bE)→(bL × aN)):bW Tryz.prog [bN,pZ,kI,nK] { aA4 with fn:=f } false 3000 ⟨[(2991,1003,jV 10 7++[.dr 1,.tm 6 0,.on 5,.bx 1 0,.bx 1 1,.bx 1 2,.sl 3])],[(2983,3005,[23,19],[])]⟩ = .ok aAM:=by kernel_rfl
theorem aW2 (x:aN × bE) (hx:okD (.bPW (.bPW (.slice 5 (.int .u8)) aD) aE) x) (hp:(fun x=>0≤x.1.2.1) x):aAM.wp [bN,pZ,kI,nK] [⟨(.bPW (.bPW (.slice 5 (.int .u8)) aD) aE),x⟩] [] (fun v=>(fun x r=>(1≤r.1.length∧(bO x.2=true→eK x.2 r.1=true))∧r.1.length≤4∧(∀ p∈r.1,p.1.length≤6∧p.2.length≤6)∧0≤r.2.2.1:(aN × bE)→(bL × aN)→Prop) x (v.as (.bPW aF (.bPW (.slice 5 (.int .u8)) aD)))):=by
 obtain ⟨c,m⟩:=x
 have q1:=cK (c,4) ⟨hx.1,okI (by omega) (by omega)⟩ hp
 have ib:=bNG m
 have ob:=bKC m
 delta aAM bN pZ kI nK;refine dY ?_
 refine eD ?_
 refine ⟨hp,fun _=>?_⟩
 generalize cF (c,4)=r at q1 ⊢;obtain ⟨n1,c1⟩:=r;obtain ⟨k1,u1⟩:=q1;replace k1:okD mM c1:=k1.2;dsimp only at u1 ⊢
 refine ⟨by omega,fun _=>⟨fun s=>@LE.le Int _ 0 s.1∧(List.length s.2.2.2.2:Int)+s.1=1+n1∧((∀ p∈s.2.2.2.2,List.length p.1≤6∧List.length p.2≤6)∧∀ p∈s.2.2.2.2,bO m=true→gG m p=true)∧@LE.le Int _ 0 s.2.2.1,fun s=>(s.1:Int).toNat,⟨by show 0≤1+n1;omega,by show (0:Int)+(1+n1)=1+n1;omega,⟨fun o h=>(by simp at h),fun o h=>by simp at h⟩,u1.2.2.2⟩,fun s hs hI=>?_⟩⟩
 obtain ⟨j,b,i,h,l⟩:=s
 obtain ⟨e1,e2,⟨e5,e7⟩,e6⟩:=hI
 change Int at j
 change List cB at l
 change 0≤j at e1
 change (l.length:Int)+j=1+n1 at e2
 change ∀ p∈l,List.length p.1≤6∧List.length p.2≤6 at e5
 change ∀ p∈l,bO m=true→gG m p=true at e7
 try dsimp only
 refine ⟨fun hlt hi=>⟨⟨e6,by omega⟩,fun _ ho=>?_⟩,fun hge=>?_⟩
 ·have q2:=rT ((b,i,h),dM m) ⟨⟨hs.2.1,hs.2.2.1,hs.2.2.2.1⟩,hi⟩ ⟨e6,by show dM m≤1000;omega⟩
  generalize oY ((b,i,h),dM m)=r at q2 ⊢;obtain ⟨v2,c2⟩:=r;obtain ⟨k2,u2⟩:=q2;replace k2:okD mM c2:=k2.2;dsimp only at u2 ⊢
  refine ⟨⟨u2.2.2,by omega⟩,fun _=>?_⟩
  have q3:=(rT (c2,cH m) ⟨k2,ho⟩ ⟨u2.2.2,by show cH m≤1000;omega⟩).2
  generalize oY (c2,cH m)=r at q3 ⊢;obtain ⟨v3,c3⟩:=r;dsimp only at q3 ⊢
  refine fun _=>⟨⟨by omega,by unfold maxLen;omega⟩,fun _=>⟨by omega,fun _=>⟨⟨by omega,?_,⟨fun p hp=>?_,fun p hp hm=>?_⟩,q3.2.2⟩,?_⟩⟩⟩
  ·show (((l++[(v2,v3)]).length:Nat):Int)+(j - 1)=1+n1
   rw[List.length_append];simp;omega
  ·rcases List.mem_append.1 hp with hp|hp
   ·exact e5 p hp
   ·rw[List.mem_singleton] at hp
    subst hp
    exact ⟨by show List.length v2≤6;rw[u2.1];omega,by show List.length v3≤6;rw[q3.1];omega⟩
  ·rcases List.mem_append.1 hp with hp|hp
   ·exact e7 p hp hm
   ·rw[List.mem_singleton] at hp
    subst hp
    have h1:=bNH hm
    show (cN v2 (dM m)&&cN v3 (cH m))=true
    rw[bBU h1.1 ib.2 u2.1 u2.2.1,bBU h1.2 ob.2 q3.1 q3.2.1];rfl
  ·show (j - 1).toNat<j.toNat
   omega
 ·have hj:j≤0:=by simpa using hge
  exact ⟨⟨by omega,fun hm=>(nC m l).2 ⟨hm,⟨by omega,by omega⟩,List.all_eq_true.2 fun p hp=>e7 p hp hm⟩⟩,by omega,e5,e6⟩
theorem zR:∃ f:(aN × bE)→(bL × aN),(∀ x,okD (.bPW (.bPW (.slice 5 (.int .u8)) aD) aE) x→(fun x=>0≤x.1.2.1) x→(fun x r=>(1≤r.1.length∧(bO x.2=true→eK x.2 r.1=true))∧r.1.length≤4∧(∀ p∈r.1,p.1.length≤6∧p.2.length≤6)∧0≤r.2.2.1:(aN × bE)→(bL × aN)→Prop) x (f x))∧Con.Holds Tryz.prog { aA4 with fn:=f }:=iX (C:=aA4) aZ (aG eV (aG aWR (aG aCJ (aG aOR aT)))) aT8 (fun x r=>(1≤r.1.length∧(bO x.2=true→eK x.2 r.1=true))∧r.1.length≤4∧(∀ p∈r.1,p.1.length≤6∧p.2.length≤6)∧0≤r.2.2.1:(aN × bE)→(bL × aN)→Prop) aW2
def nN:(aN × bE)→(bL × aN):=Classical.choose zR
def lV:Con:=⟨80,(.bPW (.bPW (.slice 5 (.int .u8)) aD) aE),(.bPW aF (.bPW (.slice 5 (.int .u8)) aD)),[.box 91 ⟨true,(.bPW (.slice 5 (.int .u8)) aD),[]⟩,.val ⟨true,aE,[]⟩],[⟨false,aF,[2]⟩],false,none,
 ((fun x=>0≤x.1.2.1):(aN × bE)→Prop),
 ((nN):(aN × bE)→(bL × aN))⟩
theorem aUY:∀ x,okD (.bPW (.bPW (.slice 5 (.int .u8)) aD) aE) x→(fun x=>0≤x.1.2.1) x→(fun x r=>(1≤r.1.length∧(bO x.2=true→eK x.2 r.1=true))∧r.1.length≤4∧(∀ p∈r.1,p.1.length≤6∧p.2.length≤6)∧0≤r.2.2.1:(aN × bE)→(bL × aN)→Prop) x (nN x):=(Classical.choose_spec zR).1
theorem zW:Con.Holds Tryz.prog lV:=(Classical.choose_spec zR).2
theorem aIA (x:aN × bE) (hx:okD (.bPW (.bPW (.slice 5 (.int .u8)) aD) aE) x) (hp:(fun x=>0≤x.1.2.1) x):okD (.bPW aF (.bPW (.slice 5 (.int .u8)) aD)) (nN x)∧(fun x r=>(1≤r.1.length∧(bO x.2=true→eK x.2 r.1=true))∧r.1.length≤4∧(∀ p∈r.1,p.1.length≤6∧p.2.length≤6)∧0≤r.2.2.1:(aN × bE)→(bL × aN)→Prop) x (nN x):=⟨zW.ok x hp hx,aUY x hx hp⟩
end
end Go.Proofs.YtpafjioccjpmfaaGreat
