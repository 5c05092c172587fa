/- Draw1: lemmas. No conditions. -/
import Derived.Test.YtabamggdmdednaaGreatDrawC
import Derived.Test.YtabamggdmdednaaGreatLoop
import Derived.Test.YtabamggdmdednaaGreatSeq5
namespace Go.Proofs.YtabamggdmdednaaGreat
noncomputable section
set_option maxRecDepth 100000
open Go.ChangeShapes Go.WideShapes Go.ChangeAt Go.RowKit Go.Deep
set_option linter.unusedVariables false
set_option linter.unusedSimpArgs false
theorem bF6 (x:Int):0≤aED .and .i64 x 255∧aED .and .i64 x 255≤255:=aZJ (m:=255) (by decide)
theorem bRB {α:Type} {l:List α} (h:l.length≤maxLen):l.length≤9223372036854775807:=by unfold maxLen at h;omega
theorem tmB {a n:Int} (ha:0≤a) (hn:0<n):0≤a.tmod n∧a.tmod n<n:=by
 rw[Int.tmod_eq_emod_of_nonneg ha]
 exact ⟨Int.emod_nonneg _ (by omega),Int.emod_lt_of_pos _ hn⟩
theorem tdB {a p:Int} (h1:-600000≤a) (h2:a≤600000):-600000≤a.tdiv p∧a.tdiv p≤600000:=by
 have h:=Int.natAbs_tdiv a p
 have h3:=Nat.div_le_self a.natAbs p.natAbs
 have h4:a.natAbs.div p.natAbs=a.natAbs / p.natAbs:=rfl
 omega
theorem bPT {m:aY} (h:cR m=true) {k:Nat} (hk:k<m.length):1≤m[k].2.1∧m[k].2.1≤6∧1≤m[k].2.2.1∧m[k].2.2.1≤6:=by
 have:=((bY m).1 h).2.2 k hk
 obtain ⟨⟨_,_,h1,h2,h3,h4,_⟩,_⟩:=(gY _).1 ((xI m hk).1 this).1
 exact ⟨h1,h2,h3,h4⟩
theorem bQU (m:aY):0≤jT m∧jT m≤6:=by
 unfold jT
 split
 ·rename_i h
  have hl:=(bY m).1 h
  have h0:0<m.length:=by omega
  have:=bPT h h0
  rw[aZ h0]
  omega
 ·omega
theorem bO7 (m:aY):0≤fH m∧fH m≤6:=by
 unfold fH
 split
 ·rename_i h
  have hl:=(bY m).1 h
  have h0:List.length m - 1<m.length:=by omega
  have:=bPT h h0
  rw[aZ h0]
  omega
 ·omega
theorem bQQ {k i o:Int} (h1:1≤i) (h2:i≤6) (h3:1≤o) (h4:o≤6):0≤gM (k,i,o,[])∧gM (k,i,o,[])≤36:=by
 have:=aRB h1 h2 h3 h4
 unfold gM
 dsimp only
 repeat' split
 all_goals omega
theorem bJU {k i o:Int} {P:List Int} (k1:1≤k) (k5:k≤5) (h1:1≤i) (h2:i≤6) (h3:1≤o) (h4:o≤6) (hk:k≠1→i=o) (hl:P.length=(gM (k,i,o,[])).toNat) (ha:∀ v∈P,jL v=true):opB (k,i,o,P)=true:=by
 have hs:=bQQ (k:=k) h1 h2 h3 h4
 refine (gY _).2 ⟨⟨k1,k5,h1,h2,h3,h4,hk,?_⟩,List.all_eq_true.2 ha⟩
 show (P.length:Int)=gM (k,i,o,[])
 omega
theorem okI {n:Int} (h1:-9223372036854775808≤n) (h2:n≤9223372036854775807):okD tI n:=⟨h1,h2⟩
theorem okL {e:TypeId} {l:List Int} (hl:l.length≤1000) (h:∀ y∈l,-9223372036854775808≤y∧y≤9223372036854775807):okD (.slice e tI) l:=⟨by unfold maxLen;exact Nat.le_trans hl (by decide),h⟩
def aG0:Con:=⟨46,(.bRW (.slice 5 (.int .u8)) aD),(.bRW tI (.bRW (.slice 5 (.int .u8)) aD)),[.box 62 ⟨true,(.bRW (.slice 5 (.int .u8)) aD),[]⟩],[⟨false,tI,[0]⟩],false,none,
 ((fun x=>0≤x.2.1):(aT)→Prop),
 ((fun _=>aW (.bRW tI (.bRW (.slice 5 (.int .u8)) aD))):(aT)→(Int × aT))⟩
def aFR:T :=
 .bRX (.arw .mul .i64) (.bRY tI tI (aP (.bRW (.slice 5 (.int .u8)) aD) 2 (.Z 0)) (.ci .i64 6364136223846793005)) <|
 .bRX (.arw .add .i64) (.bRY tI tI (.Z 1) (.ci .i64 1442695040888963407)) <|
 .bRX (.shr .i64 .u64) (.bRY tI (.int .u64) (.Z 2) (.ci .u64 33)) <|
 .bRX (.shr .i64 .u64) (.bRY tI (.int .u64) (.Z 2) (.ci .u64 45)) <|
 .bRX (.bits .xor .i64) (.bRY tI tI (.Z 3) (.Z 4)) <|
 .bRX (.bits .and .i64) (.bRY tI tI (.Z 5) (.ci .i64 255)) <|
 .bRX (.bS0 5 (.int .u8)) (.p1 (.slice 5 (.int .u8)) aD (.Z 0)) <|
 .bRX (.cmp .lss .i64) (.bRY tI tI (aK (.bRW (.slice 5 (.int .u8)) aD) 1 (.Z 0)) (.Z 7)) <|
 .ite (.Z 8) (
  .bRX (.bS1 5 (.int .u8)) (.bRY (.slice 5 (.int .u8)) tI (.p1 (.slice 5 (.int .u8)) aD (.Z 0)) (aK (.bRW (.slice 5 (.int .u8)) aD) 1 (.Z 0))) <|
  .bRX (.conv .u8 .i64) (.Z 9) <|
  .bRX (.arw .add .i64) (.bRY tI tI (.Z 6) (.Z 10)) <|
  .bRX (.bits .and .i64) (.bRY tI tI (.Z 11) (.ci .i64 255)) <|
  .bRX (.arw .add .i64) (.bRY tI tI (aK (.bRW (.slice 5 (.int .u8)) aD) 1 (.Z 0)) (.ci .i64 1)) <|
  .ret (bB (.bRW tI (.bRW (.slice 5 (.int .u8)) aD)) [(.Z 12),(.p1 (.slice 5 (.int .u8)) aD (.Z 0)),(.Z 13),(.Z 2)])) (
  .ret (bB (.bRW tI (.bRW (.slice 5 (.int .u8)) aD)) [(.Z 6),(.p1 (.slice 5 (.int .u8)) aD (.Z 0)),(aK (.bRW (.slice 5 (.int .u8)) aD) 1 (.Z 0)),(.Z 2)]))
theorem bDD (f:(aT)→(Int × aT)):bI Tryz.prog [] { aG0 with fn:=f } true 3000 ⟨[],[]⟩ = .ok aFR:=by kernel_rfl
theorem bDH (x:aT) (hx:okD (.bRW (.slice 5 (.int .u8)) aD) x) (hp:(fun x=>0≤x.2.1) x):aFR.wp [] [⟨(.bRW (.slice 5 (.int .u8)) aD),x⟩] [] (fun v=>(fun x r=>0≤r.1∧r.1≤255∧0≤r.2.2.1:(aT)→(Int × aT)→Prop) x (v.as (.bRW tI (.bRW (.slice 5 (.int .u8)) aD)))):=by
 obtain ⟨b,i,h⟩:=x
 change 0≤i at hp
 have hb:b.length≤9223372036854775807:=bRB hx.1.1
 delta aFR;refine cW ?_
 (refine dB ?_;try with_reducible exact True.intro)
 (repeat' first|intro _|(with_reducible apply And.intro))
 all_goals first|omega|exact (bF6 _).1|exact (bF6 _).2|(rw[zT (by show (-9223372036854775808:Int)≤_∧_≤(9223372036854775807:Int);omega)];omega)
theorem aF8:∃ f:(aT)→(Int × aT),(∀ x,okD (.bRW (.slice 5 (.int .u8)) aD) x→(fun x=>0≤x.2.1) x→(fun x r=>0≤r.1∧r.1≤255∧0≤r.2.2.1:(aT)→(Int × aT)→Prop) x (f x))∧Con.Holds Tryz.prog { aG0 with fn:=f }:=kT (C:=aG0) aV aQ bDD (fun x r=>0≤r.1∧r.1≤255∧0≤r.2.2.1:(aT)→(Int × aT)→Prop) bDH
def zG:(aT)→(Int × aT):=Classical.choose aF8
def zB:Con:=⟨46,(.bRW (.slice 5 (.int .u8)) aD),(.bRW tI (.bRW (.slice 5 (.int .u8)) aD)),[.box 62 ⟨true,(.bRW (.slice 5 (.int .u8)) aD),[]⟩],[⟨false,tI,[0]⟩],false,none,
 ((fun x=>0≤x.2.1):(aT)→Prop),
 ((zG):(aT)→(Int × aT))⟩
theorem bDB:∀ x,okD (.bRW (.slice 5 (.int .u8)) aD) x→(fun x=>0≤x.2.1) x→(fun x r=>0≤r.1∧r.1≤255∧0≤r.2.2.1:(aT)→(Int × aT)→Prop) x (zG x):=(Classical.choose_spec aF8).1
theorem aLF:Con.Holds Tryz.prog zB:=(Classical.choose_spec aF8).2
theorem zD (x:aT) (hx:okD (.bRW (.slice 5 (.int .u8)) aD) x) (hp:(fun x=>0≤x.2.1) x):okD (.bRW tI (.bRW (.slice 5 (.int .u8)) aD)) (zG x)∧(fun x r=>0≤r.1∧r.1≤255∧0≤r.2.2.1:(aT)→(Int × aT)→Prop) x (zG x):=⟨aLF.ok x hp hx,bDB x hx hp⟩
def aBV:Con:=⟨18,(.bRW (.bRW (.slice 5 (.int .u8)) aD) tI),(.bRW tI (.bRW (.slice 5 (.int .u8)) aD)),[.box 62 ⟨true,(.bRW (.slice 5 (.int .u8)) aD),[]⟩,.val ⟨false,tI,[]⟩],[⟨false,tI,[0]⟩],false,none,
 ((fun x=>0≤x.1.2.1):(aT × Int)→Prop),
 ((fun _=>aW (.bRW tI (.bRW (.slice 5 (.int .u8)) aD))):(aT × Int)→(Int × aT))⟩
def aD1:T :=
 .bRX (.cmp .leq .i64) (.bRY tI tI (aP (.bRW (.bRW (.slice 5 (.int .u8)) aD) tI) 1 (.Z 0)) (.ci .i64 0)) <|
 .ite (.Z 1) (
  .ret (.bRY tI (.bRW (.slice 5 (.int .u8)) aD) (.ci .i64 0) (.p1 (.bRW (.slice 5 (.int .u8)) aD) tI (.Z 0)))) (
  .bRX (.cmp .leq .i64) (.bRY tI tI (aP (.bRW (.bRW (.slice 5 (.int .u8)) aD) tI) 1 (.Z 0)) (.ci .i64 256)) <|
  .ite (.Z 2) (
   .call 0 (.p1 (.bRW (.slice 5 (.int .u8)) aD) tI (.Z 0)) <|
   .bRX (.rem .i64) (.bRY tI tI (.p1 tI (.bRW (.slice 5 (.int .u8)) aD) (.Z 3)) (aP (.bRW (.bRW (.slice 5 (.int .u8)) aD) tI) 1 (.Z 0))) <|
   .ret (.bRY tI (.bRW (.slice 5 (.int .u8)) aD) (.Z 4) (aP (.bRW tI (.bRW (.slice 5 (.int .u8)) aD)) 1 (.Z 3)))) (
   .call 0 (.p1 (.bRW (.slice 5 (.int .u8)) aD) tI (.Z 0)) <|
   .call 0 (aP (.bRW tI (.bRW (.slice 5 (.int .u8)) aD)) 1 (.Z 3)) <|
   .call 0 (aP (.bRW tI (.bRW (.slice 5 (.int .u8)) aD)) 1 (.Z 4)) <|
   .call 0 (aP (.bRW tI (.bRW (.slice 5 (.int .u8)) aD)) 1 (.Z 5)) <|
   .bRX (.ar .mul .i64) (.bRY tI tI (.p1 tI (.bRW (.slice 5 (.int .u8)) aD) (.Z 3)) (.ci .i64 16777216)) <|
   .bRX (.ar .mul .i64) (.bRY tI tI (.p1 tI (.bRW (.slice 5 (.int .u8)) aD) (.Z 4)) (.ci .i64 65536)) <|
   .bRX (.ar .add .i64) (.bRY tI tI (.Z 7) (.Z 8)) <|
   .bRX (.ar .mul .i64) (.bRY tI tI (.p1 tI (.bRW (.slice 5 (.int .u8)) aD) (.Z 5)) (.ci .i64 256)) <|
   .bRX (.ar .add .i64) (.bRY tI tI (.Z 9) (.Z 10)) <|
   .bRX (.ar .add .i64) (.bRY tI tI (.Z 11) (.p1 tI (.bRW (.slice 5 (.int .u8)) aD) (.Z 6))) <|
   .bRX (.rem .i64) (.bRY tI tI (.Z 12) (aP (.bRW (.bRW (.slice 5 (.int .u8)) aD) tI) 1 (.Z 0))) <|
   .ret (.bRY tI (.bRW (.slice 5 (.int .u8)) aD) (.Z 13) (aP (.bRW tI (.bRW (.slice 5 (.int .u8)) aD)) 1 (.Z 6)))))
theorem aY0 (f:(aT × Int)→(Int × aT)):bI Tryz.prog [zB] { aBV with fn:=f } false 3000 ⟨[],[]⟩ = .ok aD1:=by kernel_rfl
theorem aWO (x:aT × Int) (hx:okD (.bRW (.bRW (.slice 5 (.int .u8)) aD) tI) x) (hp:(fun x=>0≤x.1.2.1) x):aD1.wp [zB] [⟨(.bRW (.bRW (.slice 5 (.int .u8)) aD) tI),x⟩] [] (fun v=>(fun x r=>0≤r.1∧(0<x.2→r.1<x.2)∧(x.2≤0→r.1=0)∧0≤r.2.2.1:(aT × Int)→(Int × aT)→Prop) x (v.as (.bRW tI (.bRW (.slice 5 (.int .u8)) aD)))):=by
 obtain ⟨⟨b,i,h⟩,n⟩:=x
 change 0≤i at hp
 have q1:=zD (b,i,h) hx.1 hp
 have q2:=zD _ q1.1.2 q1.2.2.2
 have q3:=zD _ q2.1.2 q2.2.2.2
 have q4:=zD _ q3.1.2 q3.2.2.2
 replace q1:=q1.2
 replace q2:=q2.2
 replace q3:=q3.2
 replace q4:=q4.2
 dsimp only at q1 q2 q3 q4
 delta aD1 zB;refine cW ?_
 (refine dB ?_;try with_reducible exact True.intro)
 (repeat' first|intro _|(with_reducible apply And.intro))
 all_goals first|omega|exact (tmB (by omega) (by omega)).1|exact (tmB (by omega) (by omega)).2|trivial
theorem aB1:∃ f:(aT × Int)→(Int × aT),(∀ x,okD (.bRW (.bRW (.slice 5 (.int .u8)) aD) tI) x→(fun x=>0≤x.1.2.1) x→(fun x r=>0≤r.1∧(0<x.2→r.1<x.2)∧(x.2≤0→r.1=0)∧0≤r.2.2.1:(aT × Int)→(Int × aT)→Prop) x (f x))∧Con.Holds Tryz.prog { aBV with fn:=f }:=kT (C:=aBV) aV (aI aLF aQ) aY0 (fun x r=>0≤r.1∧(0<x.2→r.1<x.2)∧(x.2≤0→r.1=0)∧0≤r.2.2.1:(aT × Int)→(Int × aT)→Prop) aWO
def cA:(aT × Int)→(Int × aT):=Classical.choose aB1
def bP:Con:=⟨18,(.bRW (.bRW (.slice 5 (.int .u8)) aD) tI),(.bRW tI (.bRW (.slice 5 (.int .u8)) aD)),[.box 62 ⟨true,(.bRW (.slice 5 (.int .u8)) aD),[]⟩,.val ⟨false,tI,[]⟩],[⟨false,tI,[0]⟩],false,none,
 ((fun x=>0≤x.1.2.1):(aT × Int)→Prop),
 ((cA):(aT × Int)→(Int × aT))⟩
theorem aZL:∀ x,okD (.bRW (.bRW (.slice 5 (.int .u8)) aD) tI) x→(fun x=>0≤x.1.2.1) x→(fun x r=>0≤r.1∧(0<x.2→r.1<x.2)∧(x.2≤0→r.1=0)∧0≤r.2.2.1:(aT × Int)→(Int × aT)→Prop) x (cA x):=(Classical.choose_spec aB1).1
theorem eN:Con.Holds Tryz.prog bP:=(Classical.choose_spec aB1).2
theorem cF (x:aT × Int) (hx:okD (.bRW (.bRW (.slice 5 (.int .u8)) aD) tI) x) (hp:(fun x=>0≤x.1.2.1) x):okD (.bRW tI (.bRW (.slice 5 (.int .u8)) aD)) (cA x)∧(fun x r=>0≤r.1∧(0<x.2→r.1<x.2)∧(x.2≤0→r.1=0)∧0≤r.2.2.1:(aT × Int)→(Int × aT)→Prop) x (cA x):=⟨eN.ok x hp hx,aZL x hx hp⟩
def aEQ:Con:=⟨44,(.bRW (.bRW (.slice 5 (.int .u8)) aD) tI),(.bRW .bool (.bRW (.slice 5 (.int .u8)) aD)),[.box 62 ⟨true,(.bRW (.slice 5 (.int .u8)) aD),[]⟩,.val ⟨false,tI,[]⟩],[⟨false,.bool,[0]⟩],false,none,
 ((fun x=>0≤x.1.2.1):(aT × Int)→Prop),
 ((fun _=>aW (.bRW .bool (.bRW (.slice 5 (.int .u8)) aD))):(aT × Int)→(Bool × aT))⟩
def aFC:T:=.call 0 (.Z 0) <|
 .bRX (.cmp .eql .i64) (.bRY tI tI (.p1 tI (.bRW (.slice 5 (.int .u8)) aD) (.Z 1)) (.ci .i64 0)) <|
 .ret (.bRY .bool (.bRW (.slice 5 (.int .u8)) aD) (.Z 2) (aP (.bRW tI (.bRW (.slice 5 (.int .u8)) aD)) 1 (.Z 1)))
theorem bCO (f:(aT × Int)→(Bool × aT)):bI Tryz.prog [bP] { aEQ with fn:=f } false 3000 ⟨[],[]⟩ = .ok aFC:=by kernel_rfl
theorem bAZ (x:aT × Int) (hx:okD (.bRW (.bRW (.slice 5 (.int .u8)) aD) tI) x) (hp:(fun x=>0≤x.1.2.1) x):aFC.wp [bP] [⟨(.bRW (.bRW (.slice 5 (.int .u8)) aD) tI),x⟩] [] (fun v=>(fun x r=>0≤r.2.2.1:(aT × Int)→(Bool × aT)→Prop) x (v.as (.bRW .bool (.bRW (.slice 5 (.int .u8)) aD)))):=by
 have q1:=(cF x hx hp).2
 delta aFC bP;refine cW ?_
 exact ⟨hp,fun _=>q1.2.2.2⟩
theorem aGB:∃ f:(aT × Int)→(Bool × aT),(∀ x,okD (.bRW (.bRW (.slice 5 (.int .u8)) aD) tI) x→(fun x=>0≤x.1.2.1) x→(fun x r=>0≤r.2.2.1:(aT × Int)→(Bool × aT)→Prop) x (f x))∧Con.Holds Tryz.prog { aEQ with fn:=f }:=kT (C:=aEQ) aV (aI eN aQ) bCO (fun x r=>0≤r.2.2.1:(aT × Int)→(Bool × aT)→Prop) bAZ
def nG:(aT × Int)→(Bool × aT):=Classical.choose aGB
def jI:Con:=⟨44,(.bRW (.bRW (.slice 5 (.int .u8)) aD) tI),(.bRW .bool (.bRW (.slice 5 (.int .u8)) aD)),[.box 62 ⟨true,(.bRW (.slice 5 (.int .u8)) aD),[]⟩,.val ⟨false,tI,[]⟩],[⟨false,.bool,[0]⟩],false,none,
 ((fun x=>0≤x.1.2.1):(aT × Int)→Prop),
 ((nG):(aT × Int)→(Bool × aT))⟩
theorem bA0:∀ x,okD (.bRW (.bRW (.slice 5 (.int .u8)) aD) tI) x→(fun x=>0≤x.1.2.1) x→(fun x r=>0≤r.2.2.1:(aT × Int)→(Bool × aT)→Prop) x (nG x):=(Classical.choose_spec aGB).1
theorem yY:Con.Holds Tryz.prog jI:=(Classical.choose_spec aGB).2
theorem aFT (x:aT × Int) (hx:okD (.bRW (.bRW (.slice 5 (.int .u8)) aD) tI) x) (hp:(fun x=>0≤x.1.2.1) x):okD (.bRW .bool (.bRW (.slice 5 (.int .u8)) aD)) (nG x)∧(fun x r=>0≤r.2.2.1:(aT × Int)→(Bool × aT)→Prop) x (nG x):=⟨yY.ok x hp hx,bA0 x hx hp⟩
def xE:Con:=⟨20,(.bRW (.bRW (.slice 5 (.int .u8)) aD) aB),(.bRW tI (.bRW (.slice 5 (.int .u8)) aD)),[.box 62 ⟨true,(.bRW (.slice 5 (.int .u8)) aD),[]⟩,.val ⟨false,aB,[]⟩],[⟨false,tI,[0]⟩],false,none,
 ((fun x=>0≤x.1.2.1∧x.2≠[]):(aT × bK)→Prop),
 ((fun _=>aW (.bRW tI (.bRW (.slice 5 (.int .u8)) aD))):(aT × bK)→(Int × aT))⟩
def wG:T :=
 .bRX (.bS0 3 tI) (aP (.bRW (.bRW (.slice 5 (.int .u8)) aD) aB) 1 (.Z 0)) <|
 .call 0 (.bRY (.bRW (.slice 5 (.int .u8)) aD) tI (.p1 (.bRW (.slice 5 (.int .u8)) aD) aB (.Z 0)) (.Z 1)) <|
 .bRX (.bS1 3 tI) (.bRY aB tI (aP (.bRW (.bRW (.slice 5 (.int .u8)) aD) aB) 1 (.Z 0)) (.p1 tI (.bRW (.slice 5 (.int .u8)) aD) (.Z 2))) <|
 .ret (.bRY tI (.bRW (.slice 5 (.int .u8)) aD) (.Z 3) (aP (.bRW tI (.bRW (.slice 5 (.int .u8)) aD)) 1 (.Z 2)))
theorem aP8 (f:(aT × bK)→(Int × aT)):bI Tryz.prog [bP] { xE with fn:=f } false 3000 ⟨[],[]⟩ = .ok wG:=by kernel_rfl
theorem aPY (x:aT × bK) (hx:okD (.bRW (.bRW (.slice 5 (.int .u8)) aD) aB) x) (hp:(fun x=>0≤x.1.2.1∧x.2≠[]) x):wG.wp [bP] [⟨(.bRW (.bRW (.slice 5 (.int .u8)) aD) aB),x⟩] [] (fun v=>(fun x r=>r.1∈x.2∧0≤r.2.2.1:(aT × bK)→(Int × aT)→Prop) x (v.as (.bRW tI (.bRW (.slice 5 (.int .u8)) aD)))):=by
 obtain ⟨c,l⟩:=x
 obtain ⟨hp,hl⟩:0≤c.2.1∧l≠[]:=hp
 have hm:=bRB (show List.length l≤maxLen from hx.2.1)
 have hl0:0<l.length:=List.length_pos_iff.2 hl
 have q1:=(cF (c,(l.length:Int)) ⟨hx.1,show (-9223372036854775808:Int)≤_∧_≤(9223372036854775807:Int) by omega⟩ hp).2
 dsimp only at q1
 delta wG bP;refine cW ?_
 have hlt:((cA (c,(l.length:Int))).1:Int).toNat<l.length:=by omega
 refine fun _=>⟨hp,fun _=>⟨⟨q1.1,by omega⟩,fun _=>⟨?_,q1.2.2.2⟩⟩⟩
 rw[aZ hlt]
 exact List.getElem_mem hlt
theorem wC:∃ f:(aT × bK)→(Int × aT),(∀ x,okD (.bRW (.bRW (.slice 5 (.int .u8)) aD) aB) x→(fun x=>0≤x.1.2.1∧x.2≠[]) x→(fun x r=>r.1∈x.2∧0≤r.2.2.1:(aT × bK)→(Int × aT)→Prop) x (f x))∧Con.Holds Tryz.prog { xE with fn:=f }:=kT (C:=xE) aV (aI eN aQ) aP8 (fun x r=>r.1∈x.2∧0≤r.2.2.1:(aT × bK)→(Int × aT)→Prop) aPY
def hK:(aT × bK)→(Int × aT):=Classical.choose wC
def cH:Con:=⟨20,(.bRW (.bRW (.slice 5 (.int .u8)) aD) aB),(.bRW tI (.bRW (.slice 5 (.int .u8)) aD)),[.box 62 ⟨true,(.bRW (.slice 5 (.int .u8)) aD),[]⟩,.val ⟨false,aB,[]⟩],[⟨false,tI,[0]⟩],false,none,
 ((fun x=>0≤x.1.2.1∧x.2≠[]):(aT × bK)→Prop),
 ((hK):(aT × bK)→(Int × aT))⟩
theorem aPO:∀ x,okD (.bRW (.bRW (.slice 5 (.int .u8)) aD) aB) x→(fun x=>0≤x.1.2.1∧x.2≠[]) x→(fun x r=>r.1∈x.2∧0≤r.2.2.1:(aT × bK)→(Int × aT)→Prop) x (hK x):=(Classical.choose_spec wC).1
theorem jJ:Con.Holds Tryz.prog cH:=(Classical.choose_spec wC).2
theorem kP (x:aT × bK) (hx:okD (.bRW (.bRW (.slice 5 (.int .u8)) aD) aB) x) (hp:(fun x=>0≤x.1.2.1∧x.2≠[]) x):okD (.bRW tI (.bRW (.slice 5 (.int .u8)) aD)) (hK x)∧(fun x r=>r.1∈x.2∧0≤r.2.2.1:(aT × bK)→(Int × aT)→Prop) x (hK x):=⟨jJ.ok x hp hx,aPO x hx hp⟩
def aJP:Con:=⟨129,(.bRW (.slice 5 (.int .u8)) aD),(.bRW tI (.bRW (.slice 5 (.int .u8)) aD)),[.box 62 ⟨true,(.bRW (.slice 5 (.int .u8)) aD),[]⟩],[⟨false,tI,[0]⟩],false,none,
 ((fun x=>0≤x.2.1):(aT)→Prop),
 ((fun _=>aW (.bRW tI (.bRW (.slice 5 (.int .u8)) aD))):(aT)→(Int × aT))⟩
def aJ2:T:=.call 0 (.bRY (.bRW (.slice 5 (.int .u8)) aD) tI (.Z 0) (.ci .i64 12)) <|
 .bRX (.cmp .eql .i64) (.bRY tI tI (.p1 tI (.bRW (.slice 5 (.int .u8)) aD) (.Z 1)) (.ci .i64 0)) <|
 .ite (.Z 2) (
  .bRX (.lit 3 tI 6) (bB (.bRW tI (.bRW tI (.bRW tI (.bRW tI aD)))) [(.ci .i64 2147483647),(.ci .i64 (-2147483647)),(.ci .i64 2147483646),(.ci .i64 1),(.ci .i64 (-1)),(.ci .i64 0)]) <|
  .call 1 (.bRY (.bRW (.slice 5 (.int .u8)) aD) aB (aP (.bRW tI (.bRW (.slice 5 (.int .u8)) aD)) 1 (.Z 1)) (.Z 3)) <|
  .ret (.Z 4)) (
  .bRX (.cmp .eql .i64) (.bRY tI tI (.p1 tI (.bRW (.slice 5 (.int .u8)) aD) (.Z 1)) (.ci .i64 1)) <|
  .ite (.Z 3) (
   .call 0 (.bRY (.bRW (.slice 5 (.int .u8)) aD) tI (aP (.bRW tI (.bRW (.slice 5 (.int .u8)) aD)) 1 (.Z 1)) (.ci .i64 4000)) <|
   .bRX (.ar .sub .i64) (.bRY tI tI (.p1 tI (.bRW (.slice 5 (.int .u8)) aD) (.Z 4)) (.ci .i64 2000)) <|
   .bRX (.ar .mul .i64) (.bRY tI tI (.Z 5) (.ci .i64 997)) <|
   .ret (.bRY tI (.bRW (.slice 5 (.int .u8)) aD) (.Z 6) (aP (.bRW tI (.bRW (.slice 5 (.int .u8)) aD)) 1 (.Z 4)))) (
   .bRX (.cmp .eql .i64) (.bRY tI tI (.p1 tI (.bRW (.slice 5 (.int .u8)) aD) (.Z 1)) (.ci .i64 2)) <|
   .ite (.Z 4) (
    .call 0 (.bRY (.bRW (.slice 5 (.int .u8)) aD) tI (aP (.bRW tI (.bRW (.slice 5 (.int .u8)) aD)) 1 (.Z 1)) (.ci .i64 9)) <|
    .bRX (.ar .sub .i64) (.bRY tI tI (.p1 tI (.bRW (.slice 5 (.int .u8)) aD) (.Z 5)) (.ci .i64 4)) <|
    .ret (.bRY tI (.bRW (.slice 5 (.int .u8)) aD) (.Z 6) (aP (.bRW tI (.bRW (.slice 5 (.int .u8)) aD)) 1 (.Z 5)))) (
    .call 0 (.bRY (.bRW (.slice 5 (.int .u8)) aD) tI (aP (.bRW tI (.bRW (.slice 5 (.int .u8)) aD)) 1 (.Z 1)) (.ci .i64 17)) <|
    .bRX (.ar .sub .i64) (.bRY tI tI (.p1 tI (.bRW (.slice 5 (.int .u8)) aD) (.Z 5)) (.ci .i64 8)) <|
    .bRX (.ar .mul .i64) (.bRY tI tI (.Z 6) (.ci .i64 65536)) <|
    .bRX (.lit 3 tI 5) (bB (.bRW tI (.bRW tI (.bRW tI aD))) [(.ci .i64 1),(.ci .i64 1),(.ci .i64 2),(.ci .i64 4),(.ci .i64 3)]) <|
    .call 1 (.bRY (.bRW (.slice 5 (.int .u8)) aD) aB (aP (.bRW tI (.bRW (.slice 5 (.int .u8)) aD)) 1 (.Z 5)) (.Z 8)) <|
    .bRX (.quo .i64) (.bRY tI tI (.Z 7) (.p1 tI (.bRW (.slice 5 (.int .u8)) aD) (.Z 9))) <|
    .ret (.bRY tI (.bRW (.slice 5 (.int .u8)) aD) (.Z 10) (aP (.bRW tI (.bRW (.slice 5 (.int .u8)) aD)) 1 (.Z 9))))))
theorem bJ8 (f:(aT)→(Int × aT)):bI Tryz.prog [bP,cH] { aJP with fn:=f } false 3000 ⟨[],[(2989,3003,[8],[]),(2981,8005,[26],[])]⟩ = .ok aJ2:=by kernel_rfl
theorem bIK (x:aT) (hx:okD (.bRW (.slice 5 (.int .u8)) aD) x) (hp:(fun x=>0≤x.2.1) x):aJ2.wp [bP,cH] [⟨(.bRW (.slice 5 (.int .u8)) aD),x⟩] [] (fun v=>(fun x r=>jL r.1=true∧0≤r.2.2.1:(aT)→(Int × aT)→Prop) x (v.as (.bRW tI (.bRW (.slice 5 (.int .u8)) aD)))):=by
 have q1:=cF (x,12) ⟨hx,okI (by omega) (by omega)⟩ hp
 delta aJ2 bP cH;refine cW ?_
 refine dB ?_
 refine ⟨hp,fun _=>?_⟩
 generalize cA (x,12)=r at q1 ⊢;obtain ⟨n1,c1⟩:=r;obtain ⟨kq1,uq1⟩:=q1;replace kq1:okD nB c1:=kq1.2;dsimp only at uq1 ⊢
 refine ⟨fun _ _=>⟨⟨uq1.2.2.2,fun h=>by cases h⟩,fun _=>?_⟩,fun _=>⟨fun _=>⟨uq1.2.2.2,fun _=>?_⟩,fun _=>⟨fun _=>⟨uq1.2.2.2,fun _=>?_⟩,fun _=>⟨uq1.2.2.2,fun _=>?_⟩⟩⟩⟩
 ·have b0:=(kP (c1,[2147483647,-2147483647,2147483646,1,-1,0]) ⟨kq1,okL (e:=3) (by show 6≤1000;omega) (by intro y hy;simp at hy;omega)⟩ ⟨uq1.2.2.2,by simp⟩).2
  generalize hK (c1,[2147483647,-2147483647,2147483646,1,-1,0])=r at b0 ⊢
  have:=b0.1
  simp only[List.mem_cons,List.mem_nil_iff,or_false] at this
  exact ⟨(aD0 _).2 ⟨by omega,by omega⟩,b0.2⟩
 ·have a1:=(cF (c1,4000) ⟨kq1,okI (by omega) (by omega)⟩ uq1.2.2.2).2
  generalize cA (c1,4000)=r at a1 ⊢
  dsimp only at a1
  (repeat' first|intro _|(with_reducible apply And.intro))
  all_goals first|omega|exact (aD0 _).2 ⟨by omega,by omega⟩
 ·have a1:=(cF (c1,9) ⟨kq1,okI (by omega) (by omega)⟩ uq1.2.2.2).2
  generalize cA (c1,9)=r at a1 ⊢
  dsimp only at a1
  (repeat' first|intro _|(with_reducible apply And.intro))
  all_goals first|omega|exact (aD0 _).2 ⟨by omega,by omega⟩
 ·have q2:=cF (c1,17) ⟨kq1,okI (by omega) (by omega)⟩ uq1.2.2.2
  generalize cA (c1,17)=r at q2 ⊢;obtain ⟨n2,c2⟩:=r;obtain ⟨kq2,uq2⟩:=q2;replace kq2:okD nB c2:=kq2.2;dsimp only at uq2 ⊢
  refine ⟨by omega,fun _=>⟨by omega,fun _ _=>⟨⟨uq2.2.2.2,fun h=>by cases h⟩,fun _=>?_⟩⟩⟩
  have b0:=(kP (c2,[1,1,2,4,3]) ⟨kq2,okL (e:=3) (by show 5≤1000;omega) (by intro y hy;simp at hy;omega)⟩ ⟨uq2.2.2.2,by simp⟩).2
  generalize hK (c2,[1,1,2,4,3])=r at b0 ⊢
  have:=b0.1
  simp only[List.mem_cons,List.mem_nil_iff,or_false] at this
  have t1:=tdB (a:=(n2 - 8) * 65536) (p:=r.1) (by omega) (by omega)
  (repeat' first|intro _|(with_reducible apply And.intro))
  all_goals first|omega|exact (aD0 _).2 ⟨by omega,by omega⟩|exact b0.2
theorem aIV:∃ f:(aT)→(Int × aT),(∀ x,okD (.bRW (.slice 5 (.int .u8)) aD) x→(fun x=>0≤x.2.1) x→(fun x r=>jL r.1=true∧0≤r.2.2.1:(aT)→(Int × aT)→Prop) x (f x))∧Con.Holds Tryz.prog { aJP with fn:=f }:=kT (C:=aJP) aV (aI eN (aI jJ aQ)) bJ8 (fun x r=>jL r.1=true∧0≤r.2.2.1:(aT)→(Int × aT)→Prop) bIK
def aDL:(aT)→(Int × aT):=Classical.choose aIV
def pL:Con:=⟨129,(.bRW (.slice 5 (.int .u8)) aD),(.bRW tI (.bRW (.slice 5 (.int .u8)) aD)),[.box 62 ⟨true,(.bRW (.slice 5 (.int .u8)) aD),[]⟩],[⟨false,tI,[0]⟩],false,none,
 ((fun x=>0≤x.2.1):(aT)→Prop),
 ((aDL):(aT)→(Int × aT))⟩
theorem bHL:∀ x,okD (.bRW (.slice 5 (.int .u8)) aD) x→(fun x=>0≤x.2.1) x→(fun x r=>jL r.1=true∧0≤r.2.2.1:(aT)→(Int × aT)→Prop) x (aDL x):=(Classical.choose_spec aIV).1
theorem aIE:Con.Holds Tryz.prog pL:=(Classical.choose_spec aIV).2
theorem aR6 (x:aT) (hx:okD (.bRW (.slice 5 (.int .u8)) aD) x) (hp:(fun x=>0≤x.2.1) x):okD (.bRW tI (.bRW (.slice 5 (.int .u8)) aD)) (aDL x)∧(fun x r=>jL r.1=true∧0≤r.2.2.1:(aT)→(Int × aT)→Prop) x (aDL x):=⟨aIE.ok x hp hx,bHL x hx hp⟩
def aJJ:Con:=⟨81,(.bRW (.bRW (.slice 5 (.int .u8)) aD) tI),(.bRW aB (.bRW (.slice 5 (.int .u8)) aD)),[.box 62 ⟨true,(.bRW (.slice 5 (.int .u8)) aD),[]⟩,.val ⟨false,tI,[]⟩],[⟨false,aB,[2]⟩],false,none,
 ((fun x=>0≤x.1.2.1∧x.2≤1000):(aT × Int)→Prop),
 ((fun _=>aW (.bRW aB (.bRW (.slice 5 (.int .u8)) aD))):(aT × Int)→(bK × aT))⟩
def aJ8:T:=.loop (.bRW tI (.bRW (.slice 5 (.int .u8)) (.bRW tI aH))) (bB (.bRW tI (.bRW (.slice 5 (.int .u8)) (.bRW tI aH))) [(.ci .i64 0),(.p1 (.slice 5 (.int .u8)) aD (.p1 (.bRW (.slice 5 (.int .u8)) aD) tI (.Z 0))),(aK (.bRW (.slice 5 (.int .u8)) aD) 1 (.p1 (.bRW (.slice 5 (.int .u8)) aD) tI (.Z 0))),(aP (.bRW (.slice 5 (.int .u8)) aD) 2 (.p1 (.bRW (.slice 5 (.int .u8)) aD) tI (.Z 0))),(.nl 3 tI)]) <|
 .bRX (.cmp .lss .i64) (.bRY tI tI (.p1 tI (.bRW (.slice 5 (.int .u8)) (.bRW tI aH)) (.Z 1)) (aP (.bRW (.bRW (.slice 5 (.int .u8)) aD) tI) 1 (.Z 0))) <|
 .ite (.Z 2) (
  .call 0 (bB (.bRW (.slice 5 (.int .u8)) aD) [(aK (.bRW tI (.bRW (.slice 5 (.int .u8)) (.bRW tI aH))) 1 (.Z 1)),(aK (.bRW tI (.bRW (.slice 5 (.int .u8)) (.bRW tI aH))) 2 (.Z 1)),(aK (.bRW tI (.bRW (.slice 5 (.int .u8)) (.bRW tI aH))) 3 (.Z 1))]) <|
  .bRX (.lit 3 tI 1) (.p1 tI (.bRW (.slice 5 (.int .u8)) aD) (.Z 3)) <|
  .bRX (.bS3 3 tI 8) (.bRY aB aB (aP (.bRW tI (.bRW (.slice 5 (.int .u8)) (.bRW tI aH))) 4 (.Z 1)) (.Z 4)) <|
  .bRX (.ar .add .i64) (.bRY tI tI (.p1 tI (.bRW (.slice 5 (.int .u8)) (.bRW tI aH)) (.Z 1)) (.ci .i64 1)) <|
  .bRZ 0 (bB (.bRW tI (.bRW (.slice 5 (.int .u8)) (.bRW tI aH))) [(.Z 6),(aK (.bRW tI (.bRW (.slice 5 (.int .u8)) aD)) 1 (.Z 3)),(aK (.bRW tI (.bRW (.slice 5 (.int .u8)) aD)) 2 (.Z 3)),(aP (.bRW tI (.bRW (.slice 5 (.int .u8)) aD)) 3 (.Z 3)),(.Z 5)])) (
  .ret (bB (.bRW aB (.bRW (.slice 5 (.int .u8)) aD)) [(aP (.bRW tI (.bRW (.slice 5 (.int .u8)) (.bRW tI aH))) 4 (.Z 1)),(aK (.bRW tI (.bRW (.slice 5 (.int .u8)) (.bRW tI aH))) 1 (.Z 1)),(aK (.bRW tI (.bRW (.slice 5 (.int .u8)) (.bRW tI aH))) 2 (.Z 1)),(aK (.bRW tI (.bRW (.slice 5 (.int .u8)) (.bRW tI aH))) 3 (.Z 1))]))
theorem bGY (f:(aT × Int)→(bK × aT)):bI Tryz.prog [pL] { aJJ with fn:=f } false 3000 ⟨[(2991,1001,[.dr 7,.tm 6 0,.on 5,.bx 1 0,.bx 1 1,.bx 1 2,.sl 2])],[]⟩ = .ok aJ8:=by kernel_rfl
theorem bJ2 (x:aT × Int) (hx:okD (.bRW (.bRW (.slice 5 (.int .u8)) aD) tI) x) (hp:(fun x=>0≤x.1.2.1∧x.2≤1000) x):aJ8.wp [pL] [⟨(.bRW (.bRW (.slice 5 (.int .u8)) aD) tI),x⟩] [] (fun v=>(fun x r=>r.1.length=x.2.toNat∧(∀ v∈r.1,jL v=true)∧0≤r.2.2.1:(aT × Int)→(bK × aT)→Prop) x (v.as (.bRW aB (.bRW (.slice 5 (.int .u8)) aD)))):=by
 obtain ⟨c,n⟩:=x
 obtain ⟨hp,hn⟩:0≤c.2.1∧n≤1000:=hp
 delta aJ8 pL;refine cW ?_
 refine ⟨fun s=>∃ k:Nat,k≤n.toNat∧s.1=(k:Int)∧List.length s.2.2.2.2=k∧(∀ v∈s.2.2.2.2,jL v=true)∧@LE.le Int _ 0 s.2.2.1,fun s=>(n - s.1:Int).toNat,⟨0,Nat.zero_le _,rfl,rfl,fun v h=>by simp at h,hp⟩,fun s hs hI=>?_⟩
 obtain ⟨j,b,i,h,l⟩:=s
 obtain ⟨k,hk,e1,e2,e3,e4⟩:=hI
 change Int at j
 change j=(k:Int) at e1
 subst e1
 change List Int at l
 change l.length=k at e2
 change ∀ v∈l,jL v=true at e3
 change 0≤(i:Int) at e4
 have q:=(aR6 (b,i,h) ⟨hs.2.1,hs.2.2.1,hs.2.2.2.1⟩ e4).2
 try dsimp only
 refine dB ?_
 refine ⟨fun hlt=>⟨e4,fun _ _=>⟨⟨by omega,by unfold maxLen;omega⟩,fun _=>⟨by omega,fun _=>⟨⟨k+1,by omega,pk1,by rw[e2],fun v hv=>?_,q.2⟩,by omega⟩⟩⟩⟩,fun hge=>⟨by omega,e3,e4⟩⟩
 rcases List.mem_append.1 hv with hv|hv
 ·exact e3 v hv
 ·rw[List.mem_singleton] at hv
  rw[hv];exact q.1
theorem aIR:∃ f:(aT × Int)→(bK × aT),(∀ x,okD (.bRW (.bRW (.slice 5 (.int .u8)) aD) tI) x→(fun x=>0≤x.1.2.1∧x.2≤1000) x→(fun x r=>r.1.length=x.2.toNat∧(∀ v∈r.1,jL v=true)∧0≤r.2.2.1:(aT × Int)→(bK × aT)→Prop) x (f x))∧Con.Holds Tryz.prog { aJJ with fn:=f }:=kT (C:=aJJ) aV (aI aIE aQ) bGY (fun x r=>r.1.length=x.2.toNat∧(∀ v∈r.1,jL v=true)∧0≤r.2.2.1:(aT × Int)→(bK × aT)→Prop) bJ2
def pJ:(aT × Int)→(bK × aT):=Classical.choose aIR
def kQ:Con:=⟨81,(.bRW (.bRW (.slice 5 (.int .u8)) aD) tI),(.bRW aB (.bRW (.slice 5 (.int .u8)) aD)),[.box 62 ⟨true,(.bRW (.slice 5 (.int .u8)) aD),[]⟩,.val ⟨false,tI,[]⟩],[⟨false,aB,[2]⟩],false,none,
 ((fun x=>0≤x.1.2.1∧x.2≤1000):(aT × Int)→Prop),
 ((pJ):(aT × Int)→(bK × aT))⟩
theorem bI8:∀ x,okD (.bRW (.bRW (.slice 5 (.int .u8)) aD) tI) x→(fun x=>0≤x.1.2.1∧x.2≤1000) x→(fun x r=>r.1.length=x.2.toNat∧(∀ v∈r.1,jL v=true)∧0≤r.2.2.1:(aT × Int)→(bK × aT)→Prop) x (pJ x):=(Classical.choose_spec aIR).1
theorem aDG:Con.Holds Tryz.prog kQ:=(Classical.choose_spec aIR).2
theorem sE (x:aT × Int) (hx:okD (.bRW (.bRW (.slice 5 (.int .u8)) aD) tI) x) (hp:(fun x=>0≤x.1.2.1∧x.2≤1000) x):okD (.bRW aB (.bRW (.slice 5 (.int .u8)) aD)) (pJ x)∧(fun x r=>r.1.length=x.2.toNat∧(∀ v∈r.1,jL v=true)∧0≤r.2.2.1:(aT × Int)→(bK × aT)→Prop) x (pJ x):=⟨aDG.ok x hp hx,bI8 x hx hp⟩
def aJR:Con:=⟨86,(.bRW (.slice 5 (.int .u8)) aD),(.bRW tI (.bRW (.slice 5 (.int .u8)) aD)),[.box 62 ⟨true,(.bRW (.slice 5 (.int .u8)) aD),[]⟩],[⟨false,tI,[0]⟩],false,none,
 ((fun x=>0≤x.2.1):(aT)→Prop),
 ((fun _=>aW (.bRW tI (.bRW (.slice 5 (.int .u8)) aD))):(aT)→(Int × aT))⟩
def aJN:T:=.call 0 (.bRY (.bRW (.slice 5 (.int .u8)) aD) tI (.Z 0) (.ci .i64 8)) <|.ite (.p1 .bool (.bRW (.slice 5 (.int .u8)) aD) (.Z 1)) (
 .bRX (.lit 3 tI 4) (bB (.bRW tI (.bRW tI aD)) [(.ci .i64 2147483648),(.ci .i64 (-2147483648)),(.ci .i64 9223372036854775807),(.ci .i64 (-9223372036854775807))]) <|
 .call 1 (.bRY (.bRW (.slice 5 (.int .u8)) aD) aB (aP (.bRW .bool (.bRW (.slice 5 (.int .u8)) aD)) 1 (.Z 1)) (.Z 2)) <|
 .ret (.Z 3)) (
 .call 2 (aP (.bRW .bool (.bRW (.slice 5 (.int .u8)) aD)) 1 (.Z 1)) <|
 .ret (.Z 2))
theorem bH3 (f:(aT)→(Int × aT)):bI Tryz.prog [jI,cH,pL] { aJR with fn:=f } false 3000 ⟨[],[(2992,3002,[6],[])]⟩ = .ok aJN:=by kernel_rfl
theorem bHO (x:aT) (hx:okD (.bRW (.slice 5 (.int .u8)) aD) x) (hp:(fun x=>0≤x.2.1) x):aJN.wp [jI,cH,pL] [⟨(.bRW (.slice 5 (.int .u8)) aD),x⟩] [] (fun v=>(fun x r=>0≤r.2.2.1:(aT)→(Int × aT)→Prop) x (v.as (.bRW tI (.bRW (.slice 5 (.int .u8)) aD)))):=by
 have q1:=aFT (x,8) ⟨hx,okI (by omega) (by omega)⟩ hp
 delta aJN jI cH pL;refine cW ?_
 refine dB ?_
 refine ⟨hp,fun _=>?_⟩
 generalize nG (x,8)=r at q1 ⊢;obtain ⟨n1,c1⟩:=r;obtain ⟨k1,u1⟩:=q1;replace k1:okD nB c1:=k1.2;dsimp only at u1 ⊢
 refine ⟨fun _ _=>⟨⟨u1,fun h=>by cases h⟩,fun _=>?_⟩,fun _=>⟨u1,fun _=>?_⟩⟩
 ·exact (kP (c1,[2147483648,-2147483648,9223372036854775807,-9223372036854775807]) ⟨k1,okL (e:=3) (by show 4≤1000;omega) (by intro y hy;simp at hy;omega)⟩ ⟨u1,by simp⟩).2.2
 ·exact (aR6 c1 k1 u1).2.2
theorem aIA:∃ f:(aT)→(Int × aT),(∀ x,okD (.bRW (.slice 5 (.int .u8)) aD) x→(fun x=>0≤x.2.1) x→(fun x r=>0≤r.2.2.1:(aT)→(Int × aT)→Prop) x (f x))∧Con.Holds Tryz.prog { aJR with fn:=f }:=kT (C:=aJR) aV (aI yY (aI jJ (aI aIE aQ))) bH3 (fun x r=>0≤r.2.2.1:(aT)→(Int × aT)→Prop) bHO
def aDR:(aT)→(Int × aT):=Classical.choose aIA
def pG:Con:=⟨86,(.bRW (.slice 5 (.int .u8)) aD),(.bRW tI (.bRW (.slice 5 (.int .u8)) aD)),[.box 62 ⟨true,(.bRW (.slice 5 (.int .u8)) aD),[]⟩],[⟨false,tI,[0]⟩],false,none,
 ((fun x=>0≤x.2.1):(aT)→Prop),
 ((aDR):(aT)→(Int × aT))⟩
theorem bH5:∀ x,okD (.bRW (.slice 5 (.int .u8)) aD) x→(fun x=>0≤x.2.1) x→(fun x r=>0≤r.2.2.1:(aT)→(Int × aT)→Prop) x (aDR x):=(Classical.choose_spec aIA).1
theorem aIQ:Con.Holds Tryz.prog pG:=(Classical.choose_spec aIA).2
theorem aRM (x:aT) (hx:okD (.bRW (.slice 5 (.int .u8)) aD) x) (hp:(fun x=>0≤x.2.1) x):okD (.bRW tI (.bRW (.slice 5 (.int .u8)) aD)) (aDR x)∧(fun x r=>0≤r.2.2.1:(aT)→(Int × aT)→Prop) x (aDR x):=⟨aIQ.ok x hp hx,bH5 x hx hp⟩
def aJW:Con:=⟨48,(.bRW (.slice 5 (.int .u8)) aD),(.bRW aB (.bRW (.slice 5 (.int .u8)) aD)),[.box 62 ⟨true,(.bRW (.slice 5 (.int .u8)) aD),[]⟩],[⟨false,aB,[2]⟩],false,none,
 ((fun x=>0≤x.2.1):(aT)→Prop),
 ((fun _=>aW (.bRW aB (.bRW (.slice 5 (.int .u8)) aD))):(aT)→(bK × aT))⟩
def aJ4:T:=.call 0 (.bRY (.bRW (.slice 5 (.int .u8)) aD) tI (.Z 0) (.ci .i64 4)) <|
 .bRX (.ar .add .i64) (.bRY tI tI (.ci .i64 1) (.p1 tI (.bRW (.slice 5 (.int .u8)) aD) (.Z 1))) <|
 .call 1 (.bRY (.bRW (.slice 5 (.int .u8)) aD) tI (aP (.bRW tI (.bRW (.slice 5 (.int .u8)) aD)) 1 (.Z 1)) (.Z 2)) <|
 .call 0 (.bRY (.bRW (.slice 5 (.int .u8)) aD) tI (aP (.bRW aB (.bRW (.slice 5 (.int .u8)) aD)) 1 (.Z 3)) (.ci .i64 16)) <|
 .bRX (.cmp .eql .i64) (.bRY tI tI (.p1 tI (.bRW (.slice 5 (.int .u8)) aD) (.Z 4)) (.ci .i64 0)) <|
 .ite (.Z 5) (
  .call 2 (aP (.bRW tI (.bRW (.slice 5 (.int .u8)) aD)) 1 (.Z 4)) <|
  .bRX (.bS1 3 tI) (.bRY aB tI (.p1 aB (.bRW (.slice 5 (.int .u8)) aD) (.Z 3)) (.ci .i64 0)) <|
  .bRX (.bS4 3 tI) (bB (.bRW aB aD) [(.p1 aB (.bRW (.slice 5 (.int .u8)) aD) (.Z 3)),(.ci .i64 0),(.p1 tI (.bRW (.slice 5 (.int .u8)) aD) (.Z 6))]) <|
  .ret (.bRY aB (.bRW (.slice 5 (.int .u8)) aD) (.Z 8) (aP (.bRW tI (.bRW (.slice 5 (.int .u8)) aD)) 1 (.Z 6)))) (
  .bRX (.cmp .eql .i64) (.bRY tI tI (.p1 tI (.bRW (.slice 5 (.int .u8)) aD) (.Z 4)) (.ci .i64 1)) <|
  .ite (.Z 6) (
   .bRX (.lit 3 tI 3) (bB (.bRW tI aD) [(.ci .i64 0),(.ci .i64 6),(.ci .i64 7)]) <|
   .call 3 (.bRY (.bRW (.slice 5 (.int .u8)) aD) aB (aP (.bRW tI (.bRW (.slice 5 (.int .u8)) aD)) 1 (.Z 4)) (.Z 7)) <|
   .call 1 (.bRY (.bRW (.slice 5 (.int .u8)) aD) tI (aP (.bRW tI (.bRW (.slice 5 (.int .u8)) aD)) 1 (.Z 8)) (.p1 tI (.bRW (.slice 5 (.int .u8)) aD) (.Z 8))) <|
   .ret (.Z 9)) (
   .ret (.bRY aB (.bRW (.slice 5 (.int .u8)) aD) (.p1 aB (.bRW (.slice 5 (.int .u8)) aD) (.Z 3)) (aP (.bRW tI (.bRW (.slice 5 (.int .u8)) aD)) 1 (.Z 4)))))
theorem bGZ (f:(aT)→(bK × aT)):bI Tryz.prog [bP,kQ,pG,cH] { aJW with fn:=f } false 3000 ⟨[],[(2984,6007,[21],[])]⟩ = .ok aJ4:=by kernel_rfl
theorem bIQ (x:aT) (hx:okD (.bRW (.slice 5 (.int .u8)) aD) x) (hp:(fun x=>0≤x.2.1) x):aJ4.wp [bP,kQ,pG,cH] [⟨(.bRW (.slice 5 (.int .u8)) aD),x⟩] [] (fun v=>(fun x r=>r.1.length≤7∧0≤r.2.2.1:(aT)→(bK × aT)→Prop) x (v.as (.bRW aB (.bRW (.slice 5 (.int .u8)) aD)))):=by
 have q1:=cF (x,4) ⟨hx,okI (by omega) (by omega)⟩ hp
 delta aJ4 bP kQ pG cH;refine cW ?_
 refine dB ?_
 refine ⟨hp,fun _=>?_⟩
 generalize cA (x,4)=r at q1 ⊢;obtain ⟨n1,c1⟩:=r;obtain ⟨kq1,uq1⟩:=q1;replace kq1:okD nB c1:=kq1.2;dsimp only at uq1 ⊢
 refine ⟨by omega,fun _=>⟨⟨uq1.2.2.2,by omega⟩,fun _=>?_⟩⟩
 have q2:=sE (c1,1+n1) ⟨kq1,okI (by omega) (by omega)⟩ ⟨uq1.2.2.2,by show 1+n1≤1000;omega⟩
 generalize pJ (c1,1+n1)=r at q2 ⊢;obtain ⟨l2,c2⟩:=r;obtain ⟨kq2,uq2⟩:=q2;replace kq2:okD nB c2:=kq2.2;dsimp only at uq2 ⊢
 refine ⟨uq2.2.2,fun _=>?_⟩
 have q3:=cF (c2,16) ⟨kq2,okI (by omega) (by omega)⟩ uq2.2.2
 generalize cA (c2,16)=r at q3 ⊢;obtain ⟨n3,c3⟩:=r;obtain ⟨kq3,uq3⟩:=q3;replace kq3:okD nB c3:=kq3.2;dsimp only at uq3 ⊢
 have hl2:List.length l2≤4:=by have:=uq2.1;omega
 refine ⟨fun _=>⟨uq3.2.2.2,fun _=>?_⟩,fun _=>⟨fun _ _=>⟨⟨uq3.2.2.2,fun h=>by cases h⟩,fun _=>?_⟩,fun _=>⟨by omega,uq3.2.2.2⟩⟩⟩
 ·have q4:=(aRM c3 kq3 uq3.2.2.2).2
  (repeat' first|intro _|(with_reducible apply And.intro))
  all_goals first|omega|exact q4|(rw[List.length_set];omega)
 ·have q5:=kP (c3,[0,6,7]) ⟨kq3,okL (e:=3) (by show 3≤1000;omega) (by intro y hy;simp at hy;omega)⟩ ⟨uq3.2.2.2,by simp⟩
  generalize hK (c3,[0,6,7])=r at q5 ⊢;obtain ⟨n5,c5⟩:=r;obtain ⟨k5,u5⟩:=q5;dsimp only at u5 ⊢
  have m5:=u5.1
  simp only[List.mem_cons,List.mem_nil_iff,or_false] at m5
  refine ⟨⟨u5.2,by omega⟩,fun _=>?_⟩
  have q6:=(sE (c5,n5) ⟨k5.2,k5.1⟩ ⟨u5.2,by show n5≤1000;omega⟩).2
  dsimp only at q6
  exact ⟨by rw[q6.1];omega,q6.2.2⟩
theorem aI7:∃ f:(aT)→(bK × aT),(∀ x,okD (.bRW (.slice 5 (.int .u8)) aD) x→(fun x=>0≤x.2.1) x→(fun x r=>r.1.length≤7∧0≤r.2.2.1:(aT)→(bK × aT)→Prop) x (f x))∧Con.Holds Tryz.prog { aJW with fn:=f }:=kT (C:=aJW) aV (aI eN (aI aDG (aI aIQ (aI jJ aQ)))) bGZ (fun x r=>r.1.length≤7∧0≤r.2.2.1:(aT)→(bK × aT)→Prop) bIQ
def yB:(aT)→(bK × aT):=Classical.choose aI7
def aDZ:Con:=⟨48,(.bRW (.slice 5 (.int .u8)) aD),(.bRW aB (.bRW (.slice 5 (.int .u8)) aD)),[.box 62 ⟨true,(.bRW (.slice 5 (.int .u8)) aD),[]⟩],[⟨false,aB,[2]⟩],false,none,
 ((fun x=>0≤x.2.1):(aT)→Prop),
 ((yB):(aT)→(bK × aT))⟩
theorem bH1:∀ x,okD (.bRW (.slice 5 (.int .u8)) aD) x→(fun x=>0≤x.2.1) x→(fun x r=>r.1.length≤7∧0≤r.2.2.1:(aT)→(bK × aT)→Prop) x (yB x):=(Classical.choose_spec aI7).1
theorem aQY:Con.Holds Tryz.prog aDZ:=(Classical.choose_spec aI7).2
theorem bHD (x:aT) (hx:okD (.bRW (.slice 5 (.int .u8)) aD) x) (hp:(fun x=>0≤x.2.1) x):okD (.bRW aB (.bRW (.slice 5 (.int .u8)) aD)) (yB x)∧(fun x r=>r.1.length≤7∧0≤r.2.2.1:(aT)→(bK × aT)→Prop) x (yB x):=⟨aQY.ok x hp hx,bH1 x hx hp⟩
def aOA:Con:=⟨80,(.bRW (.bRW (.slice 5 (.int .u8)) aD) tI),(.bRW bF (.bRW (.slice 5 (.int .u8)) aD)),[.box 62 ⟨true,(.bRW (.slice 5 (.int .u8)) aD),[]⟩,.val ⟨false,tI,[]⟩],[⟨true,bF,[0,0,0,2]⟩],false,none,
 ((fun x=>0≤x.1.2.1∧1≤x.2∧x.2≤6):(aT × Int)→Prop),
 ((fun _=>aW (.bRW bF (.bRW (.slice 5 (.int .u8)) aD))):(aT × Int)→(dI × aT))⟩
def aOJ:T:=.call 0 (.bRY (.bRW (.slice 5 (.int .u8)) aD) tI (.p1 (.bRW (.slice 5 (.int .u8)) aD) tI (.Z 0)) (.ci .i64 5)) <|
 .bRX (.ar .add .i64) (.bRY tI tI (.ci .i64 1) (.p1 tI (.bRW (.slice 5 (.int .u8)) aD) (.Z 1))) <|
 .bRX (.cmp .eql .i64) (.bRY tI tI (.Z 2) (.ci .i64 1)) <|
 .ite (.Z 3) (
  .call 0 (.bRY (.bRW (.slice 5 (.int .u8)) aD) tI (aP (.bRW tI (.bRW (.slice 5 (.int .u8)) aD)) 1 (.Z 1)) (.ci .i64 3)) <|
  .bRX (.ar .add .i64) (.bRY tI tI (.ci .i64 1) (.p1 tI (.bRW (.slice 5 (.int .u8)) aD) (.Z 4))) <|
  .call 1 (bB bF [(.Z 2),(aP (.bRW (.bRW (.slice 5 (.int .u8)) aD) tI) 1 (.Z 0)),(.Z 5),(.nl 3 tI)]) <|
  .call 2 (.bRY (.bRW (.slice 5 (.int .u8)) aD) tI (aP (.bRW tI (.bRW (.slice 5 (.int .u8)) aD)) 1 (.Z 4)) (.Z 6)) <|
  .ret (.bRY bF (.bRW (.slice 5 (.int .u8)) aD) (bB bF [(.Z 2),(aP (.bRW (.bRW (.slice 5 (.int .u8)) aD) tI) 1 (.Z 0)),(.Z 5),(.p1 aB (.bRW (.slice 5 (.int .u8)) aD) (.Z 7))]) (aP (.bRW aB (.bRW (.slice 5 (.int .u8)) aD)) 1 (.Z 7)))) (
  .call 1 (bB bF [(.Z 2),(aP (.bRW (.bRW (.slice 5 (.int .u8)) aD) tI) 1 (.Z 0)),(aP (.bRW (.bRW (.slice 5 (.int .u8)) aD) tI) 1 (.Z 0)),(.nl 3 tI)]) <|
  .call 2 (.bRY (.bRW (.slice 5 (.int .u8)) aD) tI (aP (.bRW tI (.bRW (.slice 5 (.int .u8)) aD)) 1 (.Z 1)) (.Z 4)) <|
  .ret (.bRY bF (.bRW (.slice 5 (.int .u8)) aD) (bB bF [(.Z 2),(aP (.bRW (.bRW (.slice 5 (.int .u8)) aD) tI) 1 (.Z 0)),(aP (.bRW (.bRW (.slice 5 (.int .u8)) aD) tI) 1 (.Z 0)),(.p1 aB (.bRW (.slice 5 (.int .u8)) aD) (.Z 5))]) (aP (.bRW aB (.bRW (.slice 5 (.int .u8)) aD)) 1 (.Z 5))))
theorem bMW (f:(aT × Int)→(dI × aT)):bI Tryz.prog [bP,lM,kQ] { aOA with fn:=f } false 3000 ⟨[],[]⟩ = .ok aOJ:=by kernel_rfl
theorem bJZ (x:aT × Int) (hx:okD (.bRW (.bRW (.slice 5 (.int .u8)) aD) tI) x) (hp:(fun x=>0≤x.1.2.1∧1≤x.2∧x.2≤6) x):aOJ.wp [bP,lM,kQ] [⟨(.bRW (.bRW (.slice 5 (.int .u8)) aD) tI),x⟩] [] (fun v=>(fun x r=>opB r.1=true∧0≤r.2.2.1:(aT × Int)→(dI × aT)→Prop) x (v.as (.bRW bF (.bRW (.slice 5 (.int .u8)) aD)))):=by
 obtain ⟨c,n⟩:=x
 obtain ⟨hp,hn1,hn2⟩:0≤c.2.1∧1≤n∧n≤6:=hp
 have q1:=cF (c,5) ⟨hx.1,okI (by omega) (by omega)⟩ hp
 delta aOJ bP lM kQ;refine cW ?_
 refine dB ?_
 refine ⟨hp,fun _=>?_⟩
 generalize cA (c,5)=r at q1 ⊢;obtain ⟨n1,c1⟩:=r;obtain ⟨k1,u1⟩:=q1;replace k1:okD nB c1:=k1.2;dsimp only at u1 ⊢
 refine ⟨by omega,fun _=>⟨fun h1=>⟨u1.2.2.2,fun _=>?_⟩,fun h1 hs=>?_⟩⟩
 ·have q2:=cF (c1,3) ⟨k1,okI (by omega) (by omega)⟩ u1.2.2.2
  generalize cA (c1,3)=r at q2 ⊢;obtain ⟨n2,c2⟩:=r;obtain ⟨k2,u2⟩:=q2;replace k2:okD nB c2:=k2.2;dsimp only at u2 ⊢
  have hz:=bQQ (k:=1+n1) (i:=n) (o:=1+n2) hn1 hn2 (by omega) (by omega)
  refine ⟨by omega,fun _ hs=>⟨⟨u2.2.2.2,by omega⟩,fun _=>?_⟩⟩
  have q3:=(sE (c2,gM (1+n1,n,1+n2,[])) ⟨k2,hs⟩ ⟨u2.2.2.2,by show gM (1+n1,n,1+n2,[])≤1000;omega⟩).2
  exact ⟨bJU (by omega) (by omega) hn1 hn2 (by omega) (by omega) (by omega) q3.1 q3.2.1,q3.2.2⟩
 ·have hz:=bQQ (k:=1+n1) (i:=n) (o:=n) hn1 hn2 hn1 hn2
  refine ⟨⟨u1.2.2.2,by omega⟩,fun _=>?_⟩
  have q3:=(sE (c1,gM (1+n1,n,n,[])) ⟨k1,hs⟩ ⟨u1.2.2.2,by show gM (1+n1,n,n,[])≤1000;omega⟩).2
  exact ⟨bJU (by omega) (by omega) hn1 hn2 hn1 hn2 (fun _=>rfl) q3.1 q3.2.1,q3.2.2⟩
theorem aNM:∃ f:(aT × Int)→(dI × aT),(∀ x,okD (.bRW (.bRW (.slice 5 (.int .u8)) aD) tI) x→(fun x=>0≤x.1.2.1∧1≤x.2∧x.2≤6) x→(fun x r=>opB r.1=true∧0≤r.2.2.1:(aT × Int)→(dI × aT)→Prop) x (f x))∧Con.Holds Tryz.prog { aOA with fn:=f }:=kT (C:=aOA) aV (aI eN (aI aNR (aI aDG aQ))) bMW (fun x r=>opB r.1=true∧0≤r.2.2.1:(aT × Int)→(dI × aT)→Prop) bJZ
def xK:(aT × Int)→(dI × aT):=Classical.choose aNM
def sT:Con:=⟨80,(.bRW (.bRW (.slice 5 (.int .u8)) aD) tI),(.bRW bF (.bRW (.slice 5 (.int .u8)) aD)),[.box 62 ⟨true,(.bRW (.slice 5 (.int .u8)) aD),[]⟩,.val ⟨false,tI,[]⟩],[⟨true,bF,[0,0,0,2]⟩],false,none,
 ((fun x=>0≤x.1.2.1∧1≤x.2∧x.2≤6):(aT × Int)→Prop),
 ((xK):(aT × Int)→(dI × aT))⟩
theorem bKK:∀ x,okD (.bRW (.bRW (.slice 5 (.int .u8)) aD) tI) x→(fun x=>0≤x.1.2.1∧1≤x.2∧x.2≤6) x→(fun x r=>opB r.1=true∧0≤r.2.2.1:(aT × Int)→(dI × aT)→Prop) x (xK x):=(Classical.choose_spec aNM).1
theorem aOY:Con.Holds Tryz.prog sT:=(Classical.choose_spec aNM).2
theorem aZQ (x:aT × Int) (hx:okD (.bRW (.bRW (.slice 5 (.int .u8)) aD) tI) x) (hp:(fun x=>0≤x.1.2.1∧1≤x.2∧x.2≤6) x):okD (.bRW bF (.bRW (.slice 5 (.int .u8)) aD)) (xK x)∧(fun x r=>opB r.1=true∧0≤r.2.2.1:(aT × Int)→(dI × aT)→Prop) x (xK x):=⟨aOY.ok x hp hx,bKK x hx hp⟩
def aCA:Con:=⟨41,(.bRW (.slice 5 (.int .u8)) aD),(.bRW aE (.bRW (.slice 5 (.int .u8)) aD)),[.box 62 ⟨true,(.bRW (.slice 5 (.int .u8)) aD),[]⟩],[⟨true,aE,[2]⟩],false,none,
 ((fun x=>0≤x.2.1):(aT)→Prop),
 ((fun _=>aW (.bRW aE (.bRW (.slice 5 (.int .u8)) aD))):(aT)→(aY × aT))⟩
def aBD:T:=.call 0 (.bRY (.bRW (.slice 5 (.int .u8)) aD) tI (.Z 0) (.ci .i64 3)) <|
 .bRX (.ar .add .i64) (.bRY tI tI (.ci .i64 1) (.p1 tI (.bRW (.slice 5 (.int .u8)) aD) (.Z 1))) <|
 .call 0 (.bRY (.bRW (.slice 5 (.int .u8)) aD) tI (aP (.bRW tI (.bRW (.slice 5 (.int .u8)) aD)) 1 (.Z 1)) (.ci .i64 6)) <|
 .bRX (.ar .add .i64) (.bRY tI tI (.ci .i64 1) (.p1 tI (.bRW (.slice 5 (.int .u8)) aD) (.Z 3))) <|
 .loop (.bRW tI (.bRW tI (.bRW (.slice 5 (.int .u8)) (.bRW tI (.bRW tI aE))))) (bB (.bRW tI (.bRW tI (.bRW (.slice 5 (.int .u8)) (.bRW tI (.bRW tI aE))))) [(.Z 4),(.Z 2),(aK (.bRW tI (.bRW (.slice 5 (.int .u8)) aD)) 1 (.Z 3)),(aK (.bRW tI (.bRW (.slice 5 (.int .u8)) aD)) 2 (.Z 3)),(aP (.bRW tI (.bRW (.slice 5 (.int .u8)) aD)) 3 (.Z 3)),(.nl 88 bF)]) <|
  .bRX (.cmp .gtr .i64) (.bRY tI tI (.p1 tI (.bRW tI (.bRW (.slice 5 (.int .u8)) (.bRW tI (.bRW tI aE)))) (.Z 5)) (.ci .i64 0)) <|
  .ite (.Z 6) (
   .call 1 (.bRY (.bRW (.slice 5 (.int .u8)) aD) tI (bB (.bRW (.slice 5 (.int .u8)) aD) [(aK (.bRW tI (.bRW tI (.bRW (.slice 5 (.int .u8)) (.bRW tI (.bRW tI aE))))) 2 (.Z 5)),(aK (.bRW tI (.bRW tI (.bRW (.slice 5 (.int .u8)) (.bRW tI (.bRW tI aE))))) 3 (.Z 5)),(aK (.bRW tI (.bRW tI (.bRW (.slice 5 (.int .u8)) (.bRW tI (.bRW tI aE))))) 4 (.Z 5))]) (aK (.bRW tI (.bRW tI (.bRW (.slice 5 (.int .u8)) (.bRW tI (.bRW tI aE))))) 1 (.Z 5))) <|
   .bRX (.lit 88 bF 1) (.p1 bF (.bRW (.slice 5 (.int .u8)) aD) (.Z 7)) <|
   .bRX (.bS3 88 bF 48) (.bRY aE aE (aP (.bRW tI (.bRW tI (.bRW (.slice 5 (.int .u8)) (.bRW tI (.bRW tI aE))))) 5 (.Z 5)) (.Z 8)) <|
   .bRX (.ar .sub .i64) (.bRY tI tI (.p1 tI (.bRW tI (.bRW (.slice 5 (.int .u8)) (.bRW tI (.bRW tI aE)))) (.Z 5)) (.ci .i64 1)) <|
   .bRZ 0 (bB (.bRW tI (.bRW tI (.bRW (.slice 5 (.int .u8)) (.bRW tI (.bRW tI aE))))) [(.Z 10),(aK bF 2 (.p1 bF (.bRW (.slice 5 (.int .u8)) aD) (.Z 7))),(aK (.bRW bF (.bRW (.slice 5 (.int .u8)) aD)) 1 (.Z 7)),(aK (.bRW bF (.bRW (.slice 5 (.int .u8)) aD)) 2 (.Z 7)),(aP (.bRW bF (.bRW (.slice 5 (.int .u8)) aD)) 3 (.Z 7)),(.Z 9)])) (
   .ret (bB (.bRW aE (.bRW (.slice 5 (.int .u8)) aD)) [(aP (.bRW tI (.bRW tI (.bRW (.slice 5 (.int .u8)) (.bRW tI (.bRW tI aE))))) 5 (.Z 5)),(aK (.bRW tI (.bRW tI (.bRW (.slice 5 (.int .u8)) (.bRW tI (.bRW tI aE))))) 2 (.Z 5)),(aK (.bRW tI (.bRW tI (.bRW (.slice 5 (.int .u8)) (.bRW tI (.bRW tI aE))))) 3 (.Z 5)),(aK (.bRW tI (.bRW tI (.bRW (.slice 5 (.int .u8)) (.bRW tI (.bRW tI aE))))) 4 (.Z 5))]))
theorem aZD (f:(aT)→(aY × aT)):bI Tryz.prog [bP,sT] { aCA with fn:=f } false 3000 ⟨[(2989,1005,gQ 13 7++[.tm 5 0,.tm 4 0,.bx 1 0,.bx 1 1,.bx 1 2,.sl 6])],[(2978,3008,[],[7])]⟩ = .ok aBD:=by kernel_rfl
theorem aZP (x:aT) (hx:okD (.bRW (.slice 5 (.int .u8)) aD) x) (hp:(fun x=>0≤x.2.1) x):aBD.wp [bP,sT] [⟨(.bRW (.slice 5 (.int .u8)) aD),x⟩] [] (fun v=>(fun x r=>1≤r.1.length∧r.1.length≤6∧(∀ o∈r.1,opB o=true)∧0≤r.2.2.1:(aT)→(aY × aT)→Prop) x (v.as (.bRW aE (.bRW (.slice 5 (.int .u8)) aD)))):=by
 have q1:=cF (x,3) ⟨hx,okI (by omega) (by omega)⟩ hp
 delta aBD bP sT;refine cW ?_
 refine dB ?_
 refine ⟨hp,fun _=>?_⟩
 generalize cA (x,3)=r at q1 ⊢;obtain ⟨n1,c1⟩:=r;obtain ⟨k1,u1⟩:=q1;replace k1:okD nB c1:=k1.2;dsimp only at u1 ⊢
 refine ⟨by omega,fun _=>⟨u1.2.2.2,fun _=>?_⟩⟩
 have q2:=cF (c1,6) ⟨k1,okI (by omega) (by omega)⟩ u1.2.2.2
 generalize cA (c1,6)=r at q2 ⊢;obtain ⟨n2,c2⟩:=r;obtain ⟨k2,u2⟩:=q2;replace k2:okD nB c2:=k2.2;dsimp only at u2 ⊢
 refine ⟨by omega,fun _=>⟨fun s=>@LE.le Int _ 0 s.1∧(List.length s.2.2.2.2.2:Int)+s.1=1+n2∧@LE.le Int _ 1 s.2.1∧@LE.le Int _ s.2.1 6∧(∀ o∈s.2.2.2.2.2,opB o=true)∧@LE.le Int _ 0 s.2.2.2.1,fun s=>(s.1:Int).toNat,⟨by show 0≤1+n2;omega,by show (0:Int)+(1+n2)=1+n2;omega,by show 1≤1+n1;omega,by show 1+n1≤6;omega,fun o h=>by simp at h,u2.2.2.2⟩,fun s hs hI=>?_⟩⟩
 obtain ⟨j,g,b,i,h,l⟩:=s
 obtain ⟨e1,e2,e3,e4,e5,e6⟩:=hI
 change Int at j
 change Int at g
 change List dI at l
 change 0≤j at e1
 change (l.length:Int)+j=1+n2 at e2
 change 1≤g at e3
 change g≤6 at e4
 change ∀ o∈l,opB o=true at e5
 have q:=(aZQ ((b,i,h),g) ⟨⟨hs.2.2.1,hs.2.2.2.1,hs.2.2.2.2.1⟩,hs.2.1⟩ ⟨e6,e3,e4⟩).2
 try dsimp only
 refine ⟨fun hlt=>⟨⟨e6,e3,e4⟩,fun _ _=>⟨⟨by omega,by unfold maxLen;omega⟩,fun _=>⟨by omega,fun _=>⟨⟨by omega,?_,?_,?_,fun o ho=>?_,q.2⟩,?_⟩⟩⟩⟩,fun hge=>?_⟩
 ·show (((l++[(xK ((b,i,h),g)).fst]).length:Nat):Int)+(j - 1)=1+n2
  rw[List.length_append];simp;omega
 ·obtain ⟨⟨_,_,_,_,j1,j2,_⟩,_⟩:=(gY _).1 q.1
  exact j1
 ·obtain ⟨⟨_,_,_,_,j1,j2,_⟩,_⟩:=(gY _).1 q.1
  exact j2
 ·rcases List.mem_append.1 ho with ho|ho
  ·exact e5 o ho
  ·rw[List.mem_singleton] at ho
   rw[ho];exact q.1
 ·show (j - 1).toNat<j.toNat
  omega
 ·have hj:j≤0:=by simpa using hge
  exact ⟨by omega,by omega,e5,e6⟩
theorem aD2:∃ f:(aT)→(aY × aT),(∀ x,okD (.bRW (.slice 5 (.int .u8)) aD) x→(fun x=>0≤x.2.1) x→(fun x r=>1≤r.1.length∧r.1.length≤6∧(∀ o∈r.1,opB o=true)∧0≤r.2.2.1:(aT)→(aY × aT)→Prop) x (f x))∧Con.Holds Tryz.prog { aCA with fn:=f }:=kT (C:=aCA) aV (aI eN (aI aOY aQ)) aZD (fun x r=>1≤r.1.length∧r.1.length≤6∧(∀ o∈r.1,opB o=true)∧0≤r.2.2.1:(aT)→(aY × aT)→Prop) aZP
def nM:(aT)→(aY × aT):=Classical.choose aD2
def lB:Con:=⟨41,(.bRW (.slice 5 (.int .u8)) aD),(.bRW aE (.bRW (.slice 5 (.int .u8)) aD)),[.box 62 ⟨true,(.bRW (.slice 5 (.int .u8)) aD),[]⟩],[⟨true,aE,[2]⟩],false,none,
 ((fun x=>0≤x.2.1):(aT)→Prop),
 ((nM):(aT)→(aY × aT))⟩
theorem aX4:∀ x,okD (.bRW (.slice 5 (.int .u8)) aD) x→(fun x=>0≤x.2.1) x→(fun x r=>1≤r.1.length∧r.1.length≤6∧(∀ o∈r.1,opB o=true)∧0≤r.2.2.1:(aT)→(aY × aT)→Prop) x (nM x):=(Classical.choose_spec aD2).1
theorem aAO:Con.Holds Tryz.prog lB:=(Classical.choose_spec aD2).2
theorem aK2 (x:aT) (hx:okD (.bRW (.slice 5 (.int .u8)) aD) x) (hp:(fun x=>0≤x.2.1) x):okD (.bRW aE (.bRW (.slice 5 (.int .u8)) aD)) (nM x)∧(fun x r=>1≤r.1.length∧r.1.length≤6∧(∀ o∈r.1,opB o=true)∧0≤r.2.2.1:(aT)→(aY × aT)→Prop) x (nM x):=⟨aAO.ok x hp hx,aX4 x hx hp⟩
def aCT:Con:=⟨43,(.bRW (.bRW (.slice 5 (.int .u8)) aD) aE),(.bRW aG (.bRW (.slice 5 (.int .u8)) aD)),[.box 62 ⟨true,(.bRW (.slice 5 (.int .u8)) aD),[]⟩,.val ⟨true,aE,[]⟩],[⟨false,aG,[2]⟩],false,none,
 ((fun x=>0≤x.1.2.1):(aT × aY)→Prop),
 ((fun _=>aW (.bRW aG (.bRW (.slice 5 (.int .u8)) aD))):(aT × aY)→(bO × aT))⟩
def aD4:T:=.call 0 (.bRY (.bRW (.slice 5 (.int .u8)) aD) tI (.p1 (.bRW (.slice 5 (.int .u8)) aD) aE (.Z 0)) (.ci .i64 4)) <|
 .bRX (.ar .add .i64) (.bRY tI tI (.ci .i64 1) (.p1 tI (.bRW (.slice 5 (.int .u8)) aD) (.Z 1))) <|
 .loop (.bRW tI (.bRW (.slice 5 (.int .u8)) (.bRW tI (.bRW tI aG)))) (bB (.bRW tI (.bRW (.slice 5 (.int .u8)) (.bRW tI (.bRW tI aG)))) [(.Z 2),(aK (.bRW tI (.bRW (.slice 5 (.int .u8)) aD)) 1 (.Z 1)),(aK (.bRW tI (.bRW (.slice 5 (.int .u8)) aD)) 2 (.Z 1)),(aP (.bRW tI (.bRW (.slice 5 (.int .u8)) aD)) 3 (.Z 1)),(.nl 92 aO)]) <|
  .bRX (.cmp .gtr .i64) (.bRY tI tI (.p1 tI (.bRW (.slice 5 (.int .u8)) (.bRW tI (.bRW tI aG))) (.Z 3)) (.ci .i64 0)) <|
  .ite (.Z 4) (
   .call 1 (aP (.bRW (.bRW (.slice 5 (.int .u8)) aD) aE) 1 (.Z 0)) <|
   .call 2 (.bRY (.bRW (.slice 5 (.int .u8)) aD) tI (bB (.bRW (.slice 5 (.int .u8)) aD) [(aK (.bRW tI (.bRW (.slice 5 (.int .u8)) (.bRW tI (.bRW tI aG)))) 1 (.Z 3)),(aK (.bRW tI (.bRW (.slice 5 (.int .u8)) (.bRW tI (.bRW tI aG)))) 2 (.Z 3)),(aK (.bRW tI (.bRW (.slice 5 (.int .u8)) (.bRW tI (.bRW tI aG)))) 3 (.Z 3))]) (.Z 5)) <|
   .call 3 (aP (.bRW (.bRW (.slice 5 (.int .u8)) aD) aE) 1 (.Z 0)) <|
   .call 2 (.bRY (.bRW (.slice 5 (.int .u8)) aD) tI (aP (.bRW aB (.bRW (.slice 5 (.int .u8)) aD)) 1 (.Z 6)) (.Z 7)) <|
   .bRX (.lit 92 aO 1) (.bRY aB aB (.p1 aB (.bRW (.slice 5 (.int .u8)) aD) (.Z 6)) (.p1 aB (.bRW (.slice 5 (.int .u8)) aD) (.Z 8))) <|
   .bRX (.bS3 92 aO 48) (.bRY aG aG (aP (.bRW tI (.bRW (.slice 5 (.int .u8)) (.bRW tI (.bRW tI aG)))) 4 (.Z 3)) (.Z 9)) <|
   .bRX (.ar .sub .i64) (.bRY tI tI (.p1 tI (.bRW (.slice 5 (.int .u8)) (.bRW tI (.bRW tI aG))) (.Z 3)) (.ci .i64 1)) <|
   .bRZ 0 (bB (.bRW tI (.bRW (.slice 5 (.int .u8)) (.bRW tI (.bRW tI aG)))) [(.Z 11),(aK (.bRW aB (.bRW (.slice 5 (.int .u8)) aD)) 1 (.Z 8)),(aK (.bRW aB (.bRW (.slice 5 (.int .u8)) aD)) 2 (.Z 8)),(aP (.bRW aB (.bRW (.slice 5 (.int .u8)) aD)) 3 (.Z 8)),(.Z 10)])) (
   .ret (bB (.bRW aG (.bRW (.slice 5 (.int .u8)) aD)) [(aP (.bRW tI (.bRW (.slice 5 (.int .u8)) (.bRW tI (.bRW tI aG)))) 4 (.Z 3)),(aK (.bRW tI (.bRW (.slice 5 (.int .u8)) (.bRW tI (.bRW tI aG)))) 1 (.Z 3)),(aK (.bRW tI (.bRW (.slice 5 (.int .u8)) (.bRW tI (.bRW tI aG)))) 2 (.Z 3)),(aK (.bRW tI (.bRW (.slice 5 (.int .u8)) (.bRW tI (.bRW tI aG)))) 3 (.Z 3))]))
theorem aXR (f:(aT × aY)→(bO × aT)):bI Tryz.prog [bP,qX,kQ,nT] { aCT with fn:=f } false 3000 ⟨[(2991,1003,gQ 10 7++[.dr 1,.tm 6 0,.on 5,.bx 1 0,.bx 1 1,.bx 1 2,.sl 3])],[(2983,3005,[23,19],[])]⟩ = .ok aD4:=by kernel_rfl
theorem aZ8 (x:aT × aY) (hx:okD (.bRW (.bRW (.slice 5 (.int .u8)) aD) aE) x) (hp:(fun x=>0≤x.1.2.1) x):aD4.wp [bP,qX,kQ,nT] [⟨(.bRW (.bRW (.slice 5 (.int .u8)) aD) aE),x⟩] [] (fun v=>(fun x r=>1≤r.1.length∧r.1.length≤4∧(∀ p∈r.1,p.1.length≤6∧p.2.length≤6)∧0≤r.2.2.1:(aT × aY)→(bO × aT)→Prop) x (v.as (.bRW aG (.bRW (.slice 5 (.int .u8)) aD)))):=by
 obtain ⟨c,m⟩:=x
 have q1:=cF (c,4) ⟨hx.1,okI (by omega) (by omega)⟩ hp
 have ib:=bQU m
 have ob:=bO7 m
 delta aD4 bP qX kQ nT;refine cW ?_
 refine dB ?_
 refine ⟨hp,fun _=>?_⟩
 generalize cA (c,4)=r at q1 ⊢;obtain ⟨n1,c1⟩:=r;obtain ⟨k1,u1⟩:=q1;replace k1:okD nB c1:=k1.2;dsimp only at u1 ⊢
 refine ⟨by omega,fun _=>⟨fun s=>@LE.le Int _ 0 s.1∧(List.length s.2.2.2.2:Int)+s.1=1+n1∧(∀ p∈s.2.2.2.2,List.length p.1≤6∧List.length p.2≤6)∧@LE.le Int _ 0 s.2.2.1,fun s=>(s.1:Int).toNat,⟨by show 0≤1+n1;omega,by show (0:Int)+(1+n1)=1+n1;omega,fun o h=>by simp at h,u1.2.2.2⟩,fun s hs hI=>?_⟩⟩
 obtain ⟨j,b,i,h,l⟩:=s
 obtain ⟨e1,e2,e5,e6⟩:=hI
 change Int at j
 change List bT at l
 change 0≤j at e1
 change (l.length:Int)+j=1+n1 at e2
 change ∀ p∈l,List.length p.1≤6∧List.length p.2≤6 at e5
 try dsimp only
 refine ⟨fun hlt hi=>⟨⟨e6,by omega⟩,fun _ ho=>?_⟩,fun hge=>?_⟩
 ·have q2:=sE ((b,i,h),jT m) ⟨⟨hs.2.1,hs.2.2.1,hs.2.2.2.1⟩,hi⟩ ⟨e6,by show jT m≤1000;omega⟩
  generalize pJ ((b,i,h),jT m)=r at q2 ⊢;obtain ⟨v2,c2⟩:=r;obtain ⟨k2,u2⟩:=q2;replace k2:okD nB c2:=k2.2;dsimp only at u2 ⊢
  refine ⟨⟨u2.2.2,by omega⟩,fun _=>?_⟩
  have q3:=(sE (c2,fH m) ⟨k2,ho⟩ ⟨u2.2.2,by show fH m≤1000;omega⟩).2
  generalize pJ (c2,fH m)=r at q3 ⊢;obtain ⟨v3,c3⟩:=r;dsimp only at q3 ⊢
  refine fun _=>⟨⟨by omega,by unfold maxLen;omega⟩,fun _=>⟨by omega,fun _=>⟨⟨by omega,?_,fun p hp=>?_,q3.2.2⟩,?_⟩⟩⟩
  ·show (((l++[(v2,v3)]).length:Nat):Int)+(j - 1)=1+n1
   rw[List.length_append];simp;omega
  ·rcases List.mem_append.1 hp with hp|hp
   ·exact e5 p hp
   ·rw[List.mem_singleton] at hp
    subst hp
    exact ⟨by show List.length v2≤6;rw[u2.1];omega,by show List.length v3≤6;rw[q3.1];omega⟩
  ·show (j - 1).toNat<j.toNat
   omega
 ·have hj:j≤0:=by simpa using hge
  exact ⟨by omega,by omega,e5,e6⟩
theorem aCM:∃ f:(aT × aY)→(bO × aT),(∀ x,okD (.bRW (.bRW (.slice 5 (.int .u8)) aD) aE) x→(fun x=>0≤x.1.2.1) x→(fun x r=>1≤r.1.length∧r.1.length≤4∧(∀ p∈r.1,p.1.length≤6∧p.2.length≤6)∧0≤r.2.2.1:(aT × aY)→(bO × aT)→Prop) x (f x))∧Con.Holds Tryz.prog { aCT with fn:=f }:=kT (C:=aCT) aV (aI eN (aI aZC (aI aDG (aI aRJ aQ)))) aXR (fun x r=>1≤r.1.length∧r.1.length≤4∧(∀ p∈r.1,p.1.length≤6∧p.2.length≤6)∧0≤r.2.2.1:(aT × aY)→(bO × aT)→Prop) aZ8
def nU:(aT × aY)→(bO × aT):=Classical.choose aCM
def lO:Con:=⟨43,(.bRW (.bRW (.slice 5 (.int .u8)) aD) aE),(.bRW aG (.bRW (.slice 5 (.int .u8)) aD)),[.box 62 ⟨true,(.bRW (.slice 5 (.int .u8)) aD),[]⟩,.val ⟨true,aE,[]⟩],[⟨false,aG,[2]⟩],false,none,
 ((fun x=>0≤x.1.2.1):(aT × aY)→Prop),
 ((nU):(aT × aY)→(bO × aT))⟩
theorem aZ2:∀ x,okD (.bRW (.bRW (.slice 5 (.int .u8)) aD) aE) x→(fun x=>0≤x.1.2.1) x→(fun x r=>1≤r.1.length∧r.1.length≤4∧(∀ p∈r.1,p.1.length≤6∧p.2.length≤6)∧0≤r.2.2.1:(aT × aY)→(bO × aT)→Prop) x (nU x):=(Classical.choose_spec aCM).1
theorem aAQ:Con.Holds Tryz.prog lO:=(Classical.choose_spec aCM).2
theorem aK1 (x:aT × aY) (hx:okD (.bRW (.bRW (.slice 5 (.int .u8)) aD) aE) x) (hp:(fun x=>0≤x.1.2.1) x):okD (.bRW aG (.bRW (.slice 5 (.int .u8)) aD)) (nU x)∧(fun x r=>1≤r.1.length∧r.1.length≤4∧(∀ p∈r.1,p.1.length≤6∧p.2.length≤6)∧0≤r.2.2.1:(aT × aY)→(bO × aT)→Prop) x (nU x):=⟨aAQ.ok x hp hx,aZ2 x hx hp⟩
end
end Go.Proofs.YtabamggdmdednaaGreat
