/- Stage3: lemmas. No conditions. -/
import Derived.Test.YtlabadaccldkaaaGreatZero2
import Derived.Test.YtlabadaccldkaaaGreatSame3
namespace Go.Proofs.YtlabadaccldkaaaGreat
noncomputable section
set_option maxRecDepth 100000
open Go.ChangeShapes Go.WideShapes Go.ChangeAt Go.RowKit Go.Deep
set_option linter.unusedVariables false
set_option linter.unusedSimpArgs false
def sX (m:List jT):Int:=if iM m=true then (m.getD 0 zOp).2.1 else 0
def pE (m:List jT):Int:=if iM m=true then (m.getD (m.length - 1) zOp).2.2.1 else 0
def sY (v:List Int) (n:Int):Bool:=pP v&&decide ((v.length:Int)=n)
theorem xX (v:List Int) (n:Int):sY v n=true↔pP v=true∧(v.length:Int)=n:=by unfold sY;rw[Bool.and_eq_true,decide_eq_true_eq]
def fZ (v:List Int) (n:Int):Bool:=decide (v.length=0) || sY v n
def iO (m:List jT) (i:Nat):Int:=if i<m.length then (m.getD i zOp).2.1 else (m.getD (m.length - 1) zOp).2.2.1
theorem aL9 {m:List jT} (h:iM m=true) {k:Nat} (hk:k<m.length):iO m (k+1)=(m.getD k zOp).2.2.1:=by
 unfold iO
 split
 ·rename_i h1
  have h2:=((cB m).1 h).2.2 (k+1) h1
  rw[yF m h1] at h2
  rcases h2.2 with h3|h3
  ·omega
  ·rw[bG h1,bG hk]
   exact h3.symm
 ·have:m.length - 1=k:=by omega
  rw[this]
def wN (m:List jT) (r:List (List Int)) (n:Nat):Bool:=(List.range n).all fun i=>sY (r.getD i []) (iO m i)
theorem xC (m:List jT) (r:List (List Int)) (n:Nat):wN m r n=true↔∀ i,i<n→sY (r.getD i []) (iO m i)=true:=by unfold wN;simp only[List.all_eq_true,List.mem_range]
def vS (m:List jT) (redo:Bool):Nat:=if redo=true then 1 else m.length+1
def lL (m:List jT) (redo:Bool) (x:Int × List (List Int)):Bool:=decide (x.2.length=vS m redo)&&wN m x.2 (vS m redo)
theorem aDU (m:List jT) (redo:Bool) (x:Int × List (List Int)):lL m redo x=true↔x.2.length=vS m redo∧∀ i,i<vS m redo→sY (x.2.getD i []) (iO m i)=true:=by unfold lL;rw[Bool.and_eq_true,decide_eq_true_eq,xC]
def kH (s:bA):Bool:=iM s.2.2.1&&(decide (0≤s.1∧s.1≤(s.2.1.length:Int))&&(aEF s.2.2.1 s.2.2.2.2.2.2.2.2.2.2.2.1&&(s.2.2.2.2.2.1.all (lL s.2.2.1 s.2.2.2.2.1) &&
 (fZ s.2.2.2.2.2.2.2.1 (sX s.2.2.1)&&(fZ s.2.2.2.2.2.2.2.2.2.2.1 (sX s.2.2.1)&&(fZ s.2.2.2.2.2.2.2.2.1 (pE s.2.2.1)&&fZ s.2.2.2.2.2.2.2.2.2.1 (pE s.2.2.1)))))))
theorem dA (s:bA):kH s=true↔iM s.2.2.1=true∧(0≤s.1∧s.1≤(s.2.1.length:Int))∧aEF s.2.2.1 s.2.2.2.2.2.2.2.2.2.2.2.1=true∧s.2.2.2.2.2.1.all (lL s.2.2.1 s.2.2.2.2.1)=true ∧
 fZ s.2.2.2.2.2.2.2.1 (sX s.2.2.1)=true∧fZ s.2.2.2.2.2.2.2.2.2.2.1 (sX s.2.2.1)=true∧fZ s.2.2.2.2.2.2.2.2.1 (pE s.2.2.1)=true∧fZ s.2.2.2.2.2.2.2.2.2.1 (pE s.2.2.1)=true:=by
 unfold kH;simp only[Bool.and_eq_true,decide_eq_true_eq]
theorem aRK {v:List Int} {n:Int} (h:pP v=false):false=sY v n:=by unfold sY;rw[h];rfl
theorem aRZ {v:List Int} {n:Int} (h:pP v=true):((v.length:Int)==n)=sY v n:=by unfold sY;rw[h,Bool.true_and];rfl
theorem aAH {s:bA} {k:Nat} (hk:k<s.2.2.2.2.2.1.length) (h:¬ lL s.2.2.1 s.2.2.2.2.1 (s.2.2.2.2.2.1.getD k (aV aD))=true):false=kH s:=by
 refine (Bool.eq_false_iff.2 fun hh=>?_).symm
 have h4:=((dA s).1 hh).2.2.2.1
 rw[List.all_eq_true] at h4
 exact h (h4 _ (by rw[bG hk];exact List.getElem_mem hk))
theorem aF6 {s:bA} (h:∀ i,i<s.2.2.2.2.2.1.length→lL s.2.2.1 s.2.2.2.2.1 (s.2.2.2.2.2.1.getD i (aV aD))=true):s.2.2.2.2.2.1.all (lL s.2.2.1 s.2.2.2.2.1)=true:=by
 rw[List.all_eq_true]
 intro x hx
 obtain ⟨i,hi,rfl⟩:=List.getElem_of_mem hx
 have:=h i hi
 rwa [bG hi] at this
theorem zY {m:List jT} {redo:Bool} {x:fO} {n:Nat} (hn:n=vS m redo):lL m redo x=true↔x.2.length=n∧wN m x.2 n=true:=by
 unfold lL;rw[Bool.and_eq_true,decide_eq_true_eq,hn]
theorem aIO {s:bA} (h1:iM s.2.2.1=true) (h2:0≤s.1∧s.1≤(s.2.1.length:Int)) (h3:aEF s.2.2.1 s.2.2.2.2.2.2.2.2.2.2.2.1=true) (h4:s.2.2.2.2.2.1.all (lL s.2.2.1 s.2.2.2.2.1)=true) :
  kH s=(fZ s.2.2.2.2.2.2.2.1 (sX s.2.2.1)&&(fZ s.2.2.2.2.2.2.2.2.2.2.1 (sX s.2.2.1)&&(fZ s.2.2.2.2.2.2.2.2.1 (pE s.2.2.1)&&fZ s.2.2.2.2.2.2.2.2.2.1 (pE s.2.2.1)))):=by
 unfold kH;rw[h1,h3,h4];simp[h2]
theorem lK {s:bA} (h:iM s.2.2.1=false∨s.1<0∨(s.2.1.length:Int)<s.1∨aEF s.2.2.1 s.2.2.2.2.2.2.2.2.2.2.2.1=false∨fZ s.2.2.2.2.2.2.2.1 (sX s.2.2.1)=false∨fZ s.2.2.2.2.2.2.2.2.2.2.1 (sX s.2.2.1)=false∨fZ s.2.2.2.2.2.2.2.2.1 (pE s.2.2.1)=false):false=kH s:=by
 refine (Bool.eq_false_iff.2 fun hh=>?_).symm
 obtain ⟨h1,h2,h3,h4,h5,h6,h7,h8⟩:=(dA s).1 hh
 rcases h with h|h|h|h|h|h|h
 ·rw[h] at h1;cases h1
 ·omega
 ·omega
 ·rw[h] at h3;cases h3
 ·rw[h] at h5;cases h5
 ·rw[h] at h6;cases h6
 ·rw[h] at h7;cases h7
def gN:Con:=⟨82,aA,.bool,[.val ⟨false,aA,[]⟩],[⟨false,.bool,[0]⟩],false,none,
 ((fun _=>True):(List Int)→Prop),
 ((fun x=>pP x):(List Int)→(Bool))⟩
def aA0:T :=
 .aWT (.aWW 3 tI) (.Z 0) <|
 .aWT (.cmp .geq .i64) (.aWU tI tI (.Z 1) (.ci .i64 1)) <|
 .ite (.Z 2) (
  .aWT (.aWW 3 tI) (.Z 0) <|
  .aWT (.cmp .leq .i64) (.aWU tI tI (.Z 3) (.ci .i64 6)) <|
  .ite (.Z 4) (
   .call 0 (.Z 0) <|
   .ret (.Z 5)) (
   .ret (.cb false))) (
  .ret (.cb false))
theorem aPH:cW Tryz.prog [iZ] gN false 3000 ⟨[],[]⟩ = .ok aA0:=by kernel_rfl
theorem aQS (x:List Int) (hx:okD aA x) (hp:(fun _=>True) x):aA0.wp [iZ] [⟨aA,x⟩] [] (fun v=>v.as .bool=(fun x=>pP x) x):=by
 delta aA0 iZ;refine jN ?_;try with_reducible exact True.intro
 (repeat' first|intro _|(with_reducible apply And.intro))
 all_goals simp only[dzx] at *
 all_goals first|(first|(refine (Bool.eq_false_iff.2 ?_).symm;rw[ne_eq,tJ];intro hh;omega)|(refine (tJ.2 ?_).symm;omega))|(rw[Bool.eq_iff_iff,tJ];exact ⟨fun h=>⟨by omega,by omega,h⟩,fun h=>h.2.2⟩)
theorem zG:Con.Holds Tryz.prog gN:=aX bI (aR aDV aY) aPH aQS
def kK:Con:=⟨111,(.aWS aA tI),.bool,[.val ⟨false,aA,[]⟩,.val ⟨false,tI,[]⟩],[⟨false,.bool,[0]⟩],false,none,
 ((fun _=>True):(fN × Int)→Prop),
 ((fun x=>sY x.1 x.2):(fN × Int)→(Bool))⟩
def aA6:T:=.call 0 (.p1 aA tI (.Z 0)) <|.ite (.Z 1) (
 .aWT (.aWW 3 tI) (.p1 aA tI (.Z 0)) <|
 .aWT (.cmp .eql .i64) (.aWU tI tI (.Z 2) (aG (.aWS aA tI) 1 (.Z 0))) <|
 .ret (.Z 3)) (
 .ret (.cb false))
theorem aQG:cW Tryz.prog [gN] kK false 3000 ⟨[],[]⟩ = .ok aA6:=by kernel_rfl
theorem aQ7 (x:fN × Int) (hx:okD (.aWS aA tI) x) (hp:(fun _=>True) x):aA6.wp [gN] [⟨(.aWS aA tI),x⟩] [] (fun v=>v.as .bool=(fun x=>sY x.1 x.2) x):=by
 delta aA6 gN;refine jN ?_
 exact ⟨fun h _=>aRZ h,fun h=>aRK h⟩
theorem aG8:Con.Holds Tryz.prog kK:=aX bI (aR zG aY) aQG aQ7
def uM:Con:=⟨104,aK,tI,[.val ⟨true,aK,[]⟩],[⟨false,tI,[0]⟩],false,none,
 ((fun _=>True):(hZ)→Prop),
 ((fun x=>sX x):(hZ)→(Int))⟩
def aCS:T:=.call 0 (.Z 0) <|
 .aWT .not (.Z 1) <|
 .ite (.Z 2) (
  .ret (.ci .i64 0)) (
  .aWT (.aWX 90 aZ) (.aWU aK tI (.Z 0) (.ci .i64 0)) <|
  .ret (aO aZ 1 (.Z 3)))
theorem aTK:cW Tryz.prog [eP] uM false 3000 ⟨[],[]⟩ = .ok aCS:=by kernel_rfl
theorem aTI (x:hZ) (hx:okD aK x) (hp:(fun _=>True) x):aCS.wp [eP] [⟨aK,x⟩] [] (fun v=>v.as tI=(fun x=>sX x) x):=by
 delta aCS eP;refine jN ?_
 refine ⟨fun h=>?_,fun h=>?_⟩
 all_goals simp only[dzx] at h
 ·unfold sX;rw[h];rfl
 ·have:=(cB x).1 h
  refine ⟨by omega,fun _=>?_⟩
  unfold sX;rw[if_pos h];rfl
theorem aS0:Con.Holds Tryz.prog uM:=aX bI (aR tZ aY) aTK aTI
def rD:Con:=⟨105,aK,tI,[.val ⟨true,aK,[]⟩],[⟨false,tI,[0]⟩],false,none,
 ((fun _=>True):(hZ)→Prop),
 ((fun x=>pE x):(hZ)→(Int))⟩
def aAB:T:=.call 0 (.Z 0) <|
 .aWT .not (.Z 1) <|
 .ite (.Z 2) (
  .ret (.ci .i64 0)) (
  .aWT (.aWW 90 aZ) (.Z 0) <|
  .aWT (.ar .sub .i64) (.aWU tI tI (.Z 3) (.ci .i64 1)) <|
  .aWT (.aWX 90 aZ) (.aWU aK tI (.Z 0) (.Z 4)) <|
  .ret (aO aZ 2 (.Z 5)))
theorem aQA:cW Tryz.prog [eP] rD false 3000 ⟨[],[]⟩ = .ok aAB:=by kernel_rfl
theorem aPC (x:hZ) (hx:okD aK x) (hp:(fun _=>True) x):aAB.wp [eP] [⟨aK,x⟩] [] (fun v=>v.as tI=(fun x=>pE x) x):=by
 delta aAB eP;refine jN ?_
 refine ⟨fun h=>?_,fun h=>?_⟩
 all_goals simp only[dzx] at h
 ·unfold pE;rw[h];rfl
 ·have:=(cB x).1 h
  refine fun _=>⟨by omega,fun _=>⟨by omega,fun _=>?_⟩⟩
  unfold pE;rw[if_pos h,wA];rfl
theorem aQ0:Con.Holds Tryz.prog rD:=aX bI (aR tZ aY) aQA aPC
def mP:Con:=⟨106,(.aWS aA tI),.bool,[.val ⟨false,aA,[]⟩,.val ⟨false,tI,[]⟩],[⟨false,.bool,[0]⟩],false,none,
 ((fun _=>True):(fN × Int)→Prop),
 ((fun x=>fZ x.1 x.2):(fN × Int)→(Bool))⟩
def uN:T :=
 .aWT (.aWW 3 tI) (.p1 aA tI (.Z 0)) <|
 .aWT (.cmp .eql .i64) (.aWU tI tI (.Z 1) (.ci .i64 0)) <|
 .ite (.Z 2) (
  .ret (.cb true)) (
  .call 0 (.Z 0) <|
  .ret (.Z 3))
theorem aJ6:cW Tryz.prog [kK] mP false 3000 ⟨[],[]⟩ = .ok uN:=by kernel_rfl
theorem aKF (x:fN × Int) (hx:okD (.aWS aA tI) x) (hp:(fun _=>True) x):uN.wp [kK] [⟨(.aWS aA tI),x⟩] [] (fun v=>v.as .bool=(fun x=>fZ x.1 x.2) x):=by
 delta uN kK;refine jN ?_
 intro _
 refine gJ ?_
 refine ⟨fun h=>?_,fun h=>?_⟩
 ·unfold fZ;rw[decide_eq_true (by omega)];rfl
 ·unfold fZ;rw[decide_eq_false (by omega)];rfl
theorem aJJ:Con.Holds Tryz.prog mP:=aX bI (aR aG8 aY) aJ6 aKF
def mZ:Con:=⟨94,(.aWS aA tI),.bool,[.val ⟨false,aA,[]⟩,.val ⟨false,tI,[]⟩],[⟨false,.bool,[0]⟩],false,none,
 ((fun _=>True):(fN × Int)→Prop),
 ((fun x=>fZ x.1 x.2):(fN × Int)→(Bool))⟩
def uH:T :=
 .aWT (.aWW 3 tI) (.p1 aA tI (.Z 0)) <|
 .aWT (.cmp .eql .i64) (.aWU tI tI (.Z 1) (.ci .i64 0)) <|
 .ite (.Z 2) (
  .ret (.cb true)) (
  .call 0 (.p1 aA tI (.Z 0)) <|
  .ite (.Z 3) (
   .aWT (.aWW 3 tI) (.p1 aA tI (.Z 0)) <|
   .aWT (.cmp .eql .i64) (.aWU tI tI (.Z 4) (aG (.aWS aA tI) 1 (.Z 0))) <|
   .ret (.Z 5)) (
   .ret (.cb false)))
theorem aLA:cW Tryz.prog [eV] mZ false 3000 ⟨[],[]⟩ = .ok uH:=by kernel_rfl
theorem aLJ (x:fN × Int) (hx:okD (.aWS aA tI) x) (hp:(fun _=>True) x):uH.wp [eV] [⟨(.aWS aA tI),x⟩] [] (fun v=>v.as .bool=(fun x=>fZ x.1 x.2) x):=by
 delta uH eV;refine jN ?_
 intro _
 refine gJ ?_
 refine ⟨fun h=>?_,fun h=>⟨fun h2 _=>?_,fun h2=>?_⟩⟩
 ·unfold fZ;rw[decide_eq_true (by omega)];rfl
 ·unfold fZ;rw[decide_eq_false (by omega),Bool.false_or];exact aRZ h2
 ·unfold fZ;rw[decide_eq_false (by omega),Bool.false_or];exact aRK h2
theorem aK3:Con.Holds Tryz.prog mZ:=aX bI (aR vH aY) aLA aLJ
def pH:Con:=⟨103,(.aWS aK (.aWS aF tI)),.bool,[.val ⟨false,aK,[]⟩,.val ⟨false,aF,[]⟩,.val ⟨false,tI,[]⟩],[⟨false,.bool,[0]⟩],false,none,
 ((fun x=>iM x.1=true∧x.2.2≤(x.2.1.length:Int)):(hZ × (eT × Int))→Prop),
 ((fun x=>wN x.1 x.2.1 x.2.2.toNat):(hZ × (eT × Int))→(Bool))⟩
def wO:T:=.loop tI (.ci .i64 0) <|
 .aWT (.cmp .lss .i64) (.aWU tI tI (.Z 1) (aG (.aWS aK (.aWS aF tI)) 2 (.Z 0))) <|
 .ite (.Z 2) (
  .aWT (.aWW 90 aZ) (.p1 aK (.aWS aF tI) (.Z 0)) <|
  .aWT (.ar .sub .i64) (.aWU tI tI (.Z 3) (.ci .i64 1)) <|
  .aWT (.aWX 90 aZ) (.aWU aK tI (.p1 aK (.aWS aF tI) (.Z 0)) (.Z 4)) <|
  .aWT (.aWW 90 aZ) (.p1 aK (.aWS aF tI) (.Z 0)) <|
  .aWT (.cmp .lss .i64) (.aWU tI tI (.Z 1) (.Z 6)) <|
  .ite (.Z 7) (
   .aWT (.aWX 90 aZ) (.aWU aK tI (.p1 aK (.aWS aF tI) (.Z 0)) (.Z 1)) <|
   .aWT (.aWX 117 aA) (.aWU aF tI (aO (.aWS aK (.aWS aF tI)) 1 (.Z 0)) (.Z 1)) <|
   .call 0 (.aWU aA tI (.Z 9) (aO aZ 1 (.Z 8))) <|
   .aWT .not (.Z 10) <|
   .ite (.Z 11) (
    .ret (.cb false)) (
    .aWT (.ar .add .i64) (.aWU tI tI (.Z 1) (.ci .i64 1)) <|
    .aWV 0 (.Z 12))) (
   .aWT (.aWX 117 aA) (.aWU aF tI (aO (.aWS aK (.aWS aF tI)) 1 (.Z 0)) (.Z 1)) <|
   .call 0 (.aWU aA tI (.Z 8) (aO aZ 2 (.Z 5))) <|
   .aWT .not (.Z 9) <|
   .ite (.Z 10) (
    .ret (.cb false)) (
    .aWT (.ar .add .i64) (.aWU tI tI (.Z 1) (.ci .i64 1)) <|
    .aWV 0 (.Z 11)))) (
  .ret (.cb true))
theorem aNL:cW Tryz.prog [kK] pH false 3000 ⟨[(2993,1001,[.tm 7 0])],[]⟩ = .ok wO:=by kernel_rfl
theorem aNQ (x:hZ × (eT × Int)) (hx:okD (.aWS aK (.aWS aF tI)) x) (hp:(fun x=>iM x.1=true∧x.2.2≤(x.2.1.length:Int)) x):wO.wp [kK] [⟨(.aWS aK (.aWS aF tI)),x⟩] [] (fun v=>v.as .bool=(fun x=>wN x.1 x.2.1 x.2.2.toNat) x):=by
 obtain ⟨m,r,n⟩:=x
 obtain ⟨hm,hn⟩:iM m=true∧n≤(r.length:Int):=hp
 have hr:r.length≤9223372036854775807:=hx.2.1.1
 have hm1:=(cB m).1 hm
 delta wO kK;refine jN ?_
 refine ⟨fun s=>∃ k:Nat,k≤n.toNat∧s=(k:Int)∧∀ i,i<k→sY (r.getD i []) (iO m i)=true,fun s=>n.toNat - (s:Int).toNat,⟨0,by omega,rfl,by omega⟩,fun s _ hI=>?_⟩
 obtain ⟨k,hk,rfl,ha⟩:=hI
 refine gJ ?_
 have bad:k<n.toNat→∀ z:Int,z=iO m k→sY (r.getD k []) z=false→false=wN m r n.toNat:=fun h z hz hv=>by
  refine (Bool.eq_false_iff.2 fun hh=>?_).symm
  have:=(xC _ _ _).1 hh k h
  rw[← hz,hv] at this;cases this
 have good:∀ z:Int,z=iO m k→sY (r.getD k []) z=true→∀ i,i<k+1→sY (r.getD i []) (iO m i)=true:=fun z hz hv i hi=>by
  rcases Nat.lt_or_eq_of_le (Nat.le_of_lt_succ hi) with h|rfl
  ·exact ha i h
  ·rw[← hz];exact hv
 constructor
 ·intro hlt
  have e1:(m.getD (m.length - 1) (aV aZ)).2.2.1=(m.getD (m.length - 1) zOp).2.2.1:=rfl
  have e2:(m.getD k (aV aZ)).2.1=(m.getD k zOp).2.1:=rfl
  have z1:k<m.length→(m.getD k zOp).2.1=iO m k:=fun h=>by unfold iO;rw[if_pos h]
  have z2:¬ k<m.length→(m.getD (m.length - 1) zOp).2.2.1=iO m k:=fun h=>by unfold iO;rw[if_neg h]
  (repeat' first|intro _|(with_reducible apply And.intro))
  all_goals first|omega|(exact bad (by omega) _ (z1 (by omega)) (by assumption))|(exact bad (by omega) _ (z2 (by omega)) (by assumption))|(exact ⟨k+1,by omega,rfl,good _ (z1 (by omega)) (by assumption)⟩)|(exact ⟨k+1,by omega,rfl,good _ (z2 (by omega)) (by assumption)⟩)
 ·intro hge
  exact ((xC _ _ _).2 fun i hi=>ha i (by omega)).symm
theorem aM3:Con.Holds Tryz.prog pH:=aX bI (aR aG8 aY) aNL aNQ
def gZ:Con:=⟨84,aB,.bool,[.val ⟨true,aB,[]⟩],[⟨false,.bool,[0]⟩],false,none,
 ((fun _=>True):(bA)→Prop),
 ((fun x=>kH x):(bA)→(Bool))⟩
def sZ:T:=.call 0 (.Z 0) <|.call 1 (.Z 1) <|
 .aWT .not (.Z 2) <|
 .ite (.Z 3) (
  .ret (.cb false)) (
  .aWT (.cmp .lss .i64) (.aWU tI tI (.p1 tI aN8 (.Z 0)) (.ci .i64 0)) <|
  .ite (.Z 4) (
   .ret (.cb false)) (
   .aWT (.aWW 88 aJ) (aO aB 1 (.Z 0)) <|
   .aWT (.cmp .gtr .i64) (.aWU tI tI (.p1 tI aN8 (.Z 0)) (.Z 5)) <|
   .ite (.Z 6) (
    .ret (.cb false)) (
    .call 2 (.aWU aK aF (.Z 1) (aO aB 11 (.Z 0))) <|
    .aWT .not (.Z 7) <|
    .ite (.Z 8) (
     .ret (.cb false)) (
     .aWT (.aWW 90 aZ) (aO aB 2 (.Z 0)) <|
     .aWT (.ar .add .i64) (.aWU tI tI (.Z 9) (.ci .i64 1)) <|
     .ite (aO aB 4 (.Z 0)) (
      .aWT (.aWW 94 aD) (aO aB 5 (.Z 0)) <|
      .loop tI (.ci .i64 0) <|
       .aWT (.cmp .lss .i64) (.aWU tI tI (.Z 12) (.Z 11)) <|
       .ite (.Z 13) (
        .aWT (.aWX 94 aD) (.aWU (.slice 94 aD) tI (aO aB 5 (.Z 0)) (.Z 12)) <|
        .aWT (.aWW 117 aA) (aG aD 1 (.Z 14)) <|
        .aWT (.cmp .neq .i64) (.aWU tI tI (.Z 15) (.ci .i64 1)) <|
        .ite (.Z 16) (
         .ret (.cb false)) (
         .call 3 (aQ (.aWS aK (.aWS aF tI)) [(aO aB 2 (.Z 0)),(aG aD 1 (.Z 14)),(.ci .i64 1)]) <|
         .aWT .not (.Z 17) <|
         .ite (.Z 18) (
          .ret (.cb false)) (
          .aWT (.ar .add .i64) (.aWU tI tI (.Z 12) (.ci .i64 1)) <|
          .aWV 0 (.Z 19)))) (
        .call 4 (.Z 1) <|
        .call 5 (.Z 1) <|
        .call 6 (.aWU aA tI (aO aB 7 (.Z 0)) (.Z 14)) <|
        .ite (.Z 16) (
         .call 6 (.aWU aA tI (aO aB 10 (.Z 0)) (.Z 14)) <|
         .ite (.Z 17) (
          .call 6 (.aWU aA tI (aO aB 8 (.Z 0)) (.Z 15)) <|
          .ite (.Z 18) (
           .call 6 (.aWU aA tI (aO aB 9 (.Z 0)) (.Z 15)) <|
           .ret (.Z 19)) (
           .ret (.cb false))) (
          .ret (.cb false))) (
         .ret (.cb false)))) (
      .aWT (.aWW 94 aD) (aO aB 5 (.Z 0)) <|
      .loop tI (.ci .i64 0) <|
       .aWT (.cmp .lss .i64) (.aWU tI tI (.Z 12) (.Z 11)) <|
       .ite (.Z 13) (
        .aWT (.aWX 94 aD) (.aWU (.slice 94 aD) tI (aO aB 5 (.Z 0)) (.Z 12)) <|
        .aWT (.aWW 117 aA) (aG aD 1 (.Z 14)) <|
        .aWT (.cmp .neq .i64) (.aWU tI tI (.Z 15) (.Z 10)) <|
        .ite (.Z 16) (
         .ret (.cb false)) (
         .call 3 (aQ (.aWS aK (.aWS aF tI)) [(aO aB 2 (.Z 0)),(aG aD 1 (.Z 14)),(.Z 10)]) <|
         .aWT .not (.Z 17) <|
         .ite (.Z 18) (
          .ret (.cb false)) (
          .aWT (.ar .add .i64) (.aWU tI tI (.Z 12) (.ci .i64 1)) <|
          .aWV 0 (.Z 19)))) (
        .call 4 (.Z 1) <|
        .call 5 (.Z 1) <|
        .call 6 (.aWU aA tI (aO aB 7 (.Z 0)) (.Z 14)) <|
        .ite (.Z 16) (
         .call 6 (.aWU aA tI (aO aB 10 (.Z 0)) (.Z 14)) <|
         .ite (.Z 17) (
          .call 6 (.aWU aA tI (aO aB 8 (.Z 0)) (.Z 15)) <|
          .ite (.Z 18) (
           .call 6 (.aWU aA tI (aO aB 9 (.Z 0)) (.Z 15)) <|
           .ret (.Z 19)) (
           .ret (.cb false))) (
          .ret (.cb false))) (
         .ret (.cb false))))))))
theorem aJ4:cW Tryz.prog [nA,eP,lG,pH,uM,rD,mP] gZ false 3000 ⟨[(2979,48012,fG 41 9++[.dr 0,.tm 44 0]),(2979,32012,fG 41 9++[.dr 0,.tm 44 0])],[]⟩ = .ok sZ:=by kernel_rfl
theorem aL6 (x:bA) (hx:okD aB x) (hp:(fun _=>True) x):sZ.wp [nA,eP,lG,pH,uM,rD,mP] [⟨aB,x⟩] [] (fun v=>v.as .bool=(fun x=>kH x) x):=by
  have hst:x.2.2.2.2.2.1.length≤9223372036854775807:=hx.2.2.2.2.2.1.1
  delta sZ nA eP lG pH uM rD mP;refine jN ?_
  refine gJ ?_
  intro _
  refine ⟨fun h=>lK (.inl h),fun h1=>⟨fun h=>lK (.inr (.inl h)),fun h2 _=>⟨fun h=>lK (.inr (.inr (.inl h))),fun h3=>⟨fun h=>lK (.inr (.inr (.inr (.inl h)))),fun h4 _=>?_⟩⟩⟩⟩
  have hm:=(cB _).1 h1
  refine ⟨by omega,fun _=>⟨fun hr _=>?_,fun hr _=>?_⟩⟩
  all_goals
    refine ⟨fun s=>∃ k:Nat,k≤x.2.2.2.2.2.1.length∧s=(k:Int)∧∀ i,i<k→lL x.2.2.1 x.2.2.2.2.1 (x.2.2.2.2.2.1.getD i (aV aD))=true,fun s=>x.2.2.2.2.2.1.length - (s:Int).toNat,⟨0,by omega,rfl,by omega⟩,fun s _ hI=>?_⟩
    obtain ⟨k,hk,rfl,ha⟩:=hI
    refine gJ ?_
    obtain ⟨n,hn⟩:∃ n,n=vS x.2.2.1 x.2.2.2.2.1:=⟨_,rfl⟩
    have hn1:=hn
    unfold vS at hn1
    rw[hr] at hn1
    simp only[if_true,Bool.false_eq_true,if_false] at hn1
    have hkn:=(hn1.symm.trans hn).symm
    clear hn hn1
    constructor
  rotate_left 1
  rotate_left 2
  all_goals first
    | (intro hge
       have hst:=aF6 (s:=x) (fun i hi=>ha i (by omega))
       rw[aIO h1 ⟨by omega,by omega⟩ h4 hst]
       (repeat' first|intro _|(with_reducible apply And.intro))
       all_goals simp_all
       done)
    | skip
  all_goals
    intro hlt
    have hk':k<x.2.2.2.2.2.1.length:=by omega
    (repeat' first|intro _|(with_reducible apply And.intro))
    all_goals first|omega|exact h1|(exact aAH hk' fun hh=>by have:=((zY hkn.symm).1 hh).1;omega)|skip
    all_goals first|(refine aAH hk' fun hh=>?_;have h5:=((zY hkn.symm).1 hh).2;exact Bool.noConfusion (h5.symm.trans (by assumption:_=false)))|(refine ⟨k+1,by omega,rfl,fun i hi=>?_⟩;rcases Nat.lt_or_eq_of_le (Nat.le_of_lt_succ hi) with h|rfl;exact ha i h;exact (zY hkn.symm).2 ⟨by omega,by assumption⟩)
theorem aAU:Con.Holds Tryz.prog gZ:=aX bI (aR aLF (aR tZ (aR aHK (aR aM3 (aR aS0 (aR aQ0 (aR aJJ aY))))))) aJ4 aL6
def gY:Con:=⟨74,aB,.bool,[.val ⟨true,aB,[]⟩],[⟨false,.bool,[0]⟩],false,none,
 ((fun _=>True):(bA)→Prop),
 ((fun x=>kH x):(bA)→(Bool))⟩
def tN:T:=.call 0 (aO aB 2 (.Z 0)) <|
 .aWT .not (.Z 1) <|
 .ite (.Z 2) (
  .ret (.cb false)) (
  .aWT (.aWW 88 aJ) (aO aB 1 (.Z 0)) <|
  .call 1 (aQ (.aWS tI aJ) [(.p1 tI aN8 (.Z 0)),(.ci .i64 0),(.Z 3)]) <|
  .aWT .not (.Z 4) <|
  .ite (.Z 5) (
   .ret (.cb false)) (
   .aWT (.aWW 117 aA) (aO aB 11 (.Z 0)) <|
   .aWT (.aWW 90 aZ) (aO aB 2 (.Z 0)) <|
   .aWT (.cmp .neq .i64) (.aWU tI tI (.Z 6) (.Z 7)) <|
   .ite (.Z 8) (
    .ret (.cb false)) (
    .aWT (.aWX 90 aZ) (.aWU aK tI (aO aB 2 (.Z 0)) (.ci .i64 0)) <|
    .aWT (.aWW 90 aZ) (aO aB 2 (.Z 0)) <|
    .aWT (.ar .sub .i64) (.aWU tI tI (.Z 10) (.ci .i64 1)) <|
    .aWT (.aWX 90 aZ) (.aWU aK tI (aO aB 2 (.Z 0)) (.Z 11)) <|
    .loop tI (.ci .i64 0) <|
     .aWT (.aWW 90 aZ) (aO aB 2 (.Z 0)) <|
     .aWT (.cmp .lss .i64) (.aWU tI tI (.Z 13) (.Z 14)) <|
     .ite (.Z 15) (
      .aWT (.aWX 117 aA) (.aWU aF tI (aO aB 11 (.Z 0)) (.Z 13)) <|
      .aWT (.aWW 3 tI) (.Z 16) <|
      .aWT (.aWX 90 aZ) (.aWU aK tI (aO aB 2 (.Z 0)) (.Z 13)) <|
      .aWT (.aWW 3 tI) (aG aZ 3 (.Z 18)) <|
      .aWT (.cmp .neq .i64) (.aWU tI tI (.Z 17) (.Z 19)) <|
      .ite (.Z 20) (
       .ret (.cb false)) (
       .aWT (.ar .add .i64) (.aWU tI tI (.Z 13) (.ci .i64 1)) <|
       .aWV 0 (.Z 21))) (
      .loop tI (.ci .i64 0) <|
       .aWT (.aWW 94 aD) (aO aB 5 (.Z 0)) <|
       .aWT (.cmp .lss .i64) (.aWU tI tI (.Z 16) (.Z 17)) <|
       .ite (.Z 18) (
        .aWT (.aWX 94 aD) (.aWU (.slice 94 aD) tI (aO aB 5 (.Z 0)) (.Z 16)) <|
        .aWT (.aWW 117 aA) (aG aD 1 (.Z 19)) <|
        .aWT (.cmp .eql .i64) (.aWU tI tI (.Z 20) (.ci .i64 0)) <|
        .ite (.Z 21) (
         .ret (.cb false)) (
         .aWT (.aWX 117 aA) (.aWU aF tI (aG aD 1 (.Z 19)) (.ci .i64 0)) <|
         .call 2 (.Z 22) <|
         .aWT .not (.Z 23) <|
         .ite (.Z 24) (
          .ret (.cb false)) (
          .aWT (.aWX 117 aA) (.aWU aF tI (aG aD 1 (.Z 19)) (.ci .i64 0)) <|
          .aWT (.aWW 3 tI) (.Z 25) <|
          .aWT (.cmp .neq .i64) (.aWU tI tI (.Z 26) (aO aZ 1 (.Z 9))) <|
          .ite (.Z 27) (
           .ret (.cb false)) (
           .aWT .not (aO aB 4 (.Z 0)) <|
           .ite (.Z 28) (
            .aWT (.aWW 117 aA) (aG aD 1 (.Z 19)) <|
            .aWT (.aWW 90 aZ) (aO aB 2 (.Z 0)) <|
            .aWT (.ar .add .i64) (.aWU tI tI (.Z 30) (.ci .i64 1)) <|
            .aWT (.cmp .neq .i64) (.aWU tI tI (.Z 29) (.Z 31)) <|
            .ite (.Z 32) (
             .ret (.cb false)) (
             .ite (aO aB 4 (.Z 0)) (
              .aWT (.aWW 117 aA) (aG aD 1 (.Z 19)) <|
              .aWT (.cmp .neq .i64) (.aWU tI tI (.Z 33) (.ci .i64 1)) <|
              .ite (.Z 34) (
               .ret (.cb false)) (
               .loop tI (.ci .i64 1) <|
                .aWT (.aWW 117 aA) (aG aD 1 (.Z 19)) <|
                .aWT (.cmp .lss .i64) (.aWU tI tI (.Z 35) (.Z 36)) <|
                .ite (.Z 37) (
                 .aWT (.aWX 117 aA) (.aWU aF tI (aG aD 1 (.Z 19)) (.Z 35)) <|
                 .call 2 (.Z 38) <|
                 .aWT .not (.Z 39) <|
                 .ite (.Z 40) (
                  .ret (.cb false)) (
                  .aWT (.ar .sub .i64) (.aWU tI tI (.Z 35) (.ci .i64 1)) <|
                  .aWT (.aWX 117 aA) (.aWU aF tI (aG aD 1 (.Z 19)) (.Z 35)) <|
                  .aWT (.aWW 3 tI) (.Z 42) <|
                  .aWT (.aWX 90 aZ) (.aWU aK tI (aO aB 2 (.Z 0)) (.Z 41)) <|
                  .aWT (.cmp .neq .i64) (.aWU tI tI (.Z 43) (aO aZ 2 (.Z 44))) <|
                  .ite (.Z 45) (
                   .ret (.cb false)) (
                   .aWT (.ar .add .i64) (.aWU tI tI (.Z 35) (.ci .i64 1)) <|
                   .aWV 0 (.Z 46)))) (
                 .aWT (.ar .add .i64) (.aWU tI tI (.Z 16) (.ci .i64 1)) <|
                 .aWV 1 (.Z 38)))) (
              .loop tI (.ci .i64 1) <|
               .aWT (.aWW 117 aA) (aG aD 1 (.Z 19)) <|
               .aWT (.cmp .lss .i64) (.aWU tI tI (.Z 33) (.Z 34)) <|
               .ite (.Z 35) (
                .aWT (.aWX 117 aA) (.aWU aF tI (aG aD 1 (.Z 19)) (.Z 33)) <|
                .call 2 (.Z 36) <|
                .aWT .not (.Z 37) <|
                .ite (.Z 38) (
                 .ret (.cb false)) (
                 .aWT (.ar .sub .i64) (.aWU tI tI (.Z 33) (.ci .i64 1)) <|
                 .aWT (.aWX 117 aA) (.aWU aF tI (aG aD 1 (.Z 19)) (.Z 33)) <|
                 .aWT (.aWW 3 tI) (.Z 40) <|
                 .aWT (.aWX 90 aZ) (.aWU aK tI (aO aB 2 (.Z 0)) (.Z 39)) <|
                 .aWT (.cmp .neq .i64) (.aWU tI tI (.Z 41) (aO aZ 2 (.Z 42))) <|
                 .ite (.Z 43) (
                  .ret (.cb false)) (
                  .aWT (.ar .add .i64) (.aWU tI tI (.Z 33) (.ci .i64 1)) <|
                  .aWV 0 (.Z 44)))) (
                .aWT (.ar .add .i64) (.aWU tI tI (.Z 16) (.ci .i64 1)) <|
                .aWV 1 (.Z 36))))) (
            .ite (aO aB 4 (.Z 0)) (
             .aWT (.aWW 117 aA) (aG aD 1 (.Z 19)) <|
             .aWT (.cmp .neq .i64) (.aWU tI tI (.Z 29) (.ci .i64 1)) <|
             .ite (.Z 30) (
              .ret (.cb false)) (
              .loop tI (.ci .i64 1) <|
               .aWT (.aWW 117 aA) (aG aD 1 (.Z 19)) <|
               .aWT (.cmp .lss .i64) (.aWU tI tI (.Z 31) (.Z 32)) <|
               .ite (.Z 33) (
                .aWT (.aWX 117 aA) (.aWU aF tI (aG aD 1 (.Z 19)) (.Z 31)) <|
                .call 2 (.Z 34) <|
                .aWT .not (.Z 35) <|
                .ite (.Z 36) (
                 .ret (.cb false)) (
                 .aWT (.ar .sub .i64) (.aWU tI tI (.Z 31) (.ci .i64 1)) <|
                 .aWT (.aWX 117 aA) (.aWU aF tI (aG aD 1 (.Z 19)) (.Z 31)) <|
                 .aWT (.aWW 3 tI) (.Z 38) <|
                 .aWT (.aWX 90 aZ) (.aWU aK tI (aO aB 2 (.Z 0)) (.Z 37)) <|
                 .aWT (.cmp .neq .i64) (.aWU tI tI (.Z 39) (aO aZ 2 (.Z 40))) <|
                 .ite (.Z 41) (
                  .ret (.cb false)) (
                  .aWT (.ar .add .i64) (.aWU tI tI (.Z 31) (.ci .i64 1)) <|
                  .aWV 0 (.Z 42)))) (
                .aWT (.ar .add .i64) (.aWU tI tI (.Z 16) (.ci .i64 1)) <|
                .aWV 1 (.Z 34)))) (
             .loop tI (.ci .i64 1) <|
              .aWT (.aWW 117 aA) (aG aD 1 (.Z 19)) <|
              .aWT (.cmp .lss .i64) (.aWU tI tI (.Z 29) (.Z 30)) <|
              .ite (.Z 31) (
               .aWT (.aWX 117 aA) (.aWU aF tI (aG aD 1 (.Z 19)) (.Z 29)) <|
               .call 2 (.Z 32) <|
               .aWT .not (.Z 33) <|
               .ite (.Z 34) (
                .ret (.cb false)) (
                .aWT (.ar .sub .i64) (.aWU tI tI (.Z 29) (.ci .i64 1)) <|
                .aWT (.aWX 117 aA) (.aWU aF tI (aG aD 1 (.Z 19)) (.Z 29)) <|
                .aWT (.aWW 3 tI) (.Z 36) <|
                .aWT (.aWX 90 aZ) (.aWU aK tI (aO aB 2 (.Z 0)) (.Z 35)) <|
                .aWT (.cmp .neq .i64) (.aWU tI tI (.Z 37) (aO aZ 2 (.Z 38))) <|
                .ite (.Z 39) (
                 .ret (.cb false)) (
                 .aWT (.ar .add .i64) (.aWU tI tI (.Z 29) (.ci .i64 1)) <|
                 .aWV 0 (.Z 40)))) (
               .aWT (.ar .add .i64) (.aWU tI tI (.Z 16) (.ci .i64 1)) <|
               .aWV 1 (.Z 32)))))))) (
        .call 3 (.aWU aA tI (aO aB 7 (.Z 0)) (aO aZ 1 (.Z 9))) <|
        .ite (.Z 19) (
         .call 3 (.aWU aA tI (aO aB 8 (.Z 0)) (aO aZ 2 (.Z 12))) <|
         .ite (.Z 20) (
          .call 3 (.aWU aA tI (aO aB 9 (.Z 0)) (aO aZ 2 (.Z 12))) <|
          .ite (.Z 21) (
           .call 3 (.aWU aA tI (aO aB 10 (.Z 0)) (aO aZ 1 (.Z 9))) <|
           .ret (.Z 22)) (
           .ret (.cb false))) (
          .ret (.cb false))) (
         .ret (.cb false)))))))
theorem aIP:cW Tryz.prog [mY,bO,eV,mZ] gY false 3000 ⟨[(2984,8013,fG 46 9++[.dr 0,.tm 5 0]),(2974,16016,fG 51 47++[.dr 5,.tm 6 0]),(2956,5392035,[.tm 8 0]),(2956,2320033,[.tm 8 0]),(2956,2576031,[.tm 8 0]),(2956,1040029,[.tm 8 0])],[]⟩ = .ok tN:=by kernel_rfl
theorem aJB (x:bA) (hx:okD aB x) (hp:(fun _=>True) x):tN.wp [mY,bO,eV,mZ] [⟨aB,x⟩] [] (fun v=>v.as .bool=(fun x=>kH x) x):=by
  obtain ⟨pc,plan,ops,last,redo,stash,full,X,Y,G,D,sum⟩:=x
  have hst:stash.length≤9223372036854775807:=hx.2.2.2.2.2.1.1
  have hsr:∀ k,k<stash.length→(stash.getD k (aV aD)).2.length≤9223372036854775807:=fun k hk=>by rw[bG hk];exact (hx.2.2.2.2.2.1.2 _ (List.getElem_mem hk)).2.1
  have hol:ops.length≤9223372036854775807:=hx.2.2.1.1
  delta tN mY bO eV mZ;refine jN ?_
  refine gJ ?_
  refine ⟨fun h=>lK (.inl h),fun h1 _=>⟨fun h=>?_,fun h2 _ _=>⟨fun h=>?_,fun h3=>?_⟩⟩⟩
  · rcases h with h|h
    · exact lK (.inr (.inl (by omega)))
    · exact lK (.inr (.inr (.inl (by omega))))
  · exact lK (.inr (.inr (.inr (.inl (Bool.eq_false_iff.2 fun hh=>by rw[jU] at hh;dsimp only at hh;omega)))))
  have hm:=(cB _).1 h1
  refine ⟨by omega,fun _ _=>⟨by omega,fun _=>⟨by omega,fun _=>?_⟩⟩⟩
  have ein:(ops.getD 0 (aV aZ)).2.1=sX ops:=by unfold sX;rw[if_pos h1];rfl
  have eout:(ops.getD (ops.length - 1) (aV aZ)).2.2.1=pE ops:=by unfold pE;rw[if_pos h1];rfl
  simp only[ein,eout]
  refine ⟨fun s=>∃ k:Nat,k≤ops.length∧s=(k:Int)∧∀ i,i<k→aCM ops sum.1 i=true,fun s=>ops.length - (s:Int).toNat,⟨0,by omega,rfl,by omega⟩,fun s _ hI=>?_⟩
  obtain ⟨k,hk,rfl,hf⟩:=hI
  refine gJ ?_
  intro _
  constructor
  · intro hlt
    have hk':k<ops.length:=by omega
    have hk2:k<sum.1.length:=by omega
    have e:=aFI ops sum.1 hk' hk2
    rw[← bG hk' (d:=aV aZ),← bG hk2 (d:=aV aA)] at e
    (repeat' first|intro _|(with_reducible apply And.intro))
    all_goals first|omega|(exact lK (.inr (.inr (.inr (.inl (aKZ hk' fun h2=>by have:=e.1 h2;omega))))))|(refine ⟨k+1,by omega,rfl,fun i hi=>?_⟩;rcases Nat.lt_or_eq_of_le (Nat.le_of_lt_succ hi) with h|rfl;exact hf i h;exact e.2 (by omega))
  intro hge
  have hfit:aEF ops sum.1=true:=(jU _ _).2 ⟨by omega,fun i hi=>hf i (by omega)⟩
  obtain ⟨F,hF⟩:∃ F:fO→Bool,F=lL ops redo:=⟨_,rfl⟩
  obtain ⟨n,hn⟩:∃ n,n=vS ops redo:=⟨_,rfl⟩
  have hz0:iO ops 0=sX ops:=by unfold iO sX;rw[if_pos (by omega),if_pos h1]
  have sb:∀ S:fO,F S=true↔S.2.length=n∧∀ i,i<n→sY (S.2.getD i (aV aA)) (iO ops i)=true:=fun S=>by rw[hF,hn];exact aDU _ _ _
  have bad:∀ j,j<stash.length→¬ F (stash.getD j (aV aD))=true→false=kH (pc,plan,ops,last,redo,stash,full,X,Y,G,D,sum):=fun j hj h=>aAH hj (by show ¬ lL ops redo _=true;rw[← hF];exact h)
  have fin:(∀ i,i<stash.length→F (stash.getD i (aV aD))=true)→kH (pc,plan,ops,last,redo,stash,full,X,Y,G,D,sum)=(fZ X (sX ops)&&(fZ D (sX ops)&&(fZ Y (pE ops)&&fZ G (pE ops)))) :=
    fun h=>aIO h1 ⟨by dsimp only;omega,by dsimp only;omega⟩ hfit (aF6 fun i hi=>by show lL ops redo _=true;rw[← hF];exact h i hi)
  have hn1:(redo=true→n=1)∧(redo=false→n=ops.length+1):=by rw[hn];unfold vS;exact ⟨fun h=>by rw[h];rfl,fun h=>by rw[h];rfl⟩
  clear hF hn
  cases redo
  all_goals
    simp only[Bool.not_true,Bool.not_false,reduceCtorEq,true_implies,false_implies,and_true,true_and,forall_const] at hn1 ⊢
    refine ⟨fun s=>∃ k:Nat,k≤stash.length∧s=(k:Int)∧∀ i,i<k→F (stash.getD i (aV aD))=true,fun s=>stash.length - (s:Int).toNat,⟨0,by omega,rfl,by omega⟩,fun s _ hI=>?_⟩
    obtain ⟨j,hj,rfl,ha⟩:=hI
    refine gJ ?_
    intro _
    constructor
    rotate_left
    · intro hge
      rw[fin fun i hi=>ha i (by omega)]
      (repeat' first|intro _|(with_reducible apply And.intro))
      all_goals simp_all
    intro hlt
    have hj':j<stash.length:=by omega
    have hrl:=hsr j hj'
    have bj:=bad j hj'
    have sj:=sb (stash.getD j (aV aD))
    have nx:F (stash.getD j (aV aD))=true→∀ i,i<j+1→F (stash.getD i (aV aD))=true:=fun h i hi=>by
      rcases Nat.lt_or_eq_of_le (Nat.le_of_lt_succ hi) with h'|rfl
      · exact ha i h'
      · exact h
    clear ha fin bad sb hsr
    generalize stash.getD j (aV aD)=S at *
    (repeat' first|intro _|(with_reducible apply And.intro))
    all_goals first|omega|(refine bj fun hh=>?_;have:=(sj.1 hh).1;omega)|(refine bj fun hh=>?_;have h5:=(sj.1 hh).2 0 (by omega);rw[xX] at h5;first|omega|(simp_all;done))|skip
    refine ⟨fun s=>∃ k:Nat,1≤k∧k≤S.2.length∧s=(k:Int)∧∀ i,1≤i→i<k→sY (S.2.getD i (aV aA)) (iO ops i)=true,fun s=>S.2.length - (s:Int).toNat,⟨1,by omega,by omega,rfl,by omega⟩,fun s _ hI=>?_⟩
    obtain ⟨k,hk1,hk,rfl,ha⟩:=hI
    refine gJ ?_
    have hsz:k≤ops.length→iO ops k=(ops.getD (k - 1) (aV aZ)).2.2.1:=fun h=>by
      have:=aL9 h1 (k:=k - 1) (by omega)
      rwa [Nat.sub_add_cancel hk1] at this
    (repeat' first|intro _|(with_reducible apply And.intro))
    all_goals first|omega|skip
    all_goals first
      | (refine bj fun hh=>?_;have h5:=(sj.1 hh).2 k (by omega);rw[xX,hsz (by omega)] at h5;first|omega|(simp_all;done))
      | (refine ⟨k+1,by omega,by omega,rfl,fun i hi1 hi=>?_⟩
         rcases Nat.lt_or_eq_of_le (Nat.le_of_lt_succ hi) with h'|rfl
         · exact ha i hi1 h'
         · rw[xX,hsz (by omega)];exact ⟨by assumption,by omega⟩)
      | (refine ⟨j+1,by omega,rfl,nx (sj.2 ⟨by omega,fun i hi=>?_⟩)⟩
         by_cases hi1:1≤i
         · exact ha i hi1 (by omega)
         · obtain rfl:i=0:=by omega
           rw[xX,hz0];exact ⟨by assumption,by omega⟩)
theorem aAR:Con.Holds Tryz.prog gY:=aX bI (aR aIX (aR iI (aR vH (aR aK3 aY)))) aIP aJB
end
end Go.Proofs.YtlabadaccldkaaaGreat
