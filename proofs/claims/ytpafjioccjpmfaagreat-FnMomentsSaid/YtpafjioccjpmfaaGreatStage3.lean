/- Stage3: lemmas. No conditions. -/
import Derived.Test.YtpafjioccjpmfaaGreatZero2
import Derived.Test.YtpafjioccjpmfaaGreatSame3
namespace Go.Proofs.YtpafjioccjpmfaaGreat
noncomputable section
set_option maxRecDepth 100000
open Go.ChangeShapes Go.WideShapes Go.ChangeAt Go.RowKit Go.Deep
set_option linter.unusedVariables false
set_option linter.unusedSimpArgs false
def dM (m:List cZ):Int:=if bO m=true then (m.getD 0 qY).2.1 else 0
def cH (m:List cZ):Int:=if bO m=true then (m.getD (m.length - 1) qY).2.2.1 else 0
def cN (v:List Int) (n:Int):Bool:=nE v&&decide ((v.length:Int)=n)
theorem fF (v:List Int) (n:Int):cN v n=true↔nE v=true∧(v.length:Int)=n:=by unfold cN;rw[Bool.and_eq_true,decide_eq_true_eq]
def jE (v:List Int) (n:Int):Bool:=decide (v.length=0) || cN v n
theorem bF3 (v:List Int) (n:Int):jE v n=true↔v.length=0∨cN v n=true:=by unfold jE;rw[Bool.or_eq_true,decide_eq_true_eq]
def gI (m:List cZ) (i:Nat):Int:=if i<m.length then (m.getD i qY).2.1 else (m.getD (m.length - 1) qY).2.2.1
theorem aUU {m:List cZ} (h:bO m=true) {k:Nat} (hk:k<m.length):gI m (k+1)=(m.getD k qY).2.2.1:=by
 unfold gI
 split
 ·rename_i h1
  have h2:=((bM m).1 h).2.2 (k+1) h1
  rw[iO m h1] at h2
  rcases h2.2 with h3|h3
  ·omega
  ·rw[aW h1,aW hk]
   exact h3.symm
 ·have:m.length - 1=k:=by omega
  rw[this]
def sH (m:List cZ) (r:List (List Int)) (n:Nat):Bool:=(List.range n).all fun i=>cN (r.getD i []) (gI m i)
theorem tB (m:List cZ) (r:List (List Int)) (n:Nat):sH m r n=true↔∀ i,i<n→cN (r.getD i []) (gI m i)=true:=by unfold sH;simp only[List.all_eq_true,List.mem_range]
def aCS (m:List cZ) (redo:Bool):Nat:=if redo=true then 1 else m.length+1
def kX (m:List cZ) (redo:Bool) (x:Int × List (List Int)):Bool:=decide (x.2.length=aCS m redo)&&sH m x.2 (aCS m redo)
theorem sE (m:List cZ) (redo:Bool) (x:Int × List (List Int)):kX m redo x=true↔x.2.length=aCS m redo∧∀ i,i<aCS m redo→cN (x.2.getD i []) (gI m i)=true:=by unfold kX;rw[Bool.and_eq_true,decide_eq_true_eq,tB]
def dP (s:bG):Bool:=bO s.2.2.1&&(decide (0≤s.1∧s.1≤(s.2.1.length:Int))&&(aHL s.2.2.1 s.2.2.2.2.2.2.2.2.2.2.2.1&&(s.2.2.2.2.2.1.all (kX s.2.2.1 s.2.2.2.2.1) &&
 (jE s.2.2.2.2.2.2.2.1 (dM s.2.2.1)&&(jE s.2.2.2.2.2.2.2.2.2.2.1 (dM s.2.2.1)&&(jE s.2.2.2.2.2.2.2.2.1 (cH s.2.2.1)&&jE s.2.2.2.2.2.2.2.2.2.1 (cH s.2.2.1)))))))
theorem cD (s:bG):dP s=true↔bO s.2.2.1=true∧(0≤s.1∧s.1≤(s.2.1.length:Int))∧aHL s.2.2.1 s.2.2.2.2.2.2.2.2.2.2.2.1=true∧s.2.2.2.2.2.1.all (kX s.2.2.1 s.2.2.2.2.1)=true ∧
 jE s.2.2.2.2.2.2.2.1 (dM s.2.2.1)=true∧jE s.2.2.2.2.2.2.2.2.2.2.1 (dM s.2.2.1)=true∧jE s.2.2.2.2.2.2.2.2.1 (cH s.2.2.1)=true∧jE s.2.2.2.2.2.2.2.2.2.1 (cH s.2.2.1)=true:=by
 unfold dP;simp only[Bool.and_eq_true,decide_eq_true_eq]
theorem bOD {v:List Int} {n:Int} (h:nE v=false):false=cN v n:=by unfold cN;rw[h];rfl
theorem bON {v:List Int} {n:Int} (h:nE v=true):((v.length:Int)==n)=cN v n:=by unfold cN;rw[h,Bool.true_and];rfl
theorem aOI {s:bG} {k:Nat} (hk:k<s.2.2.2.2.2.1.length) (h:¬ kX s.2.2.1 s.2.2.2.2.1 (s.2.2.2.2.2.1.getD k (aP aL))=true):false=dP s:=by
 refine (Bool.eq_false_iff.2 fun hh=>?_).symm
 have h4:=((cD s).1 hh).2.2.2.1
 rw[List.all_eq_true] at h4
 exact h (h4 _ (by rw[aW hk];exact List.getElem_mem hk))
theorem bDO {s:bG} (h:∀ i,i<s.2.2.2.2.2.1.length→kX s.2.2.1 s.2.2.2.2.1 (s.2.2.2.2.2.1.getD i (aP aL))=true):s.2.2.2.2.2.1.all (kX s.2.2.1 s.2.2.2.2.1)=true:=by
 rw[List.all_eq_true]
 intro x hx
 obtain ⟨i,hi,rfl⟩:=List.getElem_of_mem hx
 have:=h i hi
 rwa [aW hi] at this
theorem aHJ {m:List cZ} {redo:Bool} {x:gK} {n:Nat} (hn:n=aCS m redo):kX m redo x=true↔x.2.length=n∧sH m x.2 n=true:=by
 unfold kX;rw[Bool.and_eq_true,decide_eq_true_eq,hn]
theorem bHG {s:bG} (h1:bO s.2.2.1=true) (h2:0≤s.1∧s.1≤(s.2.1.length:Int)) (h3:aHL s.2.2.1 s.2.2.2.2.2.2.2.2.2.2.2.1=true) (h4:s.2.2.2.2.2.1.all (kX s.2.2.1 s.2.2.2.2.1)=true) :
  dP s=(jE s.2.2.2.2.2.2.2.1 (dM s.2.2.1)&&(jE s.2.2.2.2.2.2.2.2.2.2.1 (dM s.2.2.1)&&(jE s.2.2.2.2.2.2.2.2.1 (cH s.2.2.1)&&jE s.2.2.2.2.2.2.2.2.2.1 (cH s.2.2.1)))):=by
 unfold dP;rw[h1,h3,h4];simp[h2]
theorem aFS {s:bG} (h:bO s.2.2.1=false∨s.1<0∨(s.2.1.length:Int)<s.1∨aHL s.2.2.1 s.2.2.2.2.2.2.2.2.2.2.2.1=false∨jE s.2.2.2.2.2.2.2.1 (dM s.2.2.1)=false∨jE s.2.2.2.2.2.2.2.2.2.2.1 (dM s.2.2.1)=false∨jE s.2.2.2.2.2.2.2.2.1 (cH s.2.2.1)=false):false=dP s:=by
 refine (Bool.eq_false_iff.2 fun hh=>?_).symm
 obtain ⟨h1,h2,h3,h4,h5,h6,h7,h8⟩:=(cD s).1 hh
 rcases h with h|h|h|h|h|h|h
 ·rw[h] at h1;cases h1
 ·omega
 ·omega
 ·rw[h] at h3;cases h3
 ·rw[h] at h5;cases h5
 ·rw[h] at h6;cases h6
 ·rw[h] at h7;cases h7
def dH:Con:=⟨95,aB,.bool,[.val ⟨false,aB,[]⟩],[⟨false,.bool,[0]⟩],false,none,
 ((fun _=>True):(List Int)→Prop),
 ((fun x=>nE x):(List Int)→(Bool))⟩
def aHN:T :=
 .bPX (.bQ0 3 tI) (.Z 0) <|
 .bPX (.cmp .geq .i64) (.bPY tI tI (.Z 1) (.ci .i64 1)) <|
 .ite (.Z 2) (
  .bPX (.bQ0 3 tI) (.Z 0) <|
  .bPX (.cmp .leq .i64) (.bPY tI tI (.Z 3) (.ci .i64 6)) <|
  .ite (.Z 4) (
   .call 0 (.Z 0) <|
   .ret (.Z 5)) (
   .ret (.cb false))) (
  .ret (.cb false))
theorem bE2:bW Tryz.prog [iA] dH false 3000 ⟨[],[]⟩ = .ok aHN:=by kernel_rfl
theorem bFW (x:List Int) (hx:okD aB x) (hp:(fun _=>True) x):aHN.wp [iA] [⟨aB,x⟩] [] (fun v=>v.as .bool=(fun x=>nE x) x):=by
 delta aHN iA;refine dY ?_;try with_reducible exact True.intro
 (repeat' first|intro _|(with_reducible apply And.intro))
 all_goals simp only[uP] at *
 all_goals first|(first|(refine (Bool.eq_false_iff.2 ?_).symm;rw[ne_eq,dB];intro hh;omega)|(refine (dB.2 ?_).symm;omega))|(rw[Bool.eq_iff_iff,dB];exact ⟨fun h=>⟨by omega,by omega,h⟩,fun h=>h.2.2⟩)
theorem pJ:Con.Holds Tryz.prog dH:=aX aZ (aG aET aT) bE2 bFW
def cG:Con:=⟨99,(.bPW aB tI),.bool,[.val ⟨false,aB,[]⟩,.val ⟨false,tI,[]⟩],[⟨false,.bool,[0]⟩],false,none,
 ((fun _=>True):(bK × Int)→Prop),
 ((fun x=>cN x.1 x.2):(bK × Int)→(Bool))⟩
def aGT:T:=.call 0 (.p1 aB tI (.Z 0)) <|.ite (.Z 1) (
 .bPX (.bQ0 3 tI) (.p1 aB tI (.Z 0)) <|
 .bPX (.cmp .eql .i64) (.bPY tI tI (.Z 2) (aS (.bPW aB tI) 1 (.Z 0))) <|
 .ret (.Z 3)) (
 .ret (.cb false))
theorem bDH:bW Tryz.prog [dH] cG false 3000 ⟨[],[]⟩ = .ok aGT:=by kernel_rfl
theorem bEQ (x:bK × Int) (hx:okD (.bPW aB tI) x) (hp:(fun _=>True) x):aGT.wp [dH] [⟨(.bPW aB tI),x⟩] [] (fun v=>v.as .bool=(fun x=>cN x.1 x.2) x):=by
 delta aGT dH;refine dY ?_
 exact ⟨fun h _=>bON h,fun h=>bOD h⟩
theorem jN:Con.Holds Tryz.prog cG:=aX aZ (aG pJ aT) bDH bEQ
def iP:Con:=⟨100,aE,tI,[.val ⟨true,aE,[]⟩],[⟨false,tI,[0]⟩],false,none,
 ((fun _=>True):(bE)→Prop),
 ((fun x=>dM x):(bE)→(Int))⟩
def aJX:T:=.call 0 (.Z 0) <|
 .bPX .not (.Z 1) <|
 .ite (.Z 2) (
  .ret (.ci .i64 0)) (
  .bPX (.bQ1 80 bU) (.bPY aE tI (.Z 0) (.ci .i64 0)) <|
  .ret (aH bU 1 (.Z 3)))
theorem bJ4:bW Tryz.prog [bV] iP false 3000 ⟨[],[]⟩ = .ok aJX:=by kernel_rfl
theorem bJS (x:bE) (hx:okD aE x) (hp:(fun _=>True) x):aJX.wp [bV] [⟨aE,x⟩] [] (fun v=>v.as tI=(fun x=>dM x) x):=by
 delta aJX bV;refine dY ?_
 refine ⟨fun h=>?_,fun h=>?_⟩
 all_goals simp only[uP] at h
 ·unfold dM;rw[h];rfl
 ·have:=(bM x).1 h
  refine ⟨by omega,fun _=>?_⟩
  unfold dM;rw[if_pos h];rfl
theorem aFD:Con.Holds Tryz.prog iP:=aX aZ (aG gZ aT) bJ4 bJS
def gF:Con:=⟨102,aE,tI,[.val ⟨true,aE,[]⟩],[⟨false,tI,[0]⟩],false,none,
 ((fun _=>True):(bE)→Prop),
 ((fun x=>cH x):(bE)→(Int))⟩
def aH3:T:=.call 0 (.Z 0) <|
 .bPX .not (.Z 1) <|
 .ite (.Z 2) (
  .ret (.ci .i64 0)) (
  .bPX (.bQ0 80 bU) (.Z 0) <|
  .bPX (.ar .sub .i64) (.bPY tI tI (.Z 3) (.ci .i64 1)) <|
  .bPX (.bQ1 80 bU) (.bPY aE tI (.Z 0) (.Z 4)) <|
  .ret (aH bU 2 (.Z 5)))
theorem bEM:bW Tryz.prog [bV] gF false 3000 ⟨[],[]⟩ = .ok aH3:=by kernel_rfl
theorem bF2 (x:bE) (hx:okD aE x) (hp:(fun _=>True) x):aH3.wp [bV] [⟨aE,x⟩] [] (fun v=>v.as tI=(fun x=>cH x) x):=by
 delta aH3 bV;refine dY ?_
 refine ⟨fun h=>?_,fun h=>?_⟩
 all_goals simp only[uP] at h
 ·unfold cH;rw[h];rfl
 ·have:=(bM x).1 h
  refine fun _=>⟨by omega,fun _=>⟨by omega,fun _=>?_⟩⟩
  unfold cH;rw[if_pos h,zB];rfl
theorem aCA:Con.Holds Tryz.prog gF:=aX aZ (aG gZ aT) bEM bF2
def qS:Con:=⟨123,(.bPW aB tI),.bool,[.val ⟨false,aB,[]⟩,.val ⟨false,tI,[]⟩],[⟨false,.bool,[0]⟩],false,none,
 ((fun _=>True):(bK × Int)→Prop),
 ((fun x=>jE x.1 x.2):(bK × Int)→(Bool))⟩
def aB5:T :=
 .bPX (.bQ0 3 tI) (.p1 aB tI (.Z 0)) <|
 .bPX (.cmp .eql .i64) (.bPY tI tI (.Z 1) (.ci .i64 0)) <|
 .ite (.Z 2) (
  .ret (.cb true)) (
  .call 0 (.Z 0) <|
  .ret (.Z 3))
theorem aUO:bW Tryz.prog [cG] qS false 3000 ⟨[],[]⟩ = .ok aB5:=by kernel_rfl
theorem aWC (x:bK × Int) (hx:okD (.bPW aB tI) x) (hp:(fun _=>True) x):aB5.wp [cG] [⟨(.bPW aB tI),x⟩] [] (fun v=>v.as .bool=(fun x=>jE x.1 x.2) x):=by
 delta aB5 cG;refine dY ?_
 intro _
 refine eD ?_
 refine ⟨fun h=>?_,fun h=>?_⟩
 ·unfold jE;rw[decide_eq_true (by omega)];rfl
 ·unfold jE;rw[decide_eq_false (by omega)];rfl
theorem aT4:Con.Holds Tryz.prog qS:=aX aZ (aG jN aT) aUO aWC
def lQ:Con:=⟨108,(.bPW aE (.bPW aO tI)),.bool,[.val ⟨false,aE,[]⟩,.val ⟨false,aO,[]⟩,.val ⟨false,tI,[]⟩],[⟨false,.bool,[0]⟩],false,none,
 ((fun x=>bO x.1=true∧x.2.2≤(x.2.1.length:Int)):(bE × (dG × Int))→Prop),
 ((fun x=>sH x.1 x.2.1 x.2.2.toNat):(bE × (dG × Int))→(Bool))⟩
def aEM:T:=.loop tI (.ci .i64 0) <|
 .bPX (.cmp .lss .i64) (.bPY tI tI (.Z 1) (aS (.bPW aE (.bPW aO tI)) 2 (.Z 0))) <|
 .ite (.Z 2) (
  .bPX (.bQ0 80 bU) (.p1 aE (.bPW aO tI) (.Z 0)) <|
  .bPX (.ar .sub .i64) (.bPY tI tI (.Z 3) (.ci .i64 1)) <|
  .bPX (.bQ1 80 bU) (.bPY aE tI (.p1 aE (.bPW aO tI) (.Z 0)) (.Z 4)) <|
  .bPX (.bQ0 80 bU) (.p1 aE (.bPW aO tI) (.Z 0)) <|
  .bPX (.cmp .lss .i64) (.bPY tI tI (.Z 1) (.Z 6)) <|
  .ite (.Z 7) (
   .bPX (.bQ1 80 bU) (.bPY aE tI (.p1 aE (.bPW aO tI) (.Z 0)) (.Z 1)) <|
   .bPX (.bQ1 134 aB) (.bPY aO tI (aH (.bPW aE (.bPW aO tI)) 1 (.Z 0)) (.Z 1)) <|
   .call 0 (.bPY aB tI (.Z 9) (aH bU 1 (.Z 8))) <|
   .bPX .not (.Z 10) <|
   .ite (.Z 11) (
    .ret (.cb false)) (
    .bPX (.ar .add .i64) (.bPY tI tI (.Z 1) (.ci .i64 1)) <|
    .bPZ 0 (.Z 12))) (
   .bPX (.bQ1 134 aB) (.bPY aO tI (aH (.bPW aE (.bPW aO tI)) 1 (.Z 0)) (.Z 1)) <|
   .call 0 (.bPY aB tI (.Z 8) (aH bU 2 (.Z 5))) <|
   .bPX .not (.Z 9) <|
   .ite (.Z 10) (
    .ret (.cb false)) (
    .bPX (.ar .add .i64) (.bPY tI tI (.Z 1) (.ci .i64 1)) <|
    .bPZ 0 (.Z 11)))) (
  .ret (.cb true))
theorem aXJ:bW Tryz.prog [cG] lQ false 3000 ⟨[(2993,1001,[.tm 7 0])],[]⟩ = .ok aEM:=by kernel_rfl
theorem aZ4 (x:bE × (dG × Int)) (hx:okD (.bPW aE (.bPW aO tI)) x) (hp:(fun x=>bO x.1=true∧x.2.2≤(x.2.1.length:Int)) x):aEM.wp [cG] [⟨(.bPW aE (.bPW aO tI)),x⟩] [] (fun v=>v.as .bool=(fun x=>sH x.1 x.2.1 x.2.2.toNat) x):=by
 obtain ⟨m,r,n⟩:=x
 obtain ⟨hm,hn⟩:bO m=true∧n≤(r.length:Int):=hp
 have hr:r.length≤9223372036854775807:=hx.2.1.1
 have hm1:=(bM m).1 hm
 delta aEM cG;refine dY ?_
 refine ⟨fun s=>∃ k:Nat,k≤n.toNat∧s=(k:Int)∧∀ i,i<k→cN (r.getD i []) (gI m i)=true,fun s=>n.toNat - (s:Int).toNat,⟨0,by omega,rfl,by omega⟩,fun s _ hI=>?_⟩
 obtain ⟨k,hk,rfl,ha⟩:=hI
 refine eD ?_
 have bad:k<n.toNat→∀ z:Int,z=gI m k→cN (r.getD k []) z=false→false=sH m r n.toNat:=fun h z hz hv=>by
  refine (Bool.eq_false_iff.2 fun hh=>?_).symm
  have:=(tB _ _ _).1 hh k h
  rw[← hz,hv] at this;cases this
 have good:∀ z:Int,z=gI m k→cN (r.getD k []) z=true→∀ i,i<k+1→cN (r.getD i []) (gI m i)=true:=fun z hz hv i hi=>by
  rcases Nat.lt_or_eq_of_le (Nat.le_of_lt_succ hi) with h|rfl
  ·exact ha i h
  ·rw[← hz];exact hv
 constructor
 ·intro hlt
  have e1:(m.getD (m.length - 1) (aP bU)).2.2.1=(m.getD (m.length - 1) qY).2.2.1:=rfl
  have e2:(m.getD k (aP bU)).2.1=(m.getD k qY).2.1:=rfl
  have z1:k<m.length→(m.getD k qY).2.1=gI m k:=fun h=>by unfold gI;rw[if_pos h]
  have z2:¬ k<m.length→(m.getD (m.length - 1) qY).2.2.1=gI m k:=fun h=>by unfold gI;rw[if_neg h]
  (repeat' first|intro _|(with_reducible apply And.intro))
  all_goals first|omega|(exact bad (by omega) _ (z1 (by omega)) (by assumption))|(exact bad (by omega) _ (z2 (by omega)) (by assumption))|(exact ⟨k+1,by omega,rfl,good _ (z1 (by omega)) (by assumption)⟩)|(exact ⟨k+1,by omega,rfl,good _ (z2 (by omega)) (by assumption)⟩)
 ·intro hge
  exact ((tB _ _ _).2 fun i hi=>ha i (by omega)).symm
theorem aMC:Con.Holds Tryz.prog lQ:=aX aZ (aG jN aT) aXJ aZ4
def eG:Con:=⟨97,aA,.bool,[.val ⟨true,aA,[]⟩],[⟨false,.bool,[0]⟩],false,none,
 ((fun _=>True):(bG)→Prop),
 ((fun x=>dP x):(bG)→(Bool))⟩
def aAW:T:=.call 0 (.Z 0) <|.call 1 (.Z 1) <|
 .bPX .not (.Z 2) <|
 .ite (.Z 3) (
  .ret (.cb false)) (
  .bPX (.cmp .lss .i64) (.bPY tI tI (.p1 tI gO (.Z 0)) (.ci .i64 0)) <|
  .ite (.Z 4) (
   .ret (.cb false)) (
   .bPX (.bQ0 76 aD) (aH aA 1 (.Z 0)) <|
   .bPX (.cmp .gtr .i64) (.bPY tI tI (.p1 tI gO (.Z 0)) (.Z 5)) <|
   .ite (.Z 6) (
    .ret (.cb false)) (
    .call 2 (.bPY aE aO (.Z 1) (aH aA 11 (.Z 0))) <|
    .bPX .not (.Z 7) <|
    .ite (.Z 8) (
     .ret (.cb false)) (
     .bPX (.bQ0 80 bU) (aH aA 2 (.Z 0)) <|
     .bPX (.ar .add .i64) (.bPY tI tI (.Z 9) (.ci .i64 1)) <|
     .ite (aH aA 4 (.Z 0)) (
      .bPX (.bQ0 104 aL) (aH aA 5 (.Z 0)) <|
      .loop tI (.ci .i64 0) <|
       .bPX (.cmp .lss .i64) (.bPY tI tI (.Z 12) (.Z 11)) <|
       .ite (.Z 13) (
        .bPX (.bQ1 104 aL) (.bPY (.slice 104 aL) tI (aH aA 5 (.Z 0)) (.Z 12)) <|
        .bPX (.bQ0 134 aB) (aS aL 1 (.Z 14)) <|
        .bPX (.cmp .neq .i64) (.bPY tI tI (.Z 15) (.ci .i64 1)) <|
        .ite (.Z 16) (
         .ret (.cb false)) (
         .call 3 (bP (.bPW aE (.bPW aO tI)) [(aH aA 2 (.Z 0)),(aS aL 1 (.Z 14)),(.ci .i64 1)]) <|
         .bPX .not (.Z 17) <|
         .ite (.Z 18) (
          .ret (.cb false)) (
          .bPX (.ar .add .i64) (.bPY tI tI (.Z 12) (.ci .i64 1)) <|
          .bPZ 0 (.Z 19)))) (
        .call 4 (.Z 1) <|
        .call 5 (.Z 1) <|
        .call 6 (.bPY aB tI (aH aA 7 (.Z 0)) (.Z 14)) <|
        .ite (.Z 16) (
         .call 6 (.bPY aB tI (aH aA 10 (.Z 0)) (.Z 14)) <|
         .ite (.Z 17) (
          .call 6 (.bPY aB tI (aH aA 8 (.Z 0)) (.Z 15)) <|
          .ite (.Z 18) (
           .call 6 (.bPY aB tI (aH aA 9 (.Z 0)) (.Z 15)) <|
           .ret (.Z 19)) (
           .ret (.cb false))) (
          .ret (.cb false))) (
         .ret (.cb false)))) (
      .bPX (.bQ0 104 aL) (aH aA 5 (.Z 0)) <|
      .loop tI (.ci .i64 0) <|
       .bPX (.cmp .lss .i64) (.bPY tI tI (.Z 12) (.Z 11)) <|
       .ite (.Z 13) (
        .bPX (.bQ1 104 aL) (.bPY (.slice 104 aL) tI (aH aA 5 (.Z 0)) (.Z 12)) <|
        .bPX (.bQ0 134 aB) (aS aL 1 (.Z 14)) <|
        .bPX (.cmp .neq .i64) (.bPY tI tI (.Z 15) (.Z 10)) <|
        .ite (.Z 16) (
         .ret (.cb false)) (
         .call 3 (bP (.bPW aE (.bPW aO tI)) [(aH aA 2 (.Z 0)),(aS aL 1 (.Z 14)),(.Z 10)]) <|
         .bPX .not (.Z 17) <|
         .ite (.Z 18) (
          .ret (.cb false)) (
          .bPX (.ar .add .i64) (.bPY tI tI (.Z 12) (.ci .i64 1)) <|
          .bPZ 0 (.Z 19)))) (
        .call 4 (.Z 1) <|
        .call 5 (.Z 1) <|
        .call 6 (.bPY aB tI (aH aA 7 (.Z 0)) (.Z 14)) <|
        .ite (.Z 16) (
         .call 6 (.bPY aB tI (aH aA 10 (.Z 0)) (.Z 14)) <|
         .ite (.Z 17) (
          .call 6 (.bPY aB tI (aH aA 8 (.Z 0)) (.Z 15)) <|
          .ite (.Z 18) (
           .call 6 (.bPY aB tI (aH aA 9 (.Z 0)) (.Z 15)) <|
           .ret (.Z 19)) (
           .ret (.cb false))) (
          .ret (.cb false))) (
         .ret (.cb false))))))))
theorem aWQ:bW Tryz.prog [eF,bV,oC,lQ,iP,gF,qS] eG false 3000 ⟨[(2979,48012,jV 41 9++[.dr 0,.tm 44 0]),(2979,32012,jV 41 9++[.dr 0,.tm 44 0])],[]⟩ = .ok aAW:=by kernel_rfl
theorem aVL (x:bG) (hx:okD aA x) (hp:(fun _=>True) x):aAW.wp [eF,bV,oC,lQ,iP,gF,qS] [⟨aA,x⟩] [] (fun v=>v.as .bool=(fun x=>dP x) x):=by
  have hst:x.2.2.2.2.2.1.length≤9223372036854775807:=hx.2.2.2.2.2.1.1
  delta aAW eF bV oC lQ iP gF qS;refine dY ?_
  refine eD ?_
  intro _
  refine ⟨fun h=>aFS (.inl h),fun h1=>⟨fun h=>aFS (.inr (.inl h)),fun h2 _=>⟨fun h=>aFS (.inr (.inr (.inl h))),fun h3=>⟨fun h=>aFS (.inr (.inr (.inr (.inl h)))),fun h4 _=>?_⟩⟩⟩⟩
  have hm:=(bM _).1 h1
  refine ⟨by omega,fun _=>⟨fun hr _=>?_,fun hr _=>?_⟩⟩
  all_goals
    refine ⟨fun s=>∃ k:Nat,k≤x.2.2.2.2.2.1.length∧s=(k:Int)∧∀ i,i<k→kX x.2.2.1 x.2.2.2.2.1 (x.2.2.2.2.2.1.getD i (aP aL))=true,fun s=>x.2.2.2.2.2.1.length - (s:Int).toNat,⟨0,by omega,rfl,by omega⟩,fun s _ hI=>?_⟩
    obtain ⟨k,hk,rfl,ha⟩:=hI
    refine eD ?_
    obtain ⟨n,hn⟩:∃ n,n=aCS x.2.2.1 x.2.2.2.2.1:=⟨_,rfl⟩
    have hn1:=hn
    unfold aCS at hn1
    rw[hr] at hn1
    simp only[if_true,Bool.false_eq_true,if_false] at hn1
    have hkn:=(hn1.symm.trans hn).symm
    clear hn hn1
    constructor
  rotate_left 1
  rotate_left 2
  all_goals first
    | (intro hge
       have hst:=bDO (s:=x) (fun i hi=>ha i (by omega))
       rw[bHG h1 ⟨by omega,by omega⟩ h4 hst]
       (repeat' first|intro _|(with_reducible apply And.intro))
       all_goals simp_all
       done)
    | skip
  all_goals
    intro hlt
    have hk':k<x.2.2.2.2.2.1.length:=by omega
    (repeat' first|intro _|(with_reducible apply And.intro))
    all_goals first|omega|exact h1|(exact aOI hk' fun hh=>by have:=((aHJ hkn.symm).1 hh).1;omega)|skip
    all_goals first|(refine aOI hk' fun hh=>?_;have h5:=((aHJ hkn.symm).1 hh).2;exact Bool.noConfusion (h5.symm.trans (by assumption:_=false)))|(refine ⟨k+1,by omega,rfl,fun i hi=>?_⟩;rcases Nat.lt_or_eq_of_le (Nat.le_of_lt_succ hi) with h|rfl;exact ha i h;exact (aHJ hkn.symm).2 ⟨by omega,by assumption⟩)
theorem uK:Con.Holds Tryz.prog eG:=aX aZ (aG uI (aG gZ (aG aRN (aG aMC (aG aFD (aG aCA (aG aT4 aT))))))) aWQ aVL
end
end Go.Proofs.YtpafjioccjpmfaaGreat
