/- Same3: lemmas. No conditions. -/
import Derived.Test.YtdeobhdbmehpgaaGreatOps2
namespace Go.Proofs.YtdeobhdbmehpgaaGreat
noncomputable section
set_option maxRecDepth 100000
open Go.ChangeShapes Go.WideShapes Go.ChangeAt Go.RowKit Go.Deep
set_option linter.unusedVariables false
set_option linter.unusedSimpArgs false
def eqB {α:Type} (a b:α):Bool:=@decide (a=b) (Classical.propDecidable _)
theorem hN {α:Type} {a b:α}:eqB a b=true↔a=b:=by unfold eqB;rw[@decide_eq_true_eq]
theorem aDK {α:Type} {a b:α}:eqB a b=false↔¬ a=b:=by rw[← hN (a:=a) (b:=b),Bool.not_eq_true]
theorem eqF {α:Type} {a b:α} (h:¬ a=b):false=eqB a b:=(aDK.2 h).symm
theorem eqT {α:Type} {a b:α} (h:a=b):true=eqB a b:=(hN.2 h).symm
theorem nF {α:Type} {a b:List α} {d:α} (hl:a.length=b.length) (h:∀ i,i<a.length→a.getD i d=b.getD i d):a=b:=by
 refine List.ext_getElem hl fun i h1 h2=>?_
 have:=h i h1
 rwa [aZ h1,aZ h2] at this
theorem aXL {x y:Int × Int}:(vM aE x y != true)=true↔¬ x=y:=by
 obtain ⟨a,b⟩:=x;obtain ⟨c,d⟩:=y
 simp only[vM,bne_iff_ne,ne_eq,Bool.and_eq_true,eS]
 rw[beq_iff_eq,beq_iff_eq]
theorem bGX {x y:Int × Int}:(vM aE x y != true)=false↔x=y:=by
 rw[← Bool.not_eq_true,aXL,Classical.not_not]
theorem aYP {x y:Bool}:(vM .bool x y != true)=true↔¬ x=y:=by cases x <;> cases y <;> simp[vM]
theorem aZZ {x y:Bool}:(vM .bool x y != true)=false↔x=y:=by cases x <;> cases y <;> simp[vM]
theorem bIO {x y:Bool}:(vM .bool x y != false)=eqB x y:=by
 rw[Bool.eq_iff_iff,hN];cases x <;> cases y <;> simp[vM]
theorem qF {x y:Int}:(x != y)=true↔¬ x=y:=by rw[bne_iff_ne]
theorem qI {x y:Int}:(x != y)=false↔x=y:=by rw[bne_eq_false_iff_eq]
theorem aQO {b:Bool}:(!b)=true↔b=false:=by cases b <;> simp
theorem aRQ {b:Bool}:(!b)=false↔b=true:=by cases b <;> simp
def dC:Con:=⟨50,aM,.bool,[.val ⟨false,aB,[]⟩,.val ⟨false,aB,[]⟩],[⟨false,.bool,[0]⟩],false,none,
 ((fun _=>True):(bP)→Prop),
 ((fun x=>eqB x.1 x.2):(bP)→(Bool))⟩
def aB8:T :=
 .bNU (.bNX 3 tI) (.p1 aB aB (.Z 0)) <|
 .bNU (.bNX 3 tI) (aO aM 1 (.Z 0)) <|
 .bNU (.cmp .neq .i64) (.bNV tI tI (.Z 1) (.Z 2)) <|
 .ite (.Z 3) (
  .ret (.cb false)) (
  .loop tI (.ci .i64 0) <|
   .bNU (.bNX 3 tI) (.p1 aB aB (.Z 0)) <|
   .bNU (.cmp .lss .i64) (.bNV tI tI (.Z 4) (.Z 5)) <|
   .ite (.Z 6) (
    .bNU (.bNY 3 tI) (.bNV aB tI (.p1 aB aB (.Z 0)) (.Z 4)) <|
    .bNU (.bNY 3 tI) (.bNV aB tI (aO aM 1 (.Z 0)) (.Z 4)) <|
    .bNU (.cmp .neq .i64) (.bNV tI tI (.Z 7) (.Z 8)) <|
    .ite (.Z 9) (
     .ret (.cb false)) (
     .bNU (.ar .add .i64) (.bNV tI tI (.Z 4) (.ci .i64 1)) <|
     .bNW 0 (.Z 10))) (
    .ret (.cb true)))
theorem aTB:bM Tryz.prog [] dC false 3000 ⟨[(2988,2004,iT 10 6++[.tm 5 0])],[]⟩ = .ok aB8:=by kernel_rfl
theorem aVU (x:bP) (hx:okD aM x) (hp:(fun _=>True) x):aB8.wp [] [⟨aM,x⟩] [] (fun v=>v.as .bool=(fun x=>eqB x.1 x.2) x):=by
 obtain ⟨a,b⟩:=x
 have hm:a.length≤9223372036854775807:=by have:a.length≤maxLen:=hx.1.1;unfold maxLen at this;omega
 delta aB8;refine dB ?_
 simp only[qF,qI,bCS]
 refine fun _ _=>⟨fun h=>eqF fun e=>h (by rw[e]),fun hl=>?_⟩
 refine ⟨fun s=>∃ k:Nat,k≤a.length∧s=(k:Int)∧∀ i,i<k→a.getD i (aV tI)=b.getD i (aV tI),fun s=>a.length - (s:Int).toNat,⟨0,by omega,rfl,by omega⟩,fun s _ hI=>?_⟩
 obtain ⟨k,hk,rfl,ha⟩:=hI
 refine dT ?_
 intro _
 constructor
 ·intro hlt
  (repeat' first|intro _|(with_reducible apply And.intro))
  all_goals first|omega|(exact eqF fun e=>‹¬ _=_› (by rw[e]))|skip
  refine ⟨k+1,by omega,rfl,fun i hi=>?_⟩
  rcases Nat.lt_or_eq_of_le (Nat.le_of_lt_succ hi) with h|rfl
  ·exact ha i h
  ·assumption
 ·intro hge
  exact eqT (nF hl fun i hi=>ha i (by omega))
theorem oR:Con.Holds Tryz.prog dC:=aS aW aR aTB aVU
def iG:Con:=⟨87,(.bNT aI aI),.bool,[.val ⟨false,aI,[]⟩,.val ⟨false,aI,[]⟩],[⟨false,.bool,[0]⟩],false,none,
 ((fun _=>True):(cV × cV)→Prop),
 ((fun x=>eqB x.1 x.2):(cV × cV)→(Bool))⟩
def wN:T :=
 .bNU (.bNX 112 aB) (.p1 aI aI (.Z 0)) <|
 .bNU (.bNX 112 aB) (aO (.bNT aI aI) 1 (.Z 0)) <|
 .bNU (.cmp .neq .i64) (.bNV tI tI (.Z 1) (.Z 2)) <|
 .ite (.Z 3) (
  .ret (.cb false)) (
  .loop tI (.ci .i64 0) <|
   .bNU (.bNX 112 aB) (.p1 aI aI (.Z 0)) <|
   .bNU (.cmp .lss .i64) (.bNV tI tI (.Z 4) (.Z 5)) <|
   .ite (.Z 6) (
    .bNU (.bNY 112 aB) (.bNV aI tI (.p1 aI aI (.Z 0)) (.Z 4)) <|
    .bNU (.bNY 112 aB) (.bNV aI tI (aO (.bNT aI aI) 1 (.Z 0)) (.Z 4)) <|
    .call 0 (.bNV aB aB (.Z 7) (.Z 8)) <|
    .bNU .not (.Z 9) <|
    .ite (.Z 10) (
     .ret (.cb false)) (
     .bNU (.ar .add .i64) (.bNV tI tI (.Z 4) (.ci .i64 1)) <|
     .bNW 0 (.Z 11))) (
    .ret (.cb true)))
theorem aR2:bM Tryz.prog [dC] iG false 3000 ⟨[(2988,2004,iT 10 6++[.tm 5 0])],[]⟩ = .ok wN:=by kernel_rfl
theorem aPP (x:cV × cV) (hx:okD (.bNT aI aI) x) (hp:(fun _=>True) x):wN.wp [dC] [⟨(.bNT aI aI),x⟩] [] (fun v=>v.as .bool=(fun x=>eqB x.1 x.2) x):=by
 obtain ⟨a,b⟩:=x
 have hm:a.length≤9223372036854775807:=by have:a.length≤maxLen:=hx.1.1;unfold maxLen at this;omega
 delta wN dC;refine dB ?_
 simp only[qF,qI,bCS,aQO,aRQ,hN,aDK]
 refine fun _ _=>⟨fun h=>eqF fun e=>h (by rw[e]),fun hl=>?_⟩
 refine ⟨fun s=>∃ k:Nat,k≤a.length∧s=(k:Int)∧∀ i,i<k→a.getD i (aV aB)=b.getD i (aV aB),fun s=>a.length - (s:Int).toNat,⟨0,by omega,rfl,by omega⟩,fun s _ hI=>?_⟩
 obtain ⟨k,hk,rfl,ha⟩:=hI
 refine dT ?_
 intro _
 constructor
 ·intro hlt
  (repeat' first|intro _|(with_reducible apply And.intro))
  all_goals first|omega|(exact eqF fun e=>‹¬ _=_› (by rw[e]))|skip
  refine ⟨k+1,by omega,rfl,fun i hi=>?_⟩
  rcases Nat.lt_or_eq_of_le (Nat.le_of_lt_succ hi) with h|rfl
  ·exact ha i h
  ·assumption
 ·intro hge
  exact eqT (nF hl fun i hi=>ha i (by omega))
theorem aFE:Con.Holds Tryz.prog iG:=aS aW (aH oR aR) aR2 aPP
def lQ:Con:=⟨88,(.bNT aT aT),.bool,[.val ⟨true,aT,[]⟩,.val ⟨true,aT,[]⟩],[⟨false,.bool,[0]⟩],false,none,
 ((fun _=>True):(dP × dP)→Prop),
 ((fun x=>eqB x.1 x.2):(dP × dP)→(Bool))⟩
def uA:T :=
 .bNU (.cmp .eql .i64) (.bNV tI tI (aJ aT 1 (.p1 aT aT (.Z 0))) (aJ (.bNT aT aT) 2 (.Z 0))) <|
 .ite (.Z 1) (
  .bNU (.eqv false .bool) (.bNV .bool .bool (aO aT 2 (.p1 aT aT (.Z 0))) (aO (.bNT aT aT) 3 (.Z 0))) <|
  .ite (.Z 2) (
   .call 0 (.bNV aI aI (.p1 aI (.bNT tI .bool) (.p1 aT aT (.Z 0))) (aJ (.bNT aT aT) 1 (.Z 0))) <|
   .ret (.Z 3)) (
   .ret (.cb false))) (
  .ret (.cb false))
theorem aMR:bM Tryz.prog [iG] lQ false 3000 ⟨[],[]⟩ = .ok uA:=by kernel_rfl
theorem aMB (x:dP × dP) (hx:okD (.bNT aT aT) x) (hp:(fun _=>True) x):uA.wp [iG] [⟨(.bNT aT aT),x⟩] [] (fun v=>v.as .bool=(fun x=>eqB x.1 x.2) x):=by
 obtain ⟨a,b⟩:=x
 delta uA iG;refine dB ?_
 have e:(a=b)↔(a.1=b.1∧a.2.1=b.2.1∧a.2.2=b.2.2):=by simp[Prod.ext_iff]
 simp only[bIO,beq_iff_eq,beq_eq_false_iff_ne,hN,aDK,ne_eq]
 (repeat' first|intro _|(with_reducible apply And.intro))
 all_goals first|(refine eqF ?_;rw[e];simp_all;done)|(rw[Bool.eq_iff_iff,hN,hN,e];simp_all;done)
theorem aN4:Con.Holds Tryz.prog lQ:=aS aW (aH aFE aR) aMR aMB
def rO:Con:=⟨89,(.bNT bG bG),.bool,[.val ⟨true,bG,[]⟩,.val ⟨true,bG,[]⟩],[⟨false,.bool,[0]⟩],false,none,
 ((fun _=>True):(dJ × dJ)→Prop),
 ((fun x=>eqB x.1 x.2):(dJ × dJ)→(Bool))⟩
def aE9:T :=
 .bNU (.cmp .eql .i64) (.bNV tI tI (.p1 tI (.bNT tI aF) (.p1 bG bG (.Z 0))) (aJ (.bNT bG bG) 1 (.Z 0))) <|
 .ite (.Z 1) (
  .bNU (.cmp .eql .i64) (.bNV tI tI (aJ bG 1 (.p1 bG bG (.Z 0))) (aJ (.bNT bG bG) 2 (.Z 0))) <|
  .ite (.Z 2) (
   .bNU (.cmp .eql .i64) (.bNV tI tI (aJ bG 2 (.p1 bG bG (.Z 0))) (aJ (.bNT bG bG) 3 (.Z 0))) <|
   .ite (.Z 3) (
    .call 0 (.bNV aB aB (aO bG 3 (.p1 bG bG (.Z 0))) (aO (.bNT bG bG) 4 (.Z 0))) <|
    .ret (.Z 4)) (
    .ret (.cb false))) (
   .ret (.cb false))) (
  .ret (.cb false))
theorem aWU:bM Tryz.prog [dC] rO false 3000 ⟨[],[]⟩ = .ok aE9:=by kernel_rfl
theorem aXD (x:dJ × dJ) (hx:okD (.bNT bG bG) x) (hp:(fun _=>True) x):aE9.wp [dC] [⟨(.bNT bG bG),x⟩] [] (fun v=>v.as .bool=(fun x=>eqB x.1 x.2) x):=by
 obtain ⟨a,b⟩:=x
 delta aE9 dC;refine dB ?_
 have e:(a=b)↔(a.1=b.1∧a.2.1=b.2.1∧a.2.2.1=b.2.2.1∧a.2.2.2=b.2.2.2):=by simp[Prod.ext_iff]
 simp only[bIO,beq_iff_eq,beq_eq_false_iff_ne,hN,aDK,ne_eq]
 (repeat' first|intro _|(with_reducible apply And.intro))
 all_goals first|(refine eqF ?_;rw[e];simp_all;done)|(rw[Bool.eq_iff_iff,hN,hN,e];simp_all;done)
theorem aYV:Con.Holds Tryz.prog rO:=aS aW (aH oR aR) aWU aXD
def dV:Con:=⟨60,aA,aK,[.val ⟨true,aA,[]⟩],[⟨true,aK,[0]⟩],true,none,
 ((fun _=>True):(bA)→Prop),
 ((fun x=>x.2.2.1):(bA)→(bD))⟩
def zN:T:=.ret (aJ aA 2 (.Z 0))
theorem aU4:bM Tryz.prog [] dV false 3000 ⟨[],[]⟩ = .ok zN:=by kernel_rfl
theorem aU8 (x:bA) (hx:okD aA x) (hp:(fun _=>True) x):zN.wp [] [⟨aA,x⟩] [] (fun v=>v.as aK=(fun x=>x.2.2.1) x):=by
 delta zN;refine dB ?_;try with_reducible exact True.intro
theorem tP:Con.Holds Tryz.prog dV:=aS aW aR aU4 aU8
theorem bHM {α:Type} {l:List α} {k:Nat} (h:k<l.length) (d:α):l.getD k d∈l:=by rw[aZ h];exact List.getElem_mem h
def iL:Con:=⟨48,(.bNT aG aG),.bool,[.val ⟨false,aG,[]⟩,.val ⟨false,aG,[]⟩],[⟨false,.bool,[0]⟩],false,none,
 ((fun _=>True):((List bX) × (List bX))→Prop),
 ((fun x=>eqB x.1 x.2):((List bX) × (List bX))→(Bool))⟩
def mX:T :=
 .bNU (.bNX 119 aL) (.p1 aG aG (.Z 0)) <|
 .bNU (.bNX 119 aL) (aO (.bNT aG aG) 1 (.Z 0)) <|
 .bNU (.cmp .neq .i64) (.bNV tI tI (.Z 1) (.Z 2)) <|
 .ite (.Z 3) (
  .ret (.cb false)) (
  .loop tI (.ci .i64 0) <|
   .bNU (.bNX 119 aL) (.p1 aG aG (.Z 0)) <|
   .bNU (.cmp .lss .i64) (.bNV tI tI (.Z 4) (.Z 5)) <|
   .ite (.Z 6) (
    .bNU (.bNY 119 aL) (.bNV aG tI (.p1 aG aG (.Z 0)) (.Z 4)) <|
    .bNU (.bNY 119 aL) (.bNV aG tI (aO (.bNT aG aG) 1 (.Z 0)) (.Z 4)) <|
    .bNU (.cmp .neq .i64) (.bNV tI tI (.p1 tI (.slice 125 aF) (.Z 7)) (.p1 tI (.slice 125 aF) (.Z 8))) <|
    .ite (.Z 9) (
     .ret (.cb false)) (
     .bNU (.bNY 119 aL) (.bNV aG tI (.p1 aG aG (.Z 0)) (.Z 4)) <|
     .bNU (.bNX 125 aF) (aO aL 1 (.Z 10)) <|
     .bNU (.bNY 119 aL) (.bNV aG tI (aO (.bNT aG aG) 1 (.Z 0)) (.Z 4)) <|
     .bNU (.bNX 125 aF) (aO aL 1 (.Z 12)) <|
     .bNU (.cmp .neq .i64) (.bNV tI tI (.Z 11) (.Z 13)) <|
     .ite (.Z 14) (
      .ret (.cb false)) (
      .loop tI (.ci .i64 0) <|
       .bNU (.bNY 119 aL) (.bNV aG tI (.p1 aG aG (.Z 0)) (.Z 4)) <|
       .bNU (.bNX 125 aF) (aO aL 1 (.Z 16)) <|
       .bNU (.cmp .lss .i64) (.bNV tI tI (.Z 15) (.Z 17)) <|
       .ite (.Z 18) (
        .bNU (.bNY 119 aL) (.bNV aG tI (.p1 aG aG (.Z 0)) (.Z 4)) <|
        .bNU (.bNY 125 aF) (.bNV (.slice 125 aF) tI (aO aL 1 (.Z 19)) (.Z 15)) <|
        .bNU (.bNY 119 aL) (.bNV aG tI (aO (.bNT aG aG) 1 (.Z 0)) (.Z 4)) <|
        .bNU (.bNY 125 aF) (.bNV (.slice 125 aF) tI (aO aL 1 (.Z 21)) (.Z 15)) <|
        .bNU (.cmp .neq .i64) (.bNV tI tI (.p1 tI aB (.Z 20)) (.p1 tI aB (.Z 22))) <|
        .ite (.Z 23) (
         .ret (.cb false)) (
         .bNU (.bNY 119 aL) (.bNV aG tI (.p1 aG aG (.Z 0)) (.Z 4)) <|
         .bNU (.bNY 125 aF) (.bNV (.slice 125 aF) tI (aO aL 1 (.Z 24)) (.Z 15)) <|
         .bNU (.bNY 119 aL) (.bNV aG tI (aO (.bNT aG aG) 1 (.Z 0)) (.Z 4)) <|
         .bNU (.bNY 125 aF) (.bNV (.slice 125 aF) tI (aO aL 1 (.Z 26)) (.Z 15)) <|
         .call 0 (.bNV aB aB (aO aF 1 (.Z 25)) (aO aF 1 (.Z 27))) <|
         .bNU .not (.Z 28) <|
         .ite (.Z 29) (
          .ret (.cb false)) (
          .bNU (.ar .add .i64) (.bNV tI tI (.Z 15) (.ci .i64 1)) <|
          .bNW 0 (.Z 30)))) (
        .bNU (.ar .add .i64) (.bNV tI tI (.Z 4) (.ci .i64 1)) <|
        .bNW 1 (.Z 19))))) (
    .ret (.cb true)))
theorem aFJ:bM Tryz.prog [dC] iL false 3000 ⟨[(2988,2004,iT 11 7++[.tm 5 0]),(2972,18015,[.tm 6 0])],[]⟩ = .ok mX:=by kernel_rfl
theorem aEY (x:(List bX) × (List bX)) (hx:okD (.bNT aG aG) x) (hp:(fun _=>True) x):mX.wp [dC] [⟨(.bNT aG aG),x⟩] [] (fun v=>v.as .bool=(fun x=>eqB x.1 x.2) x):=by
 obtain ⟨a,b⟩:=x
 have hm:a.length≤9223372036854775807:=by have:a.length≤maxLen:=hx.1.1;unfold maxLen at this;omega
 have hq:∀ k,k<a.length→(a.getD k (aV aL)).2.length≤9223372036854775807:=fun k hk=>by
  have:(a.getD k (aV aL)).2.length≤maxLen:=(hx.1.2 _ (bHM hk _)).2.1
  unfold maxLen at this;omega
 delta mX dC;refine dB ?_
 simp only[qF,qI,bCS,aQO,aRQ,hN,aDK]
 refine fun _ _=>⟨fun h=>eqF fun e=>h (by rw[e]),fun hl =>?_⟩
 refine ⟨fun s=>∃ k:Nat,k≤a.length∧s=(k:Int)∧∀ i,i<k→a.getD i (aV aL)=b.getD i (aV aL),fun s=>a.length - (s:Int).toNat,⟨0,by omega,rfl,by omega⟩,fun s _ hI=>?_⟩
 obtain ⟨k,hk,rfl,ha⟩:=hI
 try refine dT ?_
 have hq2:=hq k
 (repeat' first|intro _|(with_reducible apply And.intro))
 all_goals first|omega|(exact eqF fun e=>‹¬ _=_› (by rw[e]))|(exact eqT (nF hl fun i hi=>ha i (by omega)))|skip
 refine ⟨fun s=>∃ j:Nat,j≤(a.getD k (aV aL)).2.length∧s=(j:Int)∧∀ i,i<j→(a.getD k (aV aL)).2.getD i (aV aF)=(b.getD k (aV aL)).2.getD i (aV aF),fun s=>(a.getD k (aV aL)).2.length - (s:Int).toNat,⟨0,by omega,rfl,by omega⟩,fun s _ hI=>?_⟩
 obtain ⟨j,hj,rfl,hb⟩:=hI
 try refine dT ?_
 have hq3:=hq2 (by omega)
 (repeat' first|intro _|(with_reducible apply And.intro))
 all_goals first|omega|(exact eqF fun e=>‹¬ _=_› (by rw[e]))|(refine ⟨j+1,by omega,rfl,fun i hi=>?_⟩;rcases Nat.lt_or_eq_of_le (Nat.le_of_lt_succ hi) with h|rfl;exact hb i h;exact Prod.ext (by assumption) (by assumption))|(refine ⟨k+1,by omega,rfl,fun i hi=>?_⟩;rcases Nat.lt_or_eq_of_le (Nat.le_of_lt_succ hi) with h|rfl;exact ha i h;exact Prod.ext (by assumption) (nF (by assumption) fun i hi=>hb i (by omega)))
theorem aFR:Con.Holds Tryz.prog iL:=aS aW (aH oR aR) aFJ aEY
def jF:Con:=⟨49,(.bNT aA aA),.bool,[.val ⟨true,aA,[]⟩,.val ⟨true,aA,[]⟩],[⟨false,.bool,[0]⟩],false,none,
 ((fun _=>True):(bA × bA)→Prop),
 ((fun x=>eqB x.1 x.2):(bA × bA)→(Bool))⟩
def oH:T :=
 .bNU (.cmp .neq .i64) (.bNV tI tI (.p1 tI cU (.p1 aA aA (.Z 0))) (aJ (.bNT aA aA) 1 (.Z 0))) <|
 .ite (.Z 1) (
  .ret (.cb false)) (
  .bNU (.eqv true .bool) (.bNV .bool .bool (aJ aA 3 (.p1 aA aA (.Z 0))) (aJ (.bNT aA aA) 4 (.Z 0))) <|
  .ite (.Z 2) (
   .ret (.cb false)) (
   .bNU (.eqv true .bool) (.bNV .bool .bool (aJ aA 4 (.p1 aA aA (.Z 0))) (aJ (.bNT aA aA) 5 (.Z 0))) <|
   .ite (.Z 3) (
    .ret (.cb false)) (
    .bNU (.bNX 76 aE) (aJ aA 1 (.p1 aA aA (.Z 0))) <|
    .bNU (.bNX 76 aE) (aJ (.bNT aA aA) 2 (.Z 0)) <|
    .bNU (.cmp .neq .i64) (.bNV tI tI (.Z 4) (.Z 5)) <|
    .ite (.Z 6) (
     .ret (.cb false)) (
     .bNU (.bNX 78 bG) (aJ aA 2 (.p1 aA aA (.Z 0))) <|
     .bNU (.bNX 78 bG) (aJ (.bNT aA aA) 3 (.Z 0)) <|
     .bNU (.cmp .neq .i64) (.bNV tI tI (.Z 7) (.Z 8)) <|
     .ite (.Z 9) (
      .ret (.cb false)) (
      .bNU (.bNX 80 aD) (aJ aA 5 (.p1 aA aA (.Z 0))) <|
      .bNU (.bNX 80 aD) (aJ (.bNT aA aA) 6 (.Z 0)) <|
      .bNU (.cmp .neq .i64) (.bNV tI tI (.Z 10) (.Z 11)) <|
      .ite (.Z 12) (
       .ret (.cb false)) (
       .call 0 (.bNV aI aI (aJ aA 6 (.p1 aA aA (.Z 0))) (aJ (.bNT aA aA) 7 (.Z 0))) <|
       .bNU .not (.Z 13) <|
       .ite (.Z 14) (
        .ret (.cb false)) (
        .call 1 (.bNV aB aB (aJ aA 7 (.p1 aA aA (.Z 0))) (aJ (.bNT aA aA) 8 (.Z 0))) <|
        .bNU .not (.Z 15) <|
        .ite (.Z 16) (
         .ret (.cb false)) (
         .call 1 (.bNV aB aB (aJ aA 8 (.p1 aA aA (.Z 0))) (aJ (.bNT aA aA) 9 (.Z 0))) <|
         .bNU .not (.Z 17) <|
         .ite (.Z 18) (
          .ret (.cb false)) (
          .call 1 (.bNV aB aB (aJ aA 9 (.p1 aA aA (.Z 0))) (aJ (.bNT aA aA) 10 (.Z 0))) <|
          .bNU .not (.Z 19) <|
          .ite (.Z 20) (
           .ret (.cb false)) (
           .call 1 (.bNV aB aB (aJ aA 10 (.p1 aA aA (.Z 0))) (aJ (.bNT aA aA) 11 (.Z 0))) <|
           .bNU .not (.Z 21) <|
           .ite (.Z 22) (
            .ret (.cb false)) (
            .call 2 (.bNV aT aT (aO aA 11 (.p1 aA aA (.Z 0))) (aO (.bNT aA aA) 12 (.Z 0))) <|
            .bNU .not (.Z 23) <|
            .ite (.Z 24) (
             .ret (.cb false)) (
             .loop tI (.ci .i64 0) <|
              .bNU (.bNX 76 aE) (aJ aA 1 (.p1 aA aA (.Z 0))) <|
              .bNU (.cmp .lss .i64) (.bNV tI tI (.Z 25) (.Z 26)) <|
              .ite (.Z 27) (
               .bNU (.bNY 76 aE) (.bNV bC tI (aJ aA 1 (.p1 aA aA (.Z 0))) (.Z 25)) <|
               .bNU (.bNY 76 aE) (.bNV bC tI (aJ (.bNT aA aA) 2 (.Z 0)) (.Z 25)) <|
               .bNU (.eqv true aE) (.bNV aE aE (.Z 28) (.Z 29)) <|
               .ite (.Z 30) (
                .ret (.cb false)) (
                .bNU (.ar .add .i64) (.bNV tI tI (.Z 25) (.ci .i64 1)) <|
                .bNW 0 (.Z 31))) (
               .loop tI (.ci .i64 0) <|
                .bNU (.bNX 78 bG) (aJ aA 2 (.p1 aA aA (.Z 0))) <|
                .bNU (.cmp .lss .i64) (.bNV tI tI (.Z 28) (.Z 29)) <|
                .ite (.Z 30) (
                 .bNU (.bNY 78 bG) (.bNV aK tI (aJ aA 2 (.p1 aA aA (.Z 0))) (.Z 28)) <|
                 .bNU (.bNY 78 bG) (.bNV aK tI (aJ (.bNT aA aA) 3 (.Z 0)) (.Z 28)) <|
                 .call 3 (.bNV bG bG (.Z 31) (.Z 32)) <|
                 .bNU .not (.Z 33) <|
                 .ite (.Z 34) (
                  .ret (.cb false)) (
                  .bNU (.ar .add .i64) (.bNV tI tI (.Z 28) (.ci .i64 1)) <|
                  .bNW 0 (.Z 35))) (
                 .loop tI (.ci .i64 0) <|
                  .bNU (.bNX 80 aD) (aJ aA 5 (.p1 aA aA (.Z 0))) <|
                  .bNU (.cmp .lss .i64) (.bNV tI tI (.Z 31) (.Z 32)) <|
                  .ite (.Z 33) (
                   .bNU (.bNY 80 aD) (.bNV (.slice 80 aD) tI (aJ aA 5 (.p1 aA aA (.Z 0))) (.Z 31)) <|
                   .bNU (.bNY 80 aD) (.bNV (.slice 80 aD) tI (aJ (.bNT aA aA) 6 (.Z 0)) (.Z 31)) <|
                   .bNU (.cmp .neq .i64) (.bNV tI tI (.p1 tI aI (.Z 34)) (.p1 tI aI (.Z 35))) <|
                   .ite (.Z 36) (
                    .ret (.cb false)) (
                    .bNU (.bNY 80 aD) (.bNV (.slice 80 aD) tI (aJ aA 5 (.p1 aA aA (.Z 0))) (.Z 31)) <|
                    .bNU (.bNY 80 aD) (.bNV (.slice 80 aD) tI (aJ (.bNT aA aA) 6 (.Z 0)) (.Z 31)) <|
                    .call 0 (.bNV aI aI (aO aD 1 (.Z 37)) (aO aD 1 (.Z 38))) <|
                    .bNU .not (.Z 39) <|
                    .ite (.Z 40) (
                     .ret (.cb false)) (
                     .bNU (.ar .add .i64) (.bNV tI tI (.Z 31) (.ci .i64 1)) <|
                     .bNW 0 (.Z 41)))) (
                   .ret (.cb true))))))))))))))))
theorem aGS:bM Tryz.prog [iG,dC,lQ,rO] jF false 3000 ⟨[(2988,4096025,iT 101 8++[.dr 0,.dr 1,.tm 5 0]),(2978,8192028,iT 106 102++[.dr 5,.tm 6 0]),(2968,16384031,iT 124 120++[.dr 6,.tm 7 0])],[]⟩ = .ok oH:=by kernel_rfl
set_option maxHeartbeats 2000000 in
theorem aHF (x:bA × bA) (hx:okD (.bNT aA aA) x) (hp:(fun _=>True) x):oH.wp [iG,dC,lQ,rO] [⟨(.bNT aA aA),x⟩] [] (fun v=>v.as .bool=(fun x=>eqB x.1 x.2) x):=by
 obtain ⟨a,b⟩:=x
 have e:(a=b)↔(a.1=b.1∧a.2.1=b.2.1∧a.2.2.1=b.2.2.1∧a.2.2.2.1=b.2.2.2.1∧a.2.2.2.2.1=b.2.2.2.2.1∧a.2.2.2.2.2.1=b.2.2.2.2.2.1∧a.2.2.2.2.2.2.1=b.2.2.2.2.2.2.1∧a.2.2.2.2.2.2.2.1=b.2.2.2.2.2.2.2.1∧a.2.2.2.2.2.2.2.2.1=b.2.2.2.2.2.2.2.2.1∧a.2.2.2.2.2.2.2.2.2.1=b.2.2.2.2.2.2.2.2.2.1∧a.2.2.2.2.2.2.2.2.2.2.1=b.2.2.2.2.2.2.2.2.2.2.1∧a.2.2.2.2.2.2.2.2.2.2.2=b.2.2.2.2.2.2.2.2.2.2.2):=by simp only[Prod.ext_iff,and_assoc]
 have hmx:∀ {n:Nat},n≤maxLen→n≤9223372036854775807:=fun h=>by unfold maxLen at h;omega
 have hm1:a.2.1.length≤9223372036854775807:=hmx hx.1.2.1.1
 have hm2:a.2.2.1.length≤9223372036854775807:=hmx hx.1.2.2.1.1
 have hm5:a.2.2.2.2.2.1.length≤9223372036854775807:=hmx hx.1.2.2.2.2.2.1.1
 delta oH iG dC lQ rO;refine dB ?_
 simp only[qF,qI,bCS,aQO,aRQ,aYP,aZZ,aXL,bGX,hN,aDK]
 (repeat' first|intro _|(with_reducible apply And.intro))
 all_goals first|(exact eqF fun h=>‹¬ _=_› (by rw[h]))|skip
 refine ⟨fun s=>∃ k:Nat,k≤a.2.1.length∧s=(k:Int)∧∀ i,i<k→a.2.1.getD i (aV aE)=b.2.1.getD i (aV aE),fun s=>a.2.1.length - (s:Int).toNat,⟨0,by omega,rfl,by omega⟩,fun s _ hI=>?_⟩
 obtain ⟨k,hk,rfl,ha⟩:=hI
 try (refine dT ?_;try with_reducible exact True.intro)
 (repeat' first|intro _|(with_reducible apply And.intro))
 all_goals first|omega|(exact eqF fun h=>‹¬ _=_› (by rw[h]))|(refine ⟨k+1,by omega,rfl,fun i hi=>?_⟩;rcases Nat.lt_or_eq_of_le (Nat.le_of_lt_succ hi) with h|rfl;exact ha i h;exact (by assumption))|skip
 have f1:a.2.1=b.2.1:=nF (by assumption) fun i hi=>ha i (by omega)
 refine ⟨fun s=>∃ l:Nat,l≤a.2.2.1.length∧s=(l:Int)∧∀ i,i<l→a.2.2.1.getD i (aV bG)=b.2.2.1.getD i (aV bG),fun s=>a.2.2.1.length - (s:Int).toNat,⟨0,by omega,rfl,by omega⟩,fun s _ hI=>?_⟩
 obtain ⟨l,hl,rfl,hc⟩:=hI
 try (refine dT ?_;try with_reducible exact True.intro)
 (repeat' first|intro _|(with_reducible apply And.intro))
 all_goals first|omega|(exact eqF fun h=>‹¬ _=_› (by rw[h]))|(refine ⟨l+1,by omega,rfl,fun i hi=>?_⟩;rcases Nat.lt_or_eq_of_le (Nat.le_of_lt_succ hi) with h|rfl;exact hc i h;exact (by assumption))|skip
 have f2:a.2.2.1=b.2.2.1:=nF (by assumption) fun i hi=>hc i (by omega)
 refine ⟨fun s=>∃ j:Nat,j≤a.2.2.2.2.2.1.length∧s=(j:Int)∧∀ i,i<j→a.2.2.2.2.2.1.getD i (aV aD)=b.2.2.2.2.2.1.getD i (aV aD),fun s=>a.2.2.2.2.2.1.length - (s:Int).toNat,⟨0,by omega,rfl,by omega⟩,fun s _ hI=>?_⟩
 obtain ⟨j,hj,rfl,hb⟩:=hI
 try (refine dT ?_;try with_reducible exact True.intro)
 (repeat' first|intro _|(with_reducible apply And.intro))
 all_goals first|omega|(exact eqF fun h=>‹¬ _=_› (by rw[h]))|(refine ⟨j+1,by omega,rfl,fun i hi=>?_⟩;rcases Nat.lt_or_eq_of_le (Nat.le_of_lt_succ hi) with h|rfl;exact hb i h;exact Prod.ext (by assumption) (by assumption))|skip
 all_goals have f5:a.2.2.2.2.2.1=b.2.2.2.2.2.1:=nF (by assumption) fun i hi=>hb i (by omega)
 all_goals first|(rw[Bool.eq_iff_iff,hN,hN,e];simp_all;done)|(refine eqT (e.2 ?_);simp_all;done)|(refine eqF fun h=>?_;rw[e] at h;simp_all;done)
set_option maxHeartbeats 2000000 in
theorem aGE:Con.Holds Tryz.prog jF:=aS aW (aH aFE (aH oR (aH aN4 (aH aYV aR)))) aGS aHF
def nB:Con:=⟨19,(.bNT aC aC),.bool,[.val ⟨true,aC,[]⟩,.val ⟨true,aC,[]⟩],[⟨false,.bool,[0]⟩],false,none,
 ((fun _=>True):(aY × aY)→Prop),
 ((fun x=>eqB x.1 x.2):(aY × aY)→(Bool))⟩
def yK:T :=
 .bNU (.bNX 38 aA) (aJ aC 1 (.p1 aC aC (.Z 0))) <|
 .bNU (.bNX 38 aA) (aJ (.bNT aC aC) 2 (.Z 0)) <|
 .bNU (.cmp .neq .i64) (.bNV tI tI (.Z 1) (.Z 2)) <|
 .ite (.Z 3) (
  .ret (.cb false)) (
  .bNU (.bNX 94 aM) (.p1 aN (.bNT (.slice 38 aA) (.bNT aG aG)) (.p1 aC aC (.Z 0))) <|
  .bNU (.bNX 94 aM) (aJ (.bNT aC aC) 1 (.Z 0)) <|
  .bNU (.cmp .neq .i64) (.bNV tI tI (.Z 4) (.Z 5)) <|
  .ite (.Z 6) (
   .ret (.cb false)) (
   .call 0 (.bNV aG aG (aJ aC 2 (.p1 aC aC (.Z 0))) (aJ (.bNT aC aC) 3 (.Z 0))) <|
   .bNU .not (.Z 7) <|
   .ite (.Z 8) (
    .ret (.cb false)) (
    .call 0 (.bNV aG aG (aO aC 3 (.p1 aC aC (.Z 0))) (aO (.bNT aC aC) 4 (.Z 0))) <|
    .bNU .not (.Z 9) <|
    .ite (.Z 10) (
     .ret (.cb false)) (
     .loop tI (.ci .i64 0) <|
      .bNU (.bNX 38 aA) (aJ aC 1 (.p1 aC aC (.Z 0))) <|
      .bNU (.cmp .lss .i64) (.bNV tI tI (.Z 11) (.Z 12)) <|
      .ite (.Z 13) (
       .bNU (.bNY 38 aA) (.bNV (.slice 38 aA) tI (aJ aC 1 (.p1 aC aC (.Z 0))) (.Z 11)) <|
       .bNU (.bNY 38 aA) (.bNV (.slice 38 aA) tI (aJ (.bNT aC aC) 2 (.Z 0)) (.Z 11)) <|
       .call 1 (.bNV aA aA (.Z 14) (.Z 15)) <|
       .bNU .not (.Z 16) <|
       .ite (.Z 17) (
        .ret (.cb false)) (
        .bNU (.ar .add .i64) (.bNV tI tI (.Z 11) (.ci .i64 1)) <|
        .bNW 0 (.Z 18))) (
       .loop tI (.ci .i64 0) <|
        .bNU (.bNX 94 aM) (.p1 aN (.bNT (.slice 38 aA) (.bNT aG aG)) (.p1 aC aC (.Z 0))) <|
        .bNU (.cmp .lss .i64) (.bNV tI tI (.Z 14) (.Z 15)) <|
        .ite (.Z 16) (
         .bNU (.bNY 94 aM) (.bNV aN tI (.p1 aN (.bNT (.slice 38 aA) (.bNT aG aG)) (.p1 aC aC (.Z 0))) (.Z 14)) <|
         .bNU (.bNY 94 aM) (.bNV aN tI (aJ (.bNT aC aC) 1 (.Z 0)) (.Z 14)) <|
         .call 2 (.bNV aB aB (.p1 aB aB (.Z 17)) (.p1 aB aB (.Z 18))) <|
         .bNU .not (.Z 19) <|
         .ite (.Z 20) (
          .ret (.cb false)) (
          .bNU (.bNY 94 aM) (.bNV aN tI (.p1 aN (.bNT (.slice 38 aA) (.bNT aG aG)) (.p1 aC aC (.Z 0))) (.Z 14)) <|
          .bNU (.bNY 94 aM) (.bNV aN tI (aJ (.bNT aC aC) 1 (.Z 0)) (.Z 14)) <|
          .call 2 (.bNV aB aB (aO aM 1 (.Z 21)) (aO aM 1 (.Z 22))) <|
          .bNU .not (.Z 23) <|
          .ite (.Z 24) (
           .ret (.cb false)) (
           .bNU (.ar .add .i64) (.bNV tI tI (.Z 14) (.ci .i64 1)) <|
           .bNW 0 (.Z 25)))) (
         .ret (.cb true)))))))
theorem aQ0:bM Tryz.prog [iL,jF,dC] nB false 3000 ⟨[(2988,16011,iT 38 7++[.dr 0,.dr 1,.tm 5 0]),(2978,32014,iT 43 39++[.dr 5,.tm 6 0])],[]⟩ = .ok yK:=by kernel_rfl
set_option maxHeartbeats 2000000 in
theorem aR5 (x:aY × aY) (hx:okD (.bNT aC aC) x) (hp:(fun _=>True) x):yK.wp [iL,jF,dC] [⟨(.bNT aC aC),x⟩] [] (fun v=>v.as .bool=(fun x=>eqB x.1 x.2) x):=by
 obtain ⟨a,b⟩:=x
 have e:(a=b)↔(a.1=b.1∧a.2.1=b.2.1∧a.2.2.1=b.2.2.1∧a.2.2.2=b.2.2.2):=by simp only[Prod.ext_iff,and_assoc]
 have hmx:∀ {n:Nat},n≤maxLen→n≤9223372036854775807:=fun h=>by unfold maxLen at h;omega
 have hm0:a.1.length≤9223372036854775807:=hmx hx.1.1.1
 have hm1:a.2.1.length≤9223372036854775807:=hmx hx.1.2.1.1
 delta yK iL jF dC;refine dB ?_
 simp only[qF,qI,bCS,aQO,aRQ,aYP,aZZ,aXL,bGX,hN,aDK]
 (repeat' first|intro _|(with_reducible apply And.intro))
 all_goals first|(exact eqF fun h=>‹¬ _=_› (by rw[h]))|skip
 refine ⟨fun s=>∃ k:Nat,k≤a.2.1.length∧s=(k:Int)∧∀ i,i<k→a.2.1.getD i (aV (aA))=b.2.1.getD i (aV (aA)),fun s=>a.2.1.length - (s:Int).toNat,⟨0,by omega,rfl,by omega⟩,fun s _ hI=>?_⟩
 obtain ⟨k,hk,rfl,ha⟩:=hI
 try (refine dT ?_;try with_reducible exact True.intro)
 (repeat' first|intro _|(with_reducible apply And.intro))
 all_goals first|omega|(exact eqF fun h=>‹¬ _=_› (by rw[h]))|(refine ⟨k+1,by omega,rfl,fun i hi=>?_⟩;rcases Nat.lt_or_eq_of_le (Nat.le_of_lt_succ hi) with h|rfl;exact ha i h;exact (by assumption))|skip
 all_goals have f1:a.2.1=b.2.1:=nF (by assumption) fun i hi=>ha i (by omega)
 refine ⟨fun s=>∃ j:Nat,j≤a.1.length∧s=(j:Int)∧∀ i,i<j→a.1.getD i (aV (aM))=b.1.getD i (aV (aM)),fun s=>a.1.length - (s:Int).toNat,⟨0,by omega,rfl,by omega⟩,fun s _ hI=>?_⟩
 obtain ⟨j,hj,rfl,hb⟩:=hI
 try (refine dT ?_;try with_reducible exact True.intro)
 (repeat' first|intro _|(with_reducible apply And.intro))
 all_goals first|omega|(exact eqF fun h=>‹¬ _=_› (by rw[h]))|(refine ⟨j+1,by omega,rfl,fun i hi=>?_⟩;rcases Nat.lt_or_eq_of_le (Nat.le_of_lt_succ hi) with h|rfl;exact hb i h;exact Prod.ext (by assumption) (by assumption))|skip
 all_goals have f0:a.1=b.1:=nF (by assumption) fun i hi=>hb i (by omega)
 all_goals first|(rw[Bool.eq_iff_iff,hN,hN,e];simp_all;done)|(refine eqT (e.2 ?_);simp_all;done)|(refine eqF fun h=>?_;rw[e] at h;simp_all;done)
set_option maxHeartbeats 2000000 in
theorem aQ4:Con.Holds Tryz.prog nB:=aS aW (aH aFR (aH aGE (aH oR aR))) aQ0 aR5
end
end Go.Proofs.YtdeobhdbmehpgaaGreat
