/- Ticks2: lemmas. No conditions. -/
import Derived.Test.YtiihghfoeinbbaaGreatPlan2
import Derived.Test.YtiihghfoeinbbaaGreatZero2
namespace Go.Proofs.YtiihghfoeinbbaaGreat
noncomputable section
set_option maxRecDepth 100000
open Go.ChangeShapes Go.WideShapes Go.ChangeAt Go.RowKit Go.Deep
set_option linter.unusedVariables false
set_option linter.unusedSimpArgs false
def cutAt (c:List Int) (n:Nat) (i:Nat):Bool:=decide (1≤c.getD i 0∧c.getD i 0≤(n:Int) - 1∧(i=0∨c.getD (i - 1) 0<c.getD i 0))
theorem wM (c:List Int) (n:Nat) {i:Nat} (h:i<c.length):cutAt c n i=true↔1≤c[i]∧c[i]≤(n:Int) - 1∧(i=0∨(c[i - 1]'(by omega))<c[i]):=by
 unfold cutAt
 rw[aZ h,aZ (show i - 1<c.length by omega),decide_eq_true_eq]
def jM (m:List eK) (c:List Int):Bool:=cQ m&&(List.range c.length).all (cutAt c m.length)
theorem wQ (m:List eK) (c:List Int):jM m c=true↔cQ m=true∧∀ i,i<c.length→cutAt c m.length i=true:=by
 unfold jM;simp only[Bool.and_eq_true,List.all_eq_true,List.mem_range]
theorem bJD {m:List eK} {c:List Int} (h:cQ m=false):false=jM m c:=by unfold jM;rw[h];rfl
theorem bBH {m:List eK} {c:List Int} {i:Nat} (hi:i<c.length) (h:¬ cutAt c m.length i=true):false=jM m c:=by
 refine (Bool.eq_false_iff.2 fun h'=>?_).symm
 rw[wQ] at h'
 exact h (h'.2 i hi)
def bS (m:List eK) (c:List Int):Int:=if jM m c=true then (c.length:Int)+1 else 0
def fY (c:bN):Prop:=fN c.1∧List.length c.2.1≤1000000000∧List.length c.2.2.2.1≤1000000000∧List.length c.2.2.2.2.1≤1000000000∧List.length c.2.2.2.2.2≤1000000000
theorem aFZ (ds st s micro:Int) (r:Bool):(zA ds st s micro r).length≤60:=by
 unfold zA
 split
 ·rename_i h
  have h1:=aC1 st s micro (nY ds st s micro) r micro.toNat
  have h2:=aZG (ds:=ds) h.2
  have h3:=(gR _ _ _).1 h.2
  rw[List.length_append,List.length_singleton]
  omega
 ·simp
def kO:Con:=⟨237,(.bMC aE aB),.bool,[.val ⟨true,aE,[]⟩,.val ⟨false,aB,[]⟩],[⟨false,.bool,[0]⟩],false,none,
 ((fun x=>fN x.1∧List.length x.2≤1000000000):(bM × cD)→Prop),
 ((fun x=>jM x.1 x.2):(bM × cD)→(Bool))⟩
def aDZ:T:=.call 0 (.p1 aE aB (.Z 0)) <|
 .bMD .not (.Z 1) <|
 .ite (.Z 2) (
  .ret (.cb false)) (
  .bMD (.bMG 3 tI) (aQ (.bMC aE aB) 1 (.Z 0)) <|
  .loop tI (.ci .i64 0) <|
   .bMD (.cmp .lss .i64) (.bME tI tI (.Z 4) (.Z 3)) <|
   .ite (.Z 5) (
    .bMD (.bMH 3 tI) (.bME aB tI (aQ (.bMC aE aB) 1 (.Z 0)) (.Z 4)) <|
    .bMD (.cmp .lss .i64) (.bME tI tI (.Z 6) (.ci .i64 1)) <|
    .ite (.Z 7) (
     .ret (.cb false)) (
     .bMD (.bMG 146 bA) (.p1 aE aB (.Z 0)) <|
     .bMD (.ar .sub .i64) (.bME tI tI (.Z 8) (.ci .i64 1)) <|
     .bMD (.cmp .gtr .i64) (.bME tI tI (.Z 6) (.Z 9)) <|
     .ite (.Z 10) (
      .ret (.cb false)) (
      .bMD (.cmp .gtr .i64) (.bME tI tI (.Z 4) (.ci .i64 0)) <|
      .ite (.Z 11) (
       .bMD (.ar .sub .i64) (.bME tI tI (.Z 4) (.ci .i64 1)) <|
       .bMD (.bMH 3 tI) (.bME aB tI (aQ (.bMC aE aB) 1 (.Z 0)) (.Z 12)) <|
       .bMD (.cmp .geq .i64) (.bME tI tI (.Z 13) (.Z 6)) <|
       .ite (.Z 14) (
        .ret (.cb false)) (
        .bMD (.ar .add .i64) (.bME tI tI (.Z 4) (.ci .i64 1)) <|
        .bMF 0 (.Z 15))) (
       .bMD (.ar .add .i64) (.bME tI tI (.Z 4) (.ci .i64 1)) <|
       .bMF 0 (.Z 12))))) (
    .ret (.cb true)))
theorem aXZ:bL Tryz.prog [bQ] kO false 3000 ⟨[(2988,2004,iQ 9 7++[.dr 0,.tm 12 0])],[]⟩ = .ok aDZ:=by kernel_rfl
theorem aYK (x:bM × cD) (hx:okD (.bMC aE aB) x) (hp:(fun x=>fN x.1∧List.length x.2≤1000000000) x):aDZ.wp [bQ] [⟨(.bMC aE aB),x⟩] [] (fun v=>v.as .bool=(fun x=>jM x.1 x.2) x):=by
 obtain ⟨m,c⟩:=x
 obtain ⟨⟨hm1,hm2⟩,hc⟩:fN m∧List.length c≤1000000000:=hp
 delta aDZ bQ;refine dD ?_
 refine ⟨fun hb=>?_,fun hb _=>?_⟩
 all_goals simp only[lU] at hb
 ·exact bJD hb
 refine ⟨fun s=>∃ k:Nat,k≤c.length∧s=(k:Int)∧∀ i,i<k→cutAt c m.length i=true,fun s=>c.length - (s:Int).toNat,⟨0,by omega,rfl,by omega⟩,fun s _ hI=>?_⟩
 obtain ⟨k,hk,rfl,ha⟩:=hI
 refine eE ?_
 constructor
 ·intro hlt
  have hk':k<c.length:=by omega
  rw[aZ hk',aZ (show k - 1<c.length by omega)]
  have e:=wM c m.length hk'
  (repeat' first|intro _|(with_reducible apply And.intro))
  all_goals first|omega|(refine bBH hk' fun h=>?_;rw[e] at h;omega)|skip
  all_goals refine ⟨k+1,by omega,rfl,fun i hi=>?_⟩
  all_goals rcases Nat.lt_or_eq_of_le (Nat.le_of_lt_succ hi) with h|rfl
  all_goals first|exact ha i h|exact e.2 ⟨by omega,by omega,by omega⟩
 ·intro hge
  have:k=c.length:=by omega
  subst this
  exact ((wQ m c).2 ⟨hb,ha⟩).symm
theorem aKT:Con.Holds Tryz.prog kO:=aR aW (aG gW aS) aXZ aYK
def iE:Con:=⟨229,(.bMC aE aB),.bool,[.val ⟨true,aE,[]⟩,.val ⟨false,aB,[]⟩],[⟨false,.bool,[0]⟩],false,none,
 ((fun x=>fN x.1∧List.length x.2≤1000000000):(bM × cD)→Prop),
 ((fun x=>jM x.1 x.2):(bM × cD)→(Bool))⟩
def aE9:T:=.loop tI (.ci .i64 0) <|
 .bMD (.bMG 3 tI) (aQ (.bMC aE aB) 1 (.Z 0)) <|
 .bMD (.cmp .lss .i64) (.bME tI tI (.Z 1) (.Z 2)) <|
 .ite (.Z 3) (
  .bMD (.bMH 3 tI) (.bME aB tI (aQ (.bMC aE aB) 1 (.Z 0)) (.Z 1)) <|
  .bMD (.bMG 146 bA) (.p1 aE aB (.Z 0)) <|
  .bMD (.ar .sub .i64) (.bME tI tI (.Z 5) (.ci .i64 1)) <|
  .call 0 (bE (.bMC tI aO) [(.Z 4),(.ci .i64 1),(.Z 6)]) <|
  .bMD .not (.Z 7) <|
  .ite (.Z 8) (
   .ret (.cb false)) (
   .bMD (.cmp .gtr .i64) (.bME tI tI (.Z 1) (.ci .i64 0)) <|
   .ite (.Z 9) (
    .bMD (.ar .sub .i64) (.bME tI tI (.Z 1) (.ci .i64 1)) <|
    .bMD (.bMH 3 tI) (.bME aB tI (aQ (.bMC aE aB) 1 (.Z 0)) (.Z 1)) <|
    .bMD (.bMH 3 tI) (.bME aB tI (aQ (.bMC aE aB) 1 (.Z 0)) (.Z 10)) <|
    .bMD (.cmp .leq .i64) (.bME tI tI (.Z 11) (.Z 12)) <|
    .ite (.Z 13) (
     .ret (.cb false)) (
     .bMD (.ar .add .i64) (.bME tI tI (.Z 1) (.ci .i64 1)) <|
     .bMF 0 (.Z 14))) (
    .bMD (.ar .add .i64) (.bME tI tI (.Z 1) (.ci .i64 1)) <|
    .bMF 0 (.Z 10)))) (
  .call 1 (.p1 aE aB (.Z 0)) <|
  .ret (.Z 4))
theorem aXC:bL Tryz.prog [bH,cB] iE false 3000 ⟨[(2993,1001,[.dr 0,.tm 5 0])],[]⟩ = .ok aE9:=by kernel_rfl
theorem aXB (x:bM × cD) (hx:okD (.bMC aE aB) x) (hp:(fun x=>fN x.1∧List.length x.2≤1000000000) x):aE9.wp [bH,cB] [⟨(.bMC aE aB),x⟩] [] (fun v=>v.as .bool=(fun x=>jM x.1 x.2) x):=by
 obtain ⟨m,c⟩:=x
 obtain ⟨⟨hm1,hm2⟩,hc⟩:fN m∧List.length c≤1000000000:=hp
 delta aE9 bH cB;refine dD ?_
 refine ⟨fun s=>∃ k:Nat,k≤c.length∧s=(k:Int)∧∀ i,i<k→cutAt c m.length i=true,fun s=>c.length - (s:Int).toNat,⟨0,by omega,rfl,by omega⟩,fun s _ hI=>?_⟩
 obtain ⟨k,hk,rfl,ha⟩:=hI
 refine eE ?_
 intro _
 constructor
 ·intro hlt
  have hk':k<c.length:=by omega
  rw[aZ hk',aZ (show k - 1<c.length by omega)]
  have e:=wM c m.length hk'
  (repeat' first|intro _|(with_reducible apply And.intro))
  all_goals first|omega|(refine bBH hk' fun h=>?_;rw[e] at h;omega)|skip
  all_goals refine ⟨k+1,by omega,rfl,fun i hi=>?_⟩
  all_goals rcases Nat.lt_or_eq_of_le (Nat.le_of_lt_succ hi) with h|rfl
  all_goals first|exact ha i h|exact e.2 ⟨by omega,by omega,by omega⟩
 ·intro hge
  have:k=c.length:=by omega
  subst this
  rw[Bool.eq_iff_iff,wQ]
  exact ⟨fun h=>⟨h,ha⟩,fun h=>h.1⟩
theorem aE0:Con.Holds Tryz.prog iE:=aR aW (aG eS (aG jV aS)) aXC aXB
def dH:Con:=⟨164,aC,tI,[.val ⟨true,aC,[]⟩],[⟨false,tI,[0]⟩],false,none,
 ((fun x=>fN x.1∧List.length x.2.1≤1000000000):(bN)→Prop),
 ((fun x=>bS x.1 x.2.1):(bN)→(Int))⟩
def xI:T:=.call 0 (.bME aE aB (.p1 aE (.bMC aB (.bMC tI (.bMC bX aI))) (.Z 0)) (aJ aC 1 (.Z 0))) <|
 .bMD .not (.Z 1) <|
 .ite (.Z 2) (
  .ret (.ci .i64 0)) (
  .bMD (.bMG 3 tI) (aJ aC 1 (.Z 0)) <|
  .bMD (.ar .add .i64) (.bME tI tI (.Z 3) (.ci .i64 1)) <|
  .ret (.Z 4))
theorem aOK:bL Tryz.prog [kO] dH false 3000 ⟨[],[]⟩ = .ok xI:=by kernel_rfl
theorem aQ8 (x:bN) (hx:okD aC x) (hp:(fun x=>fN x.1∧List.length x.2.1≤1000000000) x):xI.wp [kO] [⟨aC,x⟩] [] (fun v=>v.as tI=(fun x=>bS x.1 x.2.1) x):=by
 obtain ⟨m,c,r⟩:=x
 have hq:fN m∧List.length c≤1000000000:=hp
 have hc:=hq.2
 delta xI kO;refine dD ?_
 refine ⟨hq,fun hb=>?_,fun hb _=>?_⟩
 all_goals simp only[lU] at hb
 ·unfold bS;rw[if_neg (by rw[hb];simp)]
 ·refine ⟨by omega,fun _=>?_⟩
  unfold bS;rw[if_pos hb]
theorem qW:Con.Holds Tryz.prog dH:=aR aW (aG aKT aS) aOK aQ8
def nE:Con:=⟨151,aC,tI,[.val ⟨true,aC,[]⟩],[⟨false,tI,[0]⟩],false,none,
 ((fun x=>fN x.1∧List.length x.2.1≤1000000000):(bN)→Prop),
 ((fun x=>bS x.1 x.2.1):(bN)→(Int))⟩
def xO:T:=.call 0 (.bME aE aB (.p1 aE (.bMC aB (.bMC tI (.bMC bX aI))) (.Z 0)) (aJ aC 1 (.Z 0))) <|
 .bMD .not (.Z 1) <|
 .ite (.Z 2) (
  .ret (.ci .i64 0)) (
  .bMD (.bMG 3 tI) (aJ aC 1 (.Z 0)) <|
  .bMD (.ar .add .i64) (.bME tI tI (.Z 3) (.ci .i64 1)) <|
  .ret (.Z 4))
theorem aP9:bL Tryz.prog [iE] nE false 3000 ⟨[],[]⟩ = .ok xO:=by kernel_rfl
theorem aQ6 (x:bN) (hx:okD aC x) (hp:(fun x=>fN x.1∧List.length x.2.1≤1000000000) x):xO.wp [iE] [⟨aC,x⟩] [] (fun v=>v.as tI=(fun x=>bS x.1 x.2.1) x):=by
 obtain ⟨m,c,r⟩:=x
 have hq:fN m∧List.length c≤1000000000:=hp
 have hc:=hq.2
 delta xO iE;refine dD ?_
 refine ⟨hq,fun hb=>?_,fun hb _=>?_⟩
 all_goals simp only[lU] at hb
 ·unfold bS;rw[if_neg (by rw[hb];simp)]
 ·refine ⟨by omega,fun _=>?_⟩
  unfold bS;rw[if_pos hb]
theorem aQC:Con.Holds Tryz.prog nE:=aR aW (aG aE0 aS) aP9 aQ6
end
end Go.Proofs.YtiihghfoeinbbaaGreat
