/- Ticks2: lemmas. No conditions. -/
import Derived.Test.YtpafjioccjpmfaaGreatPlan2
import Derived.Test.YtpafjioccjpmfaaGreatZero2
namespace Go.Proofs.YtpafjioccjpmfaaGreat
noncomputable section
set_option maxRecDepth 100000
open Go.ChangeShapes Go.WideShapes Go.ChangeAt Go.RowKit Go.Deep
set_option linter.unusedVariables false
set_option linter.unusedSimpArgs false
def cutAt (c:List Int) (n:Nat) (i:Nat):Bool:=decide (1≤c.getD i 0∧c.getD i 0≤(n:Int) - 1∧(i=0∨c.getD (i - 1) 0<c.getD i 0))
theorem xK (c:List Int) (n:Nat) {i:Nat} (h:i<c.length):cutAt c n i=true↔1≤c[i]∧c[i]≤(n:Int) - 1∧(i=0∨(c[i - 1]'(by omega))<c[i]):=by
 unfold cutAt
 rw[aW h,aW (show i - 1<c.length by omega),decide_eq_true_eq]
def iL (m:List cZ) (c:List Int):Bool:=bO m&&(List.range c.length).all (cutAt c m.length)
theorem rO (m:List cZ) (c:List Int):iL m c=true↔bO m=true∧∀ i,i<c.length→cutAt c m.length i=true:=by
 unfold iL;simp only[Bool.and_eq_true,List.all_eq_true,List.mem_range]
theorem bLQ {m:List cZ} {c:List Int} (h:bO m=false):false=iL m c:=by unfold iL;rw[h];rfl
theorem bBC {m:List cZ} {c:List Int} {i:Nat} (hi:i<c.length) (h:¬ cutAt c m.length i=true):false=iL m c:=by
 refine (Bool.eq_false_iff.2 fun h'=>?_).symm
 rw[rO] at h'
 exact h (h'.2 i hi)
def bC (m:List cZ) (c:List Int):Int:=if iL m c=true then (c.length:Int)+1 else 0
def vK (c:bB) (micro:Int):Nat→Int
 | 0=>0
 | k+1=>max (vK c micro k) ((fU c.2.2.1 (bC c.1 c.2.1) k micro (c.2.2.2.1.getD k false)).length:Int)
def aGA (c:bB) (micro:Int):Int:=vK c micro (min c.2.2.2.1.length (bC c.1 c.2.1).toNat)
def dO (c:bB):Prop:=iH c.1∧List.length c.2.1≤1000000000∧List.length c.2.2.2.1≤1000000000∧List.length c.2.2.2.2.1≤1000000000∧List.length c.2.2.2.2.2≤1000000000
theorem lY (ds st s micro:Int) (r:Bool):(fU ds st s micro r).length≤60:=by
 unfold fU
 split
 ·rename_i h
  have h1:=aCM st s micro (oL ds st s micro) r micro.toNat
  have h2:=bA0 (ds:=ds) h.2
  have h3:=(gR _ _ _).1 h.2
  rw[List.length_append,List.length_singleton]
  omega
 ·simp
theorem aWL (c:bB) (micro:Int):(k:Nat)→0≤vK c micro k∧vK c micro k≤60
 | 0=>by unfold vK;omega
 | k+1=>by
  have h1:=aWL c micro k
  have h2:=lY c.2.2.1 (bC c.1 c.2.1) k micro (c.2.2.2.1.getD k false)
  unfold vK
  omega
def lE:Con:=⟨65,(.bPW aE aB),.bool,[.val ⟨true,aE,[]⟩,.val ⟨false,aB,[]⟩],[⟨false,.bool,[0]⟩],false,none,
 ((fun x=>iH x.1∧List.length x.2≤1000000000):(bE × bK)→Prop),
 ((fun x=>iL x.1 x.2):(bE × bK)→(Bool))⟩
def aDN:T:=.call 0 (.p1 aE aB (.Z 0)) <|
 .bPX .not (.Z 1) <|
 .ite (.Z 2) (
  .ret (.cb false)) (
  .bPX (.bQ0 3 tI) (aS (.bPW aE aB) 1 (.Z 0)) <|
  .loop tI (.ci .i64 0) <|
   .bPX (.cmp .lss .i64) (.bPY tI tI (.Z 4) (.Z 3)) <|
   .ite (.Z 5) (
    .bPX (.bQ1 3 tI) (.bPY aB tI (aS (.bPW aE aB) 1 (.Z 0)) (.Z 4)) <|
    .bPX (.cmp .lss .i64) (.bPY tI tI (.Z 6) (.ci .i64 1)) <|
    .ite (.Z 7) (
     .ret (.cb false)) (
     .bPX (.bQ0 80 bU) (.p1 aE aB (.Z 0)) <|
     .bPX (.ar .sub .i64) (.bPY tI tI (.Z 8) (.ci .i64 1)) <|
     .bPX (.cmp .gtr .i64) (.bPY tI tI (.Z 6) (.Z 9)) <|
     .ite (.Z 10) (
      .ret (.cb false)) (
      .bPX (.cmp .gtr .i64) (.bPY tI tI (.Z 4) (.ci .i64 0)) <|
      .ite (.Z 11) (
       .bPX (.ar .sub .i64) (.bPY tI tI (.Z 4) (.ci .i64 1)) <|
       .bPX (.bQ1 3 tI) (.bPY aB tI (aS (.bPW aE aB) 1 (.Z 0)) (.Z 12)) <|
       .bPX (.cmp .geq .i64) (.bPY tI tI (.Z 13) (.Z 6)) <|
       .ite (.Z 14) (
        .ret (.cb false)) (
        .bPX (.ar .add .i64) (.bPY tI tI (.Z 4) (.ci .i64 1)) <|
        .bPZ 0 (.Z 15))) (
       .bPX (.ar .add .i64) (.bPY tI tI (.Z 4) (.ci .i64 1)) <|
       .bPZ 0 (.Z 12))))) (
    .ret (.cb true)))
theorem aYD:bW Tryz.prog [bV] lE false 3000 ⟨[(2988,2004,jV 9 7++[.dr 0,.tm 12 0])],[]⟩ = .ok aDN:=by kernel_rfl
theorem aXZ (x:bE × bK) (hx:okD (.bPW aE aB) x) (hp:(fun x=>iH x.1∧List.length x.2≤1000000000) x):aDN.wp [bV] [⟨(.bPW aE aB),x⟩] [] (fun v=>v.as .bool=(fun x=>iL x.1 x.2) x):=by
 obtain ⟨m,c⟩:=x
 obtain ⟨⟨hm1,hm2⟩,hc⟩:iH m∧List.length c≤1000000000:=hp
 delta aDN bV;refine dY ?_
 refine ⟨fun hb=>?_,fun hb _=>?_⟩
 all_goals simp only[uP] at hb
 ·exact bLQ hb
 refine ⟨fun s=>∃ k:Nat,k≤c.length∧s=(k:Int)∧∀ i,i<k→cutAt c m.length i=true,fun s=>c.length - (s:Int).toNat,⟨0,by omega,rfl,by omega⟩,fun s _ hI=>?_⟩
 obtain ⟨k,hk,rfl,ha⟩:=hI
 refine eD ?_
 constructor
 ·intro hlt
  have hk':k<c.length:=by omega
  rw[aW hk',aW (show k - 1<c.length by omega)]
  have e:=xK c m.length hk'
  (repeat' first|intro _|(with_reducible apply And.intro))
  all_goals first|omega|(refine bBC hk' fun h=>?_;rw[e] at h;omega)|skip
  all_goals refine ⟨k+1,by omega,rfl,fun i hi=>?_⟩
  all_goals rcases Nat.lt_or_eq_of_le (Nat.le_of_lt_succ hi) with h|rfl
  all_goals first|exact ha i h|exact e.2 ⟨by omega,by omega,by omega⟩
 ·intro hge
  have:k=c.length:=by omega
  subst this
  exact ((rO m c).2 ⟨hb,ha⟩).symm
theorem aMD:Con.Holds Tryz.prog lE:=aX aZ (aG gZ aT) aYD aXZ
def iG:Con:=⟨31,(.bPW aE aB),.bool,[.val ⟨true,aE,[]⟩,.val ⟨false,aB,[]⟩],[⟨false,.bool,[0]⟩],false,none,
 ((fun x=>iH x.1∧List.length x.2≤1000000000):(bE × bK)→Prop),
 ((fun x=>iL x.1 x.2):(bE × bK)→(Bool))⟩
def aDJ:T:=.loop tI (.ci .i64 0) <|
 .bPX (.bQ0 3 tI) (aS (.bPW aE aB) 1 (.Z 0)) <|
 .bPX (.cmp .lss .i64) (.bPY tI tI (.Z 1) (.Z 2)) <|
 .ite (.Z 3) (
  .bPX (.bQ1 3 tI) (.bPY aB tI (aS (.bPW aE aB) 1 (.Z 0)) (.Z 1)) <|
  .bPX (.bQ0 80 bU) (.p1 aE aB (.Z 0)) <|
  .bPX (.ar .sub .i64) (.bPY tI tI (.Z 5) (.ci .i64 1)) <|
  .call 0 (bP (.bPW tI aD) [(.Z 4),(.ci .i64 1),(.Z 6)]) <|
  .bPX .not (.Z 7) <|
  .ite (.Z 8) (
   .ret (.cb false)) (
   .bPX (.cmp .gtr .i64) (.bPY tI tI (.Z 1) (.ci .i64 0)) <|
   .ite (.Z 9) (
    .bPX (.ar .sub .i64) (.bPY tI tI (.Z 1) (.ci .i64 1)) <|
    .bPX (.bQ1 3 tI) (.bPY aB tI (aS (.bPW aE aB) 1 (.Z 0)) (.Z 1)) <|
    .bPX (.bQ1 3 tI) (.bPY aB tI (aS (.bPW aE aB) 1 (.Z 0)) (.Z 10)) <|
    .bPX (.cmp .leq .i64) (.bPY tI tI (.Z 11) (.Z 12)) <|
    .ite (.Z 13) (
     .ret (.cb false)) (
     .bPX (.ar .add .i64) (.bPY tI tI (.Z 1) (.ci .i64 1)) <|
     .bPZ 0 (.Z 14))) (
    .bPX (.ar .add .i64) (.bPY tI tI (.Z 1) (.ci .i64 1)) <|
    .bPZ 0 (.Z 10)))) (
  .call 1 (.p1 aE aB (.Z 0)) <|
  .ret (.Z 4))
theorem aYU:bW Tryz.prog [cJ,dJ] iG false 3000 ⟨[(2993,1001,[.dr 0,.tm 5 0])],[]⟩ = .ok aDJ:=by kernel_rfl
theorem aX8 (x:bE × bK) (hx:okD (.bPW aE aB) x) (hp:(fun x=>iH x.1∧List.length x.2≤1000000000) x):aDJ.wp [cJ,dJ] [⟨(.bPW aE aB),x⟩] [] (fun v=>v.as .bool=(fun x=>iL x.1 x.2) x):=by
 obtain ⟨m,c⟩:=x
 obtain ⟨⟨hm1,hm2⟩,hc⟩:iH m∧List.length c≤1000000000:=hp
 delta aDJ cJ dJ;refine dY ?_
 refine ⟨fun s=>∃ k:Nat,k≤c.length∧s=(k:Int)∧∀ i,i<k→cutAt c m.length i=true,fun s=>c.length - (s:Int).toNat,⟨0,by omega,rfl,by omega⟩,fun s _ hI=>?_⟩
 obtain ⟨k,hk,rfl,ha⟩:=hI
 refine eD ?_
 intro _
 constructor
 ·intro hlt
  have hk':k<c.length:=by omega
  rw[aW hk',aW (show k - 1<c.length by omega)]
  have e:=xK c m.length hk'
  (repeat' first|intro _|(with_reducible apply And.intro))
  all_goals first|omega|(refine bBC hk' fun h=>?_;rw[e] at h;omega)|skip
  all_goals refine ⟨k+1,by omega,rfl,fun i hi=>?_⟩
  all_goals rcases Nat.lt_or_eq_of_le (Nat.le_of_lt_succ hi) with h|rfl
  all_goals first|exact ha i h|exact e.2 ⟨by omega,by omega,by omega⟩
 ·intro hge
  have:k=c.length:=by omega
  subst this
  rw[Bool.eq_iff_iff,rO]
  exact ⟨fun h=>⟨h,ha⟩,fun h=>h.1⟩
theorem aDS:Con.Holds Tryz.prog iG:=aX aZ (aG kF (aG qJ aT)) aYU aX8
def cO:Con:=⟨38,aC,tI,[.val ⟨true,aC,[]⟩],[⟨false,tI,[0]⟩],false,none,
 ((fun x=>iH x.1∧List.length x.2.1≤1000000000):(bB)→Prop),
 ((fun x=>bC x.1 x.2.1):(bB)→(Int))⟩
def yL:T:=.call 0 (.bPY aE aB (.p1 aE (.bPW aB (.bPW tI (.bPW cA aQ))) (.Z 0)) (aH aC 1 (.Z 0))) <|
 .bPX .not (.Z 1) <|
 .ite (.Z 2) (
  .ret (.ci .i64 0)) (
  .bPX (.bQ0 3 tI) (aH aC 1 (.Z 0)) <|
  .bPX (.ar .add .i64) (.bPY tI tI (.Z 3) (.ci .i64 1)) <|
  .ret (.Z 4))
theorem aSG:bW Tryz.prog [lE] cO false 3000 ⟨[],[]⟩ = .ok yL:=by kernel_rfl
theorem aSN (x:bB) (hx:okD aC x) (hp:(fun x=>iH x.1∧List.length x.2.1≤1000000000) x):yL.wp [lE] [⟨aC,x⟩] [] (fun v=>v.as tI=(fun x=>bC x.1 x.2.1) x):=by
 obtain ⟨m,c,r⟩:=x
 have hq:iH m∧List.length c≤1000000000:=hp
 have hc:=hq.2
 delta yL lE;refine dY ?_
 refine ⟨hq,fun hb=>?_,fun hb _=>?_⟩
 all_goals simp only[uP] at hb
 ·unfold bC;rw[if_neg (by rw[hb];simp)]
 ·refine ⟨by omega,fun _=>?_⟩
  unfold bC;rw[if_pos hb]
theorem lZ:Con.Holds Tryz.prog cO:=aX aZ (aG aMD aT) aSG aSN
def nS:Con:=⟨44,aC,tI,[.val ⟨true,aC,[]⟩],[⟨false,tI,[0]⟩],false,none,
 ((fun x=>iH x.1∧List.length x.2.1≤1000000000):(bB)→Prop),
 ((fun x=>bC x.1 x.2.1):(bB)→(Int))⟩
def xN:T:=.call 0 (.bPY aE aB (.p1 aE (.bPW aB (.bPW tI (.bPW cA aQ))) (.Z 0)) (aH aC 1 (.Z 0))) <|
 .bPX .not (.Z 1) <|
 .ite (.Z 2) (
  .ret (.ci .i64 0)) (
  .bPX (.bQ0 3 tI) (aH aC 1 (.Z 0)) <|
  .bPX (.ar .add .i64) (.bPY tI tI (.Z 3) (.ci .i64 1)) <|
  .ret (.Z 4))
theorem aS4:bW Tryz.prog [iG] nS false 3000 ⟨[],[]⟩ = .ok xN:=by kernel_rfl
theorem aQT (x:bB) (hx:okD aC x) (hp:(fun x=>iH x.1∧List.length x.2.1≤1000000000) x):xN.wp [iG] [⟨aC,x⟩] [] (fun v=>v.as tI=(fun x=>bC x.1 x.2.1) x):=by
 obtain ⟨m,c,r⟩:=x
 have hq:iH m∧List.length c≤1000000000:=hp
 have hc:=hq.2
 delta xN iG;refine dY ?_
 refine ⟨hq,fun hb=>?_,fun hb _=>?_⟩
 all_goals simp only[uP] at hb
 ·unfold bC;rw[if_neg (by rw[hb];simp)]
 ·refine ⟨by omega,fun _=>?_⟩
  unfold bC;rw[if_pos hb]
theorem aRK:Con.Holds Tryz.prog nS:=aX aZ (aG aDS aT) aS4 aQT
def kQ:Con:=⟨13,(.bPW aC tI),tI,[.val ⟨true,aC,[]⟩,.val ⟨false,tI,[]⟩],[⟨false,tI,[0]⟩],false,none,
 ((fun x=>dO x.1):(bB × Int)→Prop),
 ((fun x=>aGA x.1 x.2):(bB × Int)→(Int))⟩
def tG:T:=.loop aD (.bPY tI tI (.ci .i64 0) (.ci .i64 0)) <|
 .bPX (.bQ0 4 .bool) (aH aC 3 (.p1 aC tI (.Z 0))) <|
 .bPX (.cmp .lss .i64) (.bPY tI tI (.p1 tI tI (.Z 1)) (.Z 2)) <|
 .ite (.Z 3) (
  .call 0 (.p1 aC tI (.Z 0)) <|
  .bPX (.cmp .lss .i64) (.bPY tI tI (.p1 tI tI (.Z 1)) (.Z 4)) <|
  .ite (.Z 5) (
   .bPX (.bQ1 4 .bool) (.bPY cA tI (aH aC 3 (.p1 aC tI (.Z 0))) (.p1 tI tI (.Z 1))) <|
   .call 0 (.p1 aC tI (.Z 0)) <|
   .call 1 (bP (.bPW tI (.bPW tI (.bPW tI (.bPW tI .bool)))) [(aH aC 2 (.p1 aC tI (.Z 0))),(.Z 7),(.p1 tI tI (.Z 1)),(aS (.bPW aC tI) 1 (.Z 0)),(.Z 6)]) <|
   .bPX (.bQ0 76 aD) (.Z 8) <|
   .bPX (.mx .i64) (.bPY tI tI (aS aD 1 (.Z 1)) (.Z 9)) <|
   .bPX (.ar .add .i64) (.bPY tI tI (.p1 tI tI (.Z 1)) (.ci .i64 1)) <|
   .bPZ 0 (.bPY tI tI (.Z 11) (.Z 10))) (
   .ret (aS aD 1 (.Z 1)))) (
  .ret (aS aD 1 (.Z 1)))
theorem aMY:bW Tryz.prog [cO,kR] kQ false 3000 ⟨[(2991,1001,[.dr 0,.tm 6 0,.tm 5 0])],[]⟩ = .ok tG:=by kernel_rfl
theorem aLH (x:bB × Int) (hx:okD (.bPW aC tI) x) (hp:(fun x=>dO x.1) x):tG.wp [cO,kR] [⟨(.bPW aC tI),x⟩] [] (fun v=>v.as tI=(fun x=>aGA x.1 x.2) x):=by
  obtain ⟨c,micro⟩:=x
  have hq:dO c:=hp
  obtain ⟨h1,h2,h3,h4,h5⟩:dO c:=hp
  delta tG cO kR;refine dY ?_
  have hst:0≤bC c.1 c.2.1:=by unfold bC;split <;> omega
  refine ⟨fun s=>∃ k:Nat,k≤c.2.2.2.1.length∧(k:Int)≤bC c.1 c.2.1∧s=((k:Int),vK c micro k),fun s=>c.2.2.2.1.length - (s.1:Int).toNat,⟨0,by omega,by omega,rfl⟩,fun s _ hI=>?_⟩
  obtain ⟨k,hk,hk2,rfl⟩:=hI
  have hb:=aWL c micro k
  have hpl:=lY c.2.2.1 (bC c.1 c.2.1) k micro (c.2.2.2.1.getD k false)
  have hpl2:(fU c.2.2.1 (bC c.1 c.2.1) k micro (c.2.2.2.1.getD k (aP .bool))).length≤60:=hpl
  dsimp only
  (refine eD ?_;try with_reducible exact True.intro)
  (repeat' first|intro _|(with_reducible apply And.intro))
  all_goals first
    | omega
    | exact ⟨h1,h2⟩
    | exact h1
    | exact ⟨k+1,by omega,by omega,rfl⟩
    | (show vK c micro k=aGA c micro
       unfold aGA
       congr 1
       omega)
theorem aJI:Con.Holds Tryz.prog kQ:=aX aZ (aG lZ (aG aL1 aT)) aMY aLH
end
end Go.Proofs.YtpafjioccjpmfaaGreat
