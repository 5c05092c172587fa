/- Ticks2: lemmas. No conditions. -/
import Derived.Test.YtabamggdmdednaaGreatPlan2
import Derived.Test.YtabamggdmdednaaGreatZero2
namespace Go.Proofs.YtabamggdmdednaaGreat
noncomputable section
set_option maxRecDepth 100000
open Go.ChangeShapes Go.WideShapes Go.ChangeAt Go.RowKit Go.Deep
set_option linter.unusedVariables false
set_option linter.unusedSimpArgs false
def cutAt (c:List Int) (n:Nat) (i:Nat):Bool:=decide (1≤c.getD i 0∧c.getD i 0≤(n:Int) - 1∧(i=0∨c.getD (i - 1) 0<c.getD i 0))
theorem xN (c:List Int) (n:Nat) {i:Nat} (h:i<c.length):cutAt c n i=true↔1≤c[i]∧c[i]≤(n:Int) - 1∧(i=0∨(c[i - 1]'(by omega))<c[i]):=by
 unfold cutAt
 rw[aZ h,aZ (show i - 1<c.length by omega),decide_eq_true_eq]
def jY (m:List dI) (c:List Int):Bool:=cR m&&(List.range c.length).all (cutAt c m.length)
theorem xQ (m:List dI) (c:List Int):jY m c=true↔cR m=true∧∀ i,i<c.length→cutAt c m.length i=true:=by
 unfold jY;simp only[Bool.and_eq_true,List.all_eq_true,List.mem_range]
theorem bNV {m:List dI} {c:List Int} (h:cR m=false):false=jY m c:=by unfold jY;rw[h];rfl
theorem bFN {m:List dI} {c:List Int} {i:Nat} (hi:i<c.length) (h:¬ cutAt c m.length i=true):false=jY m c:=by
 refine (Bool.eq_false_iff.2 fun h'=>?_).symm
 rw[xQ] at h'
 exact h (h'.2 i hi)
def bW (m:List dI) (c:List Int):Int:=if jY m c=true then (c.length:Int)+1 else 0
def fO (c:bG):Prop:=fQ c.1∧List.length c.2.1≤1000000000∧List.length c.2.2.2.1≤1000000000∧List.length c.2.2.2.2.1≤1000000000∧List.length c.2.2.2.2.2≤1000000000
theorem aJM (ds st s micro:Int) (r:Bool):(aAG ds st s micro r).length≤60:=by
 unfold aAG
 split
 ·rename_i h
  have h1:=aDW st s micro (pD ds st s micro) r micro.toNat
  have h2:=bD3 (ds:=ds) h.2
  have h3:=(gV _ _ _).1 h.2
  rw[List.length_append,List.length_singleton]
  omega
 ·simp
def lY:Con:=⟨49,(.bRW aE aB),.bool,[.val ⟨true,aE,[]⟩,.val ⟨false,aB,[]⟩],[⟨false,.bool,[0]⟩],false,none,
 ((fun x=>fQ x.1∧List.length x.2≤1000000000):(aY × bK)→Prop),
 ((fun x=>jY x.1 x.2):(aY × bK)→(Bool))⟩
def aEJ:T:=.call 0 (.p1 aE aB (.Z 0)) <|
 .bRX .not (.Z 1) <|
 .ite (.Z 2) (
  .ret (.cb false)) (
  .bRX (.bS0 3 tI) (aP (.bRW aE aB) 1 (.Z 0)) <|
  .loop tI (.ci .i64 0) <|
   .bRX (.cmp .lss .i64) (.bRY tI tI (.Z 4) (.Z 3)) <|
   .ite (.Z 5) (
    .bRX (.bS1 3 tI) (.bRY aB tI (aP (.bRW aE aB) 1 (.Z 0)) (.Z 4)) <|
    .bRX (.cmp .lss .i64) (.bRY tI tI (.Z 6) (.ci .i64 1)) <|
    .ite (.Z 7) (
     .ret (.cb false)) (
     .bRX (.bS0 88 bF) (.p1 aE aB (.Z 0)) <|
     .bRX (.ar .sub .i64) (.bRY tI tI (.Z 8) (.ci .i64 1)) <|
     .bRX (.cmp .gtr .i64) (.bRY tI tI (.Z 6) (.Z 9)) <|
     .ite (.Z 10) (
      .ret (.cb false)) (
      .bRX (.cmp .gtr .i64) (.bRY tI tI (.Z 4) (.ci .i64 0)) <|
      .ite (.Z 11) (
       .bRX (.ar .sub .i64) (.bRY tI tI (.Z 4) (.ci .i64 1)) <|
       .bRX (.bS1 3 tI) (.bRY aB tI (aP (.bRW aE aB) 1 (.Z 0)) (.Z 12)) <|
       .bRX (.cmp .geq .i64) (.bRY tI tI (.Z 13) (.Z 6)) <|
       .ite (.Z 14) (
        .ret (.cb false)) (
        .bRX (.ar .add .i64) (.bRY tI tI (.Z 4) (.ci .i64 1)) <|
        .bRZ 0 (.Z 15))) (
       .bRX (.ar .add .i64) (.bRY tI tI (.Z 4) (.ci .i64 1)) <|
       .bRZ 0 (.Z 12))))) (
    .ret (.cb true)))
theorem bBN:bI Tryz.prog [bS] lY false 3000 ⟨[(2988,2004,gQ 9 7++[.dr 0,.tm 12 0])],[]⟩ = .ok aEJ:=by kernel_rfl
theorem bCV (x:aY × bK) (hx:okD (.bRW aE aB) x) (hp:(fun x=>fQ x.1∧List.length x.2≤1000000000) x):aEJ.wp [bS] [⟨(.bRW aE aB),x⟩] [] (fun v=>v.as .bool=(fun x=>jY x.1 x.2) x):=by
 obtain ⟨m,c⟩:=x
 obtain ⟨⟨hm1,hm2⟩,hc⟩:fQ m∧List.length c≤1000000000:=hp
 delta aEJ bS;refine cW ?_
 refine ⟨fun hb=>?_,fun hb _=>?_⟩
 all_goals simp only[mG] at hb
 ·exact bNV hb
 refine ⟨fun s=>∃ k:Nat,k≤c.length∧s=(k:Int)∧∀ i,i<k→cutAt c m.length i=true,fun s=>c.length - (s:Int).toNat,⟨0,by omega,rfl,by omega⟩,fun s _ hI=>?_⟩
 obtain ⟨k,hk,rfl,ha⟩:=hI
 refine dB ?_
 constructor
 ·intro hlt
  have hk':k<c.length:=by omega
  rw[aZ hk',aZ (show k - 1<c.length by omega)]
  have e:=xN c m.length hk'
  (repeat' first|intro _|(with_reducible apply And.intro))
  all_goals first|omega|(refine bFN hk' fun h=>?_;rw[e] at h;omega)|skip
  all_goals refine ⟨k+1,by omega,rfl,fun i hi=>?_⟩
  all_goals rcases Nat.lt_or_eq_of_le (Nat.le_of_lt_succ hi) with h|rfl
  all_goals first|exact ha i h|exact e.2 ⟨by omega,by omega,by omega⟩
 ·intro hge
  have:k=c.length:=by omega
  subst this
  exact ((xQ m c).2 ⟨hb,ha⟩).symm
theorem aLE:Con.Holds Tryz.prog lY:=aS aV (aI iB aQ) bBN bCV
def iM:Con:=⟨71,(.bRW aE aB),.bool,[.val ⟨true,aE,[]⟩,.val ⟨false,aB,[]⟩],[⟨false,.bool,[0]⟩],false,none,
 ((fun x=>fQ x.1∧List.length x.2≤1000000000):(aY × bK)→Prop),
 ((fun x=>jY x.1 x.2):(aY × bK)→(Bool))⟩
def aF2:T:=.loop tI (.ci .i64 0) <|
 .bRX (.bS0 3 tI) (aP (.bRW aE aB) 1 (.Z 0)) <|
 .bRX (.cmp .lss .i64) (.bRY tI tI (.Z 1) (.Z 2)) <|
 .ite (.Z 3) (
  .bRX (.bS1 3 tI) (.bRY aB tI (aP (.bRW aE aB) 1 (.Z 0)) (.Z 1)) <|
  .bRX (.bS0 88 bF) (.p1 aE aB (.Z 0)) <|
  .bRX (.ar .sub .i64) (.bRY tI tI (.Z 5) (.ci .i64 1)) <|
  .call 0 (bB (.bRW tI aD) [(.Z 4),(.ci .i64 1),(.Z 6)]) <|
  .bRX .not (.Z 7) <|
  .ite (.Z 8) (
   .ret (.cb false)) (
   .bRX (.cmp .gtr .i64) (.bRY tI tI (.Z 1) (.ci .i64 0)) <|
   .ite (.Z 9) (
    .bRX (.ar .sub .i64) (.bRY tI tI (.Z 1) (.ci .i64 1)) <|
    .bRX (.bS1 3 tI) (.bRY aB tI (aP (.bRW aE aB) 1 (.Z 0)) (.Z 1)) <|
    .bRX (.bS1 3 tI) (.bRY aB tI (aP (.bRW aE aB) 1 (.Z 0)) (.Z 10)) <|
    .bRX (.cmp .leq .i64) (.bRY tI tI (.Z 11) (.Z 12)) <|
    .ite (.Z 13) (
     .ret (.cb false)) (
     .bRX (.ar .add .i64) (.bRY tI tI (.Z 1) (.ci .i64 1)) <|
     .bRZ 0 (.Z 14))) (
    .bRX (.ar .add .i64) (.bRY tI tI (.Z 1) (.ci .i64 1)) <|
    .bRZ 0 (.Z 10)))) (
  .call 1 (.p1 aE aB (.Z 0)) <|
  .ret (.Z 4))
theorem bAV:bI Tryz.prog [bL,cD] iM false 3000 ⟨[(2993,1001,[.dr 0,.tm 5 0])],[]⟩ = .ok aF2:=by kernel_rfl
theorem bAB (x:aY × bK) (hx:okD (.bRW aE aB) x) (hp:(fun x=>fQ x.1∧List.length x.2≤1000000000) x):aF2.wp [bL,cD] [⟨(.bRW aE aB),x⟩] [] (fun v=>v.as .bool=(fun x=>jY x.1 x.2) x):=by
 obtain ⟨m,c⟩:=x
 obtain ⟨⟨hm1,hm2⟩,hc⟩:fQ m∧List.length c≤1000000000:=hp
 delta aF2 bL cD;refine cW ?_
 refine ⟨fun s=>∃ k:Nat,k≤c.length∧s=(k:Int)∧∀ i,i<k→cutAt c m.length i=true,fun s=>c.length - (s:Int).toNat,⟨0,by omega,rfl,by omega⟩,fun s _ hI=>?_⟩
 obtain ⟨k,hk,rfl,ha⟩:=hI
 refine dB ?_
 intro _
 constructor
 ·intro hlt
  have hk':k<c.length:=by omega
  rw[aZ hk',aZ (show k - 1<c.length by omega)]
  have e:=xN c m.length hk'
  (repeat' first|intro _|(with_reducible apply And.intro))
  all_goals first|omega|(refine bFN hk' fun h=>?_;rw[e] at h;omega)|skip
  all_goals refine ⟨k+1,by omega,rfl,fun i hi=>?_⟩
  all_goals rcases Nat.lt_or_eq_of_le (Nat.le_of_lt_succ hi) with h|rfl
  all_goals first|exact ha i h|exact e.2 ⟨by omega,by omega,by omega⟩
 ·intro hge
  have:k=c.length:=by omega
  subst this
  rw[Bool.eq_iff_iff,xQ]
  exact ⟨fun h=>⟨h,ha⟩,fun h=>h.1⟩
theorem aGE:Con.Holds Tryz.prog iM:=aS aV (aI eV (aI kF aQ)) bAV bAB
def dN:Con:=⟨22,aC,tI,[.val ⟨true,aC,[]⟩],[⟨false,tI,[0]⟩],false,none,
 ((fun x=>fQ x.1∧List.length x.2.1≤1000000000):(bG)→Prop),
 ((fun x=>bW x.1 x.2.1):(bG)→(Int))⟩
def zL:T:=.call 0 (.bRY aE aB (.p1 aE (.bRW aB (.bRW tI (.bRW bV aO))) (.Z 0)) (aK aC 1 (.Z 0))) <|
 .bRX .not (.Z 1) <|
 .ite (.Z 2) (
  .ret (.ci .i64 0)) (
  .bRX (.bS0 3 tI) (aK aC 1 (.Z 0)) <|
  .bRX (.ar .add .i64) (.bRY tI tI (.Z 3) (.ci .i64 1)) <|
  .ret (.Z 4))
theorem aT1:bI Tryz.prog [lY] dN false 3000 ⟨[],[]⟩ = .ok zL:=by kernel_rfl
theorem aSG (x:bG) (hx:okD aC x) (hp:(fun x=>fQ x.1∧List.length x.2.1≤1000000000) x):zL.wp [lY] [⟨aC,x⟩] [] (fun v=>v.as tI=(fun x=>bW x.1 x.2.1) x):=by
 obtain ⟨m,c,r⟩:=x
 have hq:fQ m∧List.length c≤1000000000:=hp
 have hc:=hq.2
 delta zL lY;refine cW ?_
 refine ⟨hq,fun hb=>?_,fun hb _=>?_⟩
 all_goals simp only[mG] at hb
 ·unfold bW;rw[if_neg (by rw[hb];simp)]
 ·refine ⟨by omega,fun _=>?_⟩
  unfold bW;rw[if_pos hb]
theorem rX:Con.Holds Tryz.prog dN:=aS aV (aI aLE aQ) aT1 aSG
def oC:Con:=⟨73,aC,tI,[.val ⟨true,aC,[]⟩],[⟨false,tI,[0]⟩],false,none,
 ((fun x=>fQ x.1∧List.length x.2.1≤1000000000):(bG)→Prop),
 ((fun x=>bW x.1 x.2.1):(bG)→(Int))⟩
def zX:T:=.call 0 (.bRY aE aB (.p1 aE (.bRW aB (.bRW tI (.bRW bV aO))) (.Z 0)) (aK aC 1 (.Z 0))) <|
 .bRX .not (.Z 1) <|
 .ite (.Z 2) (
  .ret (.ci .i64 0)) (
  .bRX (.bS0 3 tI) (aK aC 1 (.Z 0)) <|
  .bRX (.ar .add .i64) (.bRY tI tI (.Z 3) (.ci .i64 1)) <|
  .ret (.Z 4))
theorem aT5:bI Tryz.prog [iM] oC false 3000 ⟨[],[]⟩ = .ok zX:=by kernel_rfl
theorem aUL (x:bG) (hx:okD aC x) (hp:(fun x=>fQ x.1∧List.length x.2.1≤1000000000) x):zX.wp [iM] [⟨aC,x⟩] [] (fun v=>v.as tI=(fun x=>bW x.1 x.2.1) x):=by
 obtain ⟨m,c,r⟩:=x
 have hq:fQ m∧List.length c≤1000000000:=hp
 have hc:=hq.2
 delta zX iM;refine cW ?_
 refine ⟨hq,fun hb=>?_,fun hb _=>?_⟩
 all_goals simp only[mG] at hb
 ·unfold bW;rw[if_neg (by rw[hb];simp)]
 ·refine ⟨by omega,fun _=>?_⟩
  unfold bW;rw[if_pos hb]
theorem aSI:Con.Holds Tryz.prog oC:=aS aV (aI aGE aQ) aT5 aUL
end
end Go.Proofs.YtabamggdmdednaaGreat
