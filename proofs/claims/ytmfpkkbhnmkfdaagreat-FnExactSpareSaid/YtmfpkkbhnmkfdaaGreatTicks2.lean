/- Ticks2: lemmas. No conditions. -/
import Derived.Test.YtmfpkkbhnmkfdaaGreatPlan2
import Derived.Test.YtmfpkkbhnmkfdaaGreatZero2
namespace Go.Proofs.YtmfpkkbhnmkfdaaGreat
noncomputable section
set_option maxRecDepth 100000
open Go.ChangeShapes Go.WideShapes Go.ChangeAt Go.RowKit Go.Deep
set_option linter.unusedVariables false
set_option linter.unusedSimpArgs false
def cutAt (c:List Int) (n:Nat) (i:Nat):Bool:=decide (1≤c.getD i 0∧c.getD i 0≤(n:Int) - 1∧(i=0∨c.getD (i - 1) 0<c.getD i 0))
theorem xC (c:List Int) (n:Nat) {i:Nat} (h:i<c.length):cutAt c n i=true↔1≤c[i]∧c[i]≤(n:Int) - 1∧(i=0∨(c[i - 1]'(by omega))<c[i]):=by
 unfold cutAt
 rw[aZ h,aZ (show i - 1<c.length by omega),decide_eq_true_eq]
def jS (m:List eV) (c:List Int):Bool:=cS m&&(List.range c.length).all (cutAt c m.length)
theorem xL (m:List eV) (c:List Int):jS m c=true↔cS m=true∧∀ i,i<c.length→cutAt c m.length i=true:=by
 unfold jS;simp only[Bool.and_eq_true,List.all_eq_true,List.mem_range]
theorem bMM {m:List eV} {c:List Int} (h:cS m=false):false=jS m c:=by unfold jS;rw[h];rfl
theorem bCG {m:List eV} {c:List Int} {i:Nat} (hi:i<c.length) (h:¬ cutAt c m.length i=true):false=jS m c:=by
 refine (Bool.eq_false_iff.2 fun h'=>?_).symm
 rw[xL] at h'
 exact h (h'.2 i hi)
def bS (m:List eV) (c:List Int):Int:=if jS m c=true then (c.length:Int)+1 else 0
def fF (c:bI):Prop:=gC c.1∧List.length c.2.1≤1000000000∧List.length c.2.2.2.1≤1000000000∧List.length c.2.2.2.2.1≤1000000000∧List.length c.2.2.2.2.2≤1000000000
theorem aHV (ds st s micro:Int) (r:Bool):(zZ ds st s micro r).length≤60:=by
 unfold zZ
 split
 ·rename_i h
  have h1:=aCT st s micro (oT ds st s micro) r micro.toNat
  have h2:=bAQ (ds:=ds) h.2
  have h3:=(hZ _ _ _).1 h.2
  rw[List.length_append,List.length_singleton]
  omega
 ·simp
def mJ:Con:=⟨231,(.bP9 aE aB),.bool,[.val ⟨true,aE,[]⟩,.val ⟨false,aB,[]⟩],[⟨false,.bool,[0]⟩],false,none,
 ((fun x=>gC x.1∧List.length x.2≤1000000000):(bO × cF)→Prop),
 ((fun x=>jS x.1 x.2):(bO × cF)→(Bool))⟩
def aFG:T:=.call 0 (.p1 aE aB (.Z 0)) <|
 .bPA .not (.Z 1) <|
 .ite (.Z 2) (
  .ret (.cb false)) (
  .bPA (.bPD 3 tI) (aQ (.bP9 aE aB) 1 (.Z 0)) <|
  .loop tI (.ci .i64 0) <|
   .bPA (.cmp .lss .i64) (.bPB tI tI (.Z 4) (.Z 3)) <|
   .ite (.Z 5) (
    .bPA (.bPE 3 tI) (.bPB aB tI (aQ (.bP9 aE aB) 1 (.Z 0)) (.Z 4)) <|
    .bPA (.cmp .lss .i64) (.bPB tI tI (.Z 6) (.ci .i64 1)) <|
    .ite (.Z 7) (
     .ret (.cb false)) (
     .bPA (.bPD 219 bD) (.p1 aE aB (.Z 0)) <|
     .bPA (.ar .sub .i64) (.bPB tI tI (.Z 8) (.ci .i64 1)) <|
     .bPA (.cmp .gtr .i64) (.bPB tI tI (.Z 6) (.Z 9)) <|
     .ite (.Z 10) (
      .ret (.cb false)) (
      .bPA (.cmp .gtr .i64) (.bPB tI tI (.Z 4) (.ci .i64 0)) <|
      .ite (.Z 11) (
       .bPA (.ar .sub .i64) (.bPB tI tI (.Z 4) (.ci .i64 1)) <|
       .bPA (.bPE 3 tI) (.bPB aB tI (aQ (.bP9 aE aB) 1 (.Z 0)) (.Z 12)) <|
       .bPA (.cmp .geq .i64) (.bPB tI tI (.Z 13) (.Z 6)) <|
       .ite (.Z 14) (
        .ret (.cb false)) (
        .bPA (.ar .add .i64) (.bPB tI tI (.Z 4) (.ci .i64 1)) <|
        .bPC 0 (.Z 15))) (
       .bPA (.ar .add .i64) (.bPB tI tI (.Z 4) (.ci .i64 1)) <|
       .bPC 0 (.Z 12))))) (
    .ret (.cb true)))
theorem aZB:bN Tryz.prog [bT] mJ false 3000 ⟨[(2988,2004,iL 9 7++[.dr 0,.tm 12 0])],[]⟩ = .ok aFG:=by kernel_rfl
theorem bAJ (x:bO × cF) (hx:okD (.bP9 aE aB) x) (hp:(fun x=>gC x.1∧List.length x.2≤1000000000) x):aFG.wp [bT] [⟨(.bP9 aE aB),x⟩] [] (fun v=>v.as .bool=(fun x=>jS x.1 x.2) x):=by
 obtain ⟨m,c⟩:=x
 obtain ⟨⟨hm1,hm2⟩,hc⟩:gC m∧List.length c≤1000000000:=hp
 delta aFG bT;refine dD ?_
 refine ⟨fun hb=>?_,fun hb _=>?_⟩
 all_goals simp only[mP] at hb
 ·exact bMM hb
 refine ⟨fun s=>∃ k:Nat,k≤c.length∧s=(k:Int)∧∀ i,i<k→cutAt c m.length i=true,fun s=>c.length - (s:Int).toNat,⟨0,by omega,rfl,by omega⟩,fun s _ hI=>?_⟩
 obtain ⟨k,hk,rfl,ha⟩:=hI
 refine dM ?_
 constructor
 ·intro hlt
  have hk':k<c.length:=by omega
  rw[aZ hk',aZ (show k - 1<c.length by omega)]
  have e:=xC c m.length hk'
  (repeat' first|intro _|(with_reducible apply And.intro))
  all_goals first|omega|(refine bCG hk' fun h=>?_;rw[e] at h;omega)|skip
  all_goals refine ⟨k+1,by omega,rfl,fun i hi=>?_⟩
  all_goals rcases Nat.lt_or_eq_of_le (Nat.le_of_lt_succ hi) with h|rfl
  all_goals first|exact ha i h|exact e.2 ⟨by omega,by omega,by omega⟩
 ·intro hge
  have:k=c.length:=by omega
  subst this
  exact ((xL m c).2 ⟨hb,ha⟩).symm
theorem aL8:Con.Holds Tryz.prog mJ:=aS aV (aH iI aT) aZB bAJ
def iQ:Con:=⟨153,(.bP9 aE aB),.bool,[.val ⟨true,aE,[]⟩,.val ⟨false,aB,[]⟩],[⟨false,.bool,[0]⟩],false,none,
 ((fun x=>gC x.1∧List.length x.2≤1000000000):(bO × cF)→Prop),
 ((fun x=>jS x.1 x.2):(bO × cF)→(Bool))⟩
def aE8:T:=.loop tI (.ci .i64 0) <|
 .bPA (.bPD 3 tI) (aQ (.bP9 aE aB) 1 (.Z 0)) <|
 .bPA (.cmp .lss .i64) (.bPB tI tI (.Z 1) (.Z 2)) <|
 .ite (.Z 3) (
  .bPA (.bPE 3 tI) (.bPB aB tI (aQ (.bP9 aE aB) 1 (.Z 0)) (.Z 1)) <|
  .bPA (.bPD 219 bD) (.p1 aE aB (.Z 0)) <|
  .bPA (.ar .sub .i64) (.bPB tI tI (.Z 5) (.ci .i64 1)) <|
  .call 0 (bG (.bP9 tI aP) [(.Z 4),(.ci .i64 1),(.Z 6)]) <|
  .bPA .not (.Z 7) <|
  .ite (.Z 8) (
   .ret (.cb false)) (
   .bPA (.cmp .gtr .i64) (.bPB tI tI (.Z 1) (.ci .i64 0)) <|
   .ite (.Z 9) (
    .bPA (.ar .sub .i64) (.bPB tI tI (.Z 1) (.ci .i64 1)) <|
    .bPA (.bPE 3 tI) (.bPB aB tI (aQ (.bP9 aE aB) 1 (.Z 0)) (.Z 1)) <|
    .bPA (.bPE 3 tI) (.bPB aB tI (aQ (.bP9 aE aB) 1 (.Z 0)) (.Z 10)) <|
    .bPA (.cmp .leq .i64) (.bPB tI tI (.Z 11) (.Z 12)) <|
    .ite (.Z 13) (
     .ret (.cb false)) (
     .bPA (.ar .add .i64) (.bPB tI tI (.Z 1) (.ci .i64 1)) <|
     .bPC 0 (.Z 14))) (
    .bPA (.ar .add .i64) (.bPB tI tI (.Z 1) (.ci .i64 1)) <|
    .bPC 0 (.Z 10)))) (
  .call 1 (.p1 aE aB (.Z 0)) <|
  .ret (.Z 4))
theorem bBN:bN Tryz.prog [bK,cD] iQ false 3000 ⟨[(2993,1001,[.dr 0,.tm 5 0])],[]⟩ = .ok aE8:=by kernel_rfl
theorem aYT (x:bO × cF) (hx:okD (.bP9 aE aB) x) (hp:(fun x=>gC x.1∧List.length x.2≤1000000000) x):aE8.wp [bK,cD] [⟨(.bP9 aE aB),x⟩] [] (fun v=>v.as .bool=(fun x=>jS x.1 x.2) x):=by
 obtain ⟨m,c⟩:=x
 obtain ⟨⟨hm1,hm2⟩,hc⟩:gC m∧List.length c≤1000000000:=hp
 delta aE8 bK cD;refine dD ?_
 refine ⟨fun s=>∃ k:Nat,k≤c.length∧s=(k:Int)∧∀ i,i<k→cutAt c m.length i=true,fun s=>c.length - (s:Int).toNat,⟨0,by omega,rfl,by omega⟩,fun s _ hI=>?_⟩
 obtain ⟨k,hk,rfl,ha⟩:=hI
 refine dM ?_
 intro _
 constructor
 ·intro hlt
  have hk':k<c.length:=by omega
  rw[aZ hk',aZ (show k - 1<c.length by omega)]
  have e:=xC c m.length hk'
  (repeat' first|intro _|(with_reducible apply And.intro))
  all_goals first|omega|(refine bCG hk' fun h=>?_;rw[e] at h;omega)|skip
  all_goals refine ⟨k+1,by omega,rfl,fun i hi=>?_⟩
  all_goals rcases Nat.lt_or_eq_of_le (Nat.le_of_lt_succ hi) with h|rfl
  all_goals first|exact ha i h|exact e.2 ⟨by omega,by omega,by omega⟩
 ·intro hge
  have:k=c.length:=by omega
  subst this
  rw[Bool.eq_iff_iff,xL]
  exact ⟨fun h=>⟨h,ha⟩,fun h=>h.1⟩
theorem aE3:Con.Holds Tryz.prog iQ:=aS aV (aH fM (aH kP aT)) bBN aYT
def dP:Con:=⟨145,aC,tI,[.val ⟨true,aC,[]⟩],[⟨false,tI,[0]⟩],false,none,
 ((fun x=>gC x.1∧List.length x.2.1≤1000000000):(bI)→Prop),
 ((fun x=>bS x.1 x.2.1):(bI)→(Int))⟩
def yI:T:=.call 0 (.bPB aE aB (.p1 aE (.bP9 aB (.bP9 tI (.bP9 bW aI))) (.Z 0)) (aK aC 1 (.Z 0))) <|
 .bPA .not (.Z 1) <|
 .ite (.Z 2) (
  .ret (.ci .i64 0)) (
  .bPA (.bPD 3 tI) (aK aC 1 (.Z 0)) <|
  .bPA (.ar .add .i64) (.bPB tI tI (.Z 3) (.ci .i64 1)) <|
  .ret (.Z 4))
theorem aS2:bN Tryz.prog [mJ] dP false 3000 ⟨[],[]⟩ = .ok yI:=by kernel_rfl
theorem aSW (x:bI) (hx:okD aC x) (hp:(fun x=>gC x.1∧List.length x.2.1≤1000000000) x):yI.wp [mJ] [⟨aC,x⟩] [] (fun v=>v.as tI=(fun x=>bS x.1 x.2.1) x):=by
 obtain ⟨m,c,r⟩:=x
 have hq:gC m∧List.length c≤1000000000:=hp
 have hc:=hq.2
 delta yI mJ;refine dD ?_
 refine ⟨hq,fun hb=>?_,fun hb _=>?_⟩
 all_goals simp only[mP] at hb
 ·unfold bS;rw[if_neg (by rw[hb];simp)]
 ·refine ⟨by omega,fun _=>?_⟩
  unfold bS;rw[if_pos hb]
theorem rR:Con.Holds Tryz.prog dP:=aS aV (aH aL8 aT) aS2 aSW
def oM:Con:=⟨139,aC,tI,[.val ⟨true,aC,[]⟩],[⟨false,tI,[0]⟩],false,none,
 ((fun x=>gC x.1∧List.length x.2.1≤1000000000):(bI)→Prop),
 ((fun x=>bS x.1 x.2.1):(bI)→(Int))⟩
def yM:T:=.call 0 (.bPB aE aB (.p1 aE (.bP9 aB (.bP9 tI (.bP9 bW aI))) (.Z 0)) (aK aC 1 (.Z 0))) <|
 .bPA .not (.Z 1) <|
 .ite (.Z 2) (
  .ret (.ci .i64 0)) (
  .bPA (.bPD 3 tI) (aK aC 1 (.Z 0)) <|
  .bPA (.ar .add .i64) (.bPB tI tI (.Z 3) (.ci .i64 1)) <|
  .ret (.Z 4))
theorem aSS:bN Tryz.prog [iQ] oM false 3000 ⟨[],[]⟩ = .ok yM:=by kernel_rfl
theorem aRI (x:bI) (hx:okD aC x) (hp:(fun x=>gC x.1∧List.length x.2.1≤1000000000) x):yM.wp [iQ] [⟨aC,x⟩] [] (fun v=>v.as tI=(fun x=>bS x.1 x.2.1) x):=by
 obtain ⟨m,c,r⟩:=x
 have hq:gC m∧List.length c≤1000000000:=hp
 have hc:=hq.2
 delta yM iQ;refine dD ?_
 refine ⟨hq,fun hb=>?_,fun hb _=>?_⟩
 all_goals simp only[mP] at hb
 ·unfold bS;rw[if_neg (by rw[hb];simp)]
 ·refine ⟨by omega,fun _=>?_⟩
  unfold bS;rw[if_pos hb]
theorem aQW:Con.Holds Tryz.prog oM:=aS aV (aH aE3 aT) aSS aRI
end
end Go.Proofs.YtmfpkkbhnmkfdaaGreat
