/- Ticks2: lemmas. No conditions. -/
import Derived.Test.YtpleleanibgniaaGreatPlan2
import Derived.Test.YtpleleanibgniaaGreatZero2
namespace Go.Proofs.YtpleleanibgniaaGreat
set_option maxRecDepth 100000
open Go.ChangeShapes Go.WideShapes Go.ChangeAt Go.RowKit Go.Deep
set_option linter.unusedVariables false
set_option linter.unusedSimpArgs false
def cutAt (c:List Int) (n:Nat) (i:Nat):Bool:=decide (1≤c.getD i 0∧c.getD i 0≤(n:Int) - 1∧(i=0∨c.getD (i - 1) 0<c.getD i 0))
theorem yS (c:List Int) (n:Nat) {i:Nat} (h:i<c.length):cutAt c n i=true↔1≤c[i]∧c[i]≤(n:Int) - 1∧(i=0∨(c[i - 1]'(by omega))<c[i]):=by
 unfold cutAt
 rw[bD h,bD (show i - 1<c.length by omega),decide_eq_true_eq]
def jY (m:List dE) (c:List Int):Bool:=bT m&&(List.range c.length).all (cutAt c m.length)
theorem tJ (m:List dE) (c:List Int):jY m c=true↔bT m=true∧∀ i,i<c.length→cutAt c m.length i=true:=by
 unfold jY;simp only[Bool.and_eq_true,List.all_eq_true,List.mem_range]
theorem bFI {m:List dE} {c:List Int} {i:Nat} (hi:i<c.length) (h:¬ cutAt c m.length i=true):false=jY m c:=by
 refine (Bool.eq_false_iff.2 fun h'=>?_).symm
 rw[tJ] at h'
 exact h (h'.2 i hi)
def bL (m:List dE) (c:List Int):Int:=if jY m c=true then (c.length:Int)+1 else 0
def pN (c:bK):Prop:=lR c.1∧List.length c.2.1≤1000000000∧List.length c.2.2.2.1≤1000000000∧List.length c.2.2.2.2.1≤1000000000∧List.length c.2.2.2.2.2≤1000000000
theorem aDZ (ds st s micro:Int) (r:Bool):(lJ ds st s micro r).length≤60:=by
 unfold lJ
 split
 ·rename_i h
  have h1:=aDN st s micro (pX ds st s micro) r micro.toNat
  have h2:=bBK (ds:=ds) h.2
  have h3:=(jX _ _ _).1 h.2
  rw[List.length_append,List.length_singleton]
  omega
 ·simp
noncomputable def fV:Con:=⟨21,(.bJ2 aD aB),.bool,[.val ⟨true,aD,[]⟩,.val ⟨false,aB,[]⟩],[⟨false,.bool,[0]⟩],false,none,
 ((fun x=>lR x.1∧List.length x.2≤1000000000):(aW × bH)→Prop),
 ((fun x=>jY x.1 x.2):(aW × bH)→(Bool))⟩
def aAC:T:=.loop tI (.ci .i64 0) <|
 .bJ3 (.bJ6 3 tI) (aR (.bJ2 aD aB) 1 (.Z 0)) <|
 .bJ3 (.cmp .lss .i64) (.bJ4 tI tI (.Z 1) (.Z 2)) <|
 .ite (.Z 3) (
  .bJ3 (.bJ7 3 tI) (.bJ4 aB tI (aR (.bJ2 aD aB) 1 (.Z 0)) (.Z 1)) <|
  .bJ3 (.bJ6 93 bN) (.p1 aD aB (.Z 0)) <|
  .bJ3 (.ar .sub .i64) (.bJ4 tI tI (.Z 5) (.ci .i64 1)) <|
  .call 0 (bJ (.bJ2 tI aC) [(.Z 4),(.ci .i64 1),(.Z 6)]) <|
  .bJ3 .not (.Z 7) <|
  .ite (.Z 8) (
   .ret (.cb false)) (
   .bJ3 (.cmp .gtr .i64) (.bJ4 tI tI (.Z 1) (.ci .i64 0)) <|
   .ite (.Z 9) (
    .bJ3 (.ar .sub .i64) (.bJ4 tI tI (.Z 1) (.ci .i64 1)) <|
    .bJ3 (.bJ7 3 tI) (.bJ4 aB tI (aR (.bJ2 aD aB) 1 (.Z 0)) (.Z 1)) <|
    .bJ3 (.bJ7 3 tI) (.bJ4 aB tI (aR (.bJ2 aD aB) 1 (.Z 0)) (.Z 10)) <|
    .bJ3 (.cmp .leq .i64) (.bJ4 tI tI (.Z 11) (.Z 12)) <|
    .ite (.Z 13) (
     .ret (.cb false)) (
     .bJ3 (.ar .add .i64) (.bJ4 tI tI (.Z 1) (.ci .i64 1)) <|
     .bJ5 0 (.Z 14))) (
    .bJ3 (.ar .add .i64) (.bJ4 tI tI (.Z 1) (.ci .i64 1)) <|
    .bJ5 0 (.Z 10)))) (
  .call 1 (.p1 aD aB (.Z 0)) <|
  .ret (.Z 4))
theorem aTW:bV Tryz.prog [bY,cE] fV false 3000 ⟨[(2993,1001,[.dr 0,.tm 5 0])],[]⟩ = .ok aAC:=by kernel_rfl
theorem aV5 (x:aW × bH) (hx:okD (.bJ2 aD aB) x) (hp:(fun x=>lR x.1∧List.length x.2≤1000000000) x):aAC.wp [bY,cE] [⟨(.bJ2 aD aB),x⟩] [] (fun v=>v.as .bool=(fun x=>jY x.1 x.2) x):=by
 obtain ⟨m,c⟩:=x
 obtain ⟨⟨hm1,hm2⟩,hc⟩:lR m∧List.length c≤1000000000:=hp
 delta aAC bY cE;refine eE ?_
 refine ⟨fun s=>∃ k:Nat,k≤c.length∧s=(k:Int)∧∀ i,i<k→cutAt c m.length i=true,fun s=>c.length - (s:Int).toNat,⟨0,by omega,rfl,by omega⟩,fun s _ hI=>?_⟩
 obtain ⟨k,hk,rfl,ha⟩:=hI
 refine eL ?_
 intro _
 constructor
 ·intro hlt
  have hk':k<c.length:=by omega
  rw[bD hk',bD (show k - 1<c.length by omega)]
  have e:=yS c m.length hk'
  (repeat' first|intro _|(with_reducible apply And.intro))
  all_goals first|omega|(refine bFI hk' fun h=>?_;rw[e] at h;omega)|skip
  all_goals refine ⟨k+1,by omega,rfl,fun i hi=>?_⟩
  all_goals rcases Nat.lt_or_eq_of_le (Nat.le_of_lt_succ hi) with h|rfl
  all_goals first|exact ha i h|exact e.2 ⟨by omega,by omega,by omega⟩
 ·intro hge
  have:k=c.length:=by omega
  subst this
  rw[Bool.eq_iff_iff,tJ]
  exact ⟨fun h=>⟨h,ha⟩,fun h=>h.1⟩
theorem aAM:Con.Holds Tryz.prog fV:=aV aX (aG iJ (aG jH aT)) aTW aV5
noncomputable def lM:Con:=⟨24,aE,tI,[.val ⟨true,aE,[]⟩],[⟨false,tI,[0]⟩],false,none,
 ((fun x=>lR x.1∧List.length x.2.1≤1000000000):(bK)→Prop),
 ((fun x=>bL x.1 x.2.1):(bK)→(Int))⟩
def tU:T:=.call 0 (.bJ4 aD aB (.p1 aD (.bJ2 aB (.bJ2 tI (.bJ2 cB aQ))) (.Z 0)) (aJ aE 1 (.Z 0))) <|
 .bJ3 .not (.Z 1) <|
 .ite (.Z 2) (
  .ret (.ci .i64 0)) (
  .bJ3 (.bJ6 3 tI) (aJ aE 1 (.Z 0)) <|
  .bJ3 (.ar .add .i64) (.bJ4 tI tI (.Z 3) (.ci .i64 1)) <|
  .ret (.Z 4))
theorem aLW:bV Tryz.prog [fV] lM false 3000 ⟨[],[]⟩ = .ok tU:=by kernel_rfl
theorem aNC (x:bK) (hx:okD aE x) (hp:(fun x=>lR x.1∧List.length x.2.1≤1000000000) x):tU.wp [fV] [⟨aE,x⟩] [] (fun v=>v.as tI=(fun x=>bL x.1 x.2.1) x):=by
 obtain ⟨m,c,r⟩:=x
 have hq:lR m∧List.length c≤1000000000:=hp
 have hc:=hq.2
 delta tU fV;refine eE ?_
 refine ⟨hq,fun hb=>?_,fun hb _=>?_⟩
 all_goals simp only[zO] at hb
 ·unfold bL;rw[if_neg (by rw[hb];simp)]
 ·refine ⟨by omega,fun _=>?_⟩
  unfold bL;rw[if_pos hb]
theorem aMT:Con.Holds Tryz.prog lM:=aV aX (aG aAM aT) aLW aNC
end Go.Proofs.YtpleleanibgniaaGreat
