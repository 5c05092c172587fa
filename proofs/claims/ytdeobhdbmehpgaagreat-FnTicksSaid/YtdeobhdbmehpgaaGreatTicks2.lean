/- Ticks2: lemmas. No conditions. -/
import Derived.Test.YtdeobhdbmehpgaaGreatPlan2
import Derived.Test.YtdeobhdbmehpgaaGreatZero2
namespace Go.Proofs.YtdeobhdbmehpgaaGreat
set_option maxRecDepth 100000
open Go.ChangeShapes Go.WideShapes Go.ChangeAt Go.RowKit Go.Deep
set_option linter.unusedVariables false
set_option linter.unusedSimpArgs false
def cutAt (c:List Int) (n:Nat) (i:Nat):Bool:=decide (1≤c.getD i 0∧c.getD i 0≤(n:Int) - 1∧(i=0∨c.getD (i - 1) 0<c.getD i 0))
theorem aBP (c:List Int) (n:Nat) {i:Nat} (h:i<c.length):cutAt c n i=true↔1≤c[i]∧c[i]≤(n:Int) - 1∧(i=0∨(c[i - 1]'(by omega))<c[i]):=by
 unfold cutAt
 rw[aZ h,aZ (show i - 1<c.length by omega),decide_eq_true_eq]
def lN (m:List dJ) (c:List Int):Bool:=bW m&&(List.range c.length).all (cutAt c m.length)
theorem wK (m:List dJ) (c:List Int):lN m c=true↔bW m=true∧∀ i,i<c.length→cutAt c m.length i=true:=by
 unfold lN;simp only[Bool.and_eq_true,List.all_eq_true,List.mem_range]
theorem bJ9 {m:List dJ} {c:List Int} {i:Nat} (hi:i<c.length) (h:¬ cutAt c m.length i=true):false=lN m c:=by
 refine (Bool.eq_false_iff.2 fun h'=>?_).symm
 rw[wK] at h'
 exact h (h'.2 i hi)
def bV (m:List dJ) (c:List Int):Int:=if lN m c=true then (c.length:Int)+1 else 0
def tY (c:bZ):Prop:=mU c.1∧List.length c.2.1≤1000000000∧List.length c.2.2.2.1≤1000000000∧List.length c.2.2.2.2.1≤1000000000∧List.length c.2.2.2.2.2≤1000000000
theorem aO1 (ds st s micro:Int) (r:Bool):(aCK ds st s micro r).length≤60:=by
 unfold aCK
 split
 ·rename_i h
  have h1:=aGZ st s micro (sV ds st s micro) r micro.toNat
  have h2:=bGD (ds:=ds) h.2
  have h3:=(lG _ _ _).1 h.2
  rw[List.length_append,List.length_singleton]
  omega
 ·simp
noncomputable def gZ:Con:=⟨170,(.bNT aK aB),.bool,[.val ⟨true,aK,[]⟩,.val ⟨false,aB,[]⟩],[⟨false,.bool,[0]⟩],false,none,
 ((fun x=>mU x.1∧List.length x.2≤1000000000):(bD × bK)→Prop),
 ((fun x=>lN x.1 x.2):(bD × bK)→(Bool))⟩
def aCM:T:=.loop tI (.ci .i64 0) <|
 .bNU (.bNX 3 tI) (aO (.bNT aK aB) 1 (.Z 0)) <|
 .bNU (.cmp .lss .i64) (.bNV tI tI (.Z 1) (.Z 2)) <|
 .ite (.Z 3) (
  .bNU (.bNY 3 tI) (.bNV aB tI (aO (.bNT aK aB) 1 (.Z 0)) (.Z 1)) <|
  .bNU (.bNX 78 bG) (.p1 aK aB (.Z 0)) <|
  .bNU (.ar .sub .i64) (.bNV tI tI (.Z 5) (.ci .i64 1)) <|
  .call 0 (bB (.bNT tI aE) [(.Z 4),(.ci .i64 1),(.Z 6)]) <|
  .bNU .not (.Z 7) <|
  .ite (.Z 8) (
   .ret (.cb false)) (
   .bNU (.cmp .gtr .i64) (.bNV tI tI (.Z 1) (.ci .i64 0)) <|
   .ite (.Z 9) (
    .bNU (.ar .sub .i64) (.bNV tI tI (.Z 1) (.ci .i64 1)) <|
    .bNU (.bNY 3 tI) (.bNV aB tI (aO (.bNT aK aB) 1 (.Z 0)) (.Z 1)) <|
    .bNU (.bNY 3 tI) (.bNV aB tI (aO (.bNT aK aB) 1 (.Z 0)) (.Z 10)) <|
    .bNU (.cmp .leq .i64) (.bNV tI tI (.Z 11) (.Z 12)) <|
    .ite (.Z 13) (
     .ret (.cb false)) (
     .bNU (.ar .add .i64) (.bNV tI tI (.Z 1) (.ci .i64 1)) <|
     .bNW 0 (.Z 14))) (
    .bNU (.ar .add .i64) (.bNV tI tI (.Z 1) (.ci .i64 1)) <|
    .bNW 0 (.Z 10)))) (
  .call 1 (.p1 aK aB (.Z 0)) <|
  .ret (.Z 4))
theorem aY7:bM Tryz.prog [bI,bY] gZ false 3000 ⟨[(2993,1001,[.dr 0,.tm 5 0])],[]⟩ = .ok aCM:=by kernel_rfl
theorem aZQ (x:bD × bK) (hx:okD (.bNT aK aB) x) (hp:(fun x=>mU x.1∧List.length x.2≤1000000000) x):aCM.wp [bI,bY] [⟨(.bNT aK aB),x⟩] [] (fun v=>v.as .bool=(fun x=>lN x.1 x.2) x):=by
 obtain ⟨m,c⟩:=x
 obtain ⟨⟨hm1,hm2⟩,hc⟩:mU m∧List.length c≤1000000000:=hp
 delta aCM bI bY;refine dB ?_
 refine ⟨fun s=>∃ k:Nat,k≤c.length∧s=(k:Int)∧∀ i,i<k→cutAt c m.length i=true,fun s=>c.length - (s:Int).toNat,⟨0,by omega,rfl,by omega⟩,fun s _ hI=>?_⟩
 obtain ⟨k,hk,rfl,ha⟩:=hI
 refine dT ?_
 intro _
 constructor
 ·intro hlt
  have hk':k<c.length:=by omega
  rw[aZ hk',aZ (show k - 1<c.length by omega)]
  have e:=aBP c m.length hk'
  (repeat' first|intro _|(with_reducible apply And.intro))
  all_goals first|omega|(refine bJ9 hk' fun h=>?_;rw[e] at h;omega)|skip
  all_goals refine ⟨k+1,by omega,rfl,fun i hi=>?_⟩
  all_goals rcases Nat.lt_or_eq_of_le (Nat.le_of_lt_succ hi) with h|rfl
  all_goals first|exact ha i h|exact e.2 ⟨by omega,by omega,by omega⟩
 ·intro hge
  have:k=c.length:=by omega
  subst this
  rw[Bool.eq_iff_iff,wK]
  exact ⟨fun h=>⟨h,ha⟩,fun h=>h.1⟩
theorem aDV:Con.Holds Tryz.prog gZ:=aS aW (aH eY (aH jI aR)) aY7 aZQ
noncomputable def nG:Con:=⟨145,aQ,tI,[.val ⟨true,aQ,[]⟩],[⟨false,tI,[0]⟩],false,none,
 ((fun x=>mU x.1∧List.length x.2.1≤1000000000):(bZ)→Prop),
 ((fun x=>bV x.1 x.2.1):(bZ)→(Int))⟩
def xA:T:=.call 0 (.bNV aK aB (.p1 aK (.bNT aB (.bNT tI (.bNT cQ aM))) (.Z 0)) (aJ aQ 1 (.Z 0))) <|
 .bNU .not (.Z 1) <|
 .ite (.Z 2) (
  .ret (.ci .i64 0)) (
  .bNU (.bNX 3 tI) (aJ aQ 1 (.Z 0)) <|
  .bNU (.ar .add .i64) (.bNV tI tI (.Z 3) (.ci .i64 1)) <|
  .ret (.Z 4))
theorem aPL:bM Tryz.prog [gZ] nG false 3000 ⟨[],[]⟩ = .ok xA:=by kernel_rfl
theorem aQE (x:bZ) (hx:okD aQ x) (hp:(fun x=>mU x.1∧List.length x.2.1≤1000000000) x):xA.wp [gZ] [⟨aQ,x⟩] [] (fun v=>v.as tI=(fun x=>bV x.1 x.2.1) x):=by
 obtain ⟨m,c,r⟩:=x
 have hq:mU m∧List.length c≤1000000000:=hp
 have hc:=hq.2
 delta xA gZ;refine dB ?_
 refine ⟨hq,fun hb=>?_,fun hb _=>?_⟩
 all_goals simp only[nS] at hb
 ·unfold bV;rw[if_neg (by rw[hb];simp)]
 ·refine ⟨by omega,fun _=>?_⟩
  unfold bV;rw[if_pos hb]
theorem aRF:Con.Holds Tryz.prog nG:=aS aW (aH aDV aR) aPL aQE
end Go.Proofs.YtdeobhdbmehpgaaGreat
