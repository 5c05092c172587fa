/- Fix2: lemmas. No conditions. -/
import Derived.Test.YtiihghfoeinbbaaGreatCe
namespace Go.Proofs.YtiihghfoeinbbaaGreat
noncomputable section
set_option maxRecDepth 100000
open Go.ChangeShapes Go.WideShapes Go.ChangeAt Go.RowKit Go.Deep
set_option linter.unusedVariables false
set_option linter.unusedSimpArgs false
theorem kD (x:Int):-2147483647≤eI x∧eI x≤2147483647:=by unfold eI;omega
def nU (x:Int):Bool:=decide (eI x=x)
theorem bFY (x:Int):nU x=true↔-2147483647≤x∧x≤2147483647:=by unfold nU eI;rw[decide_eq_true_eq];omega
theorem mL {α:Type} (F:α→Bool) (l:List α) {k:Nat} (h:k<l.length):(l.take (k+1)).all F=((l.take k).all F&&F l[k]):=by
 rw[List.take_succ_eq_append_getElem h,List.all_append];simp
theorem uP {α:Type} {F:α→Bool} {l:List α} {k:Nat} (h:k<l.length) (hb:F l[k]=false):l.all F=false:=by
 rw[List.all_eq_false]
 exact ⟨l[k],List.getElem_mem h,by simp[hb]⟩
def eM:Con:=⟨218,tI,tI,[.val ⟨false,tI,[]⟩],[⟨false,tI,[0]⟩],false,none,
 ((fun _=>True):(Int)→Prop),
 ((fun x=>eI x):(Int)→(Int))⟩
def aFX:T :=
 .bMD (.mx .i64) (.bME tI tI (.Z 0) (.ci .i64 (-2147483647))) <|
 .bMD (.mn .i64) (.bME tI tI (.Z 1) (.ci .i64 2147483647)) <|
 .ret (.Z 2)
theorem bD8:bL Tryz.prog [] eM false 3000 ⟨[],[]⟩ = .ok aFX:=by kernel_rfl
theorem bCM (x:Int) (hx:okD tI x) (hp:(fun _=>True) x):aFX.wp [] [⟨tI,x⟩] [] (fun v=>v.as tI=(fun x=>eI x) x):=by
 delta aFX;refine dD ?_
 exact fun _ _=>rfl
theorem vX:Con.Holds Tryz.prog eM:=aR aW aS bD8 bCM
def jE:Con:=⟨127,tI,.bool,[.val ⟨false,tI,[]⟩],[⟨false,.bool,[0]⟩],false,none,
 ((fun _=>True):(Int)→Prop),
 ((fun x=>nU x):(Int)→(Bool))⟩
def aGX:T :=
 .bMD (.cmp .geq .i64) (.bME tI tI (.Z 0) (.ci .i64 (-2147483647))) <|
 .ite (.Z 1) (
  .bMD (.cmp .leq .i64) (.bME tI tI (.Z 0) (.ci .i64 2147483647)) <|
  .ret (.Z 2)) (
  .ret (.cb false))
theorem bDC:bL Tryz.prog [] jE false 3000 ⟨[],[]⟩ = .ok aGX:=by kernel_rfl
theorem bD0 (x:Int) (hx:okD tI x) (hp:(fun _=>True) x):aGX.wp [] [⟨tI,x⟩] [] (fun v=>v.as .bool=(fun x=>nU x) x):=by
 delta aGX;refine dD ?_
 show (decide (x ≥ -2147483647)=true→decide (x≤2147483647)=decide (eI x=x))∧(decide (x ≥ -2147483647)=false→false=decide (eI x=x))
 unfold eI
 constructor
 ·intro h;simp at h ⊢;omega
 ·intro h;simp at h ⊢;omega
theorem aGE:Con.Holds Tryz.prog jE:=aR aW aS bDC bD0
def iH:Con:=⟨217,tI,(.bMC tI .bool),[.val ⟨false,tI,[]⟩],[⟨false,tI,[0]⟩,⟨false,.bool,[0]⟩],false,none,
 ((fun _=>True):(Int)→Prop),
 ((fun x=>aLE x):(Int)→(Int × Bool))⟩
def aE8:T:=.call 0 (.Z 0) <|.call 1 (.Z 0) <|
 .bMD .not (.Z 2) <|
 .ret (.bME tI .bool (.Z 1) (.Z 3))
theorem aYW:bL Tryz.prog [eM,jE] iH false 3000 ⟨[],[]⟩ = .ok aE8:=by kernel_rfl
theorem aZW (x:Int) (hx:okD tI x) (hp:(fun _=>True) x):aE8.wp [eM,jE] [⟨tI,x⟩] [] (fun v=>v.as (.bMC tI .bool)=(fun x=>aLE x) x):=by
 delta aE8 eM jE;refine dD ?_
 intro _
 show (eI x,!decide (eI x=x))=aLE x
 unfold aLE
 simp[eq_comm]
theorem aDK:Con.Holds Tryz.prog iH:=aR aW (aG vX (aG aGE aS)) aYW aZW
def fB:Con:=⟨212,aO,(.bMC tI .bool),[.val ⟨false,tI,[]⟩,.val ⟨false,tI,[]⟩],[⟨false,tI,[0]⟩,⟨false,.bool,[0]⟩],false,none,
 ((fun _=>True):(Int × Int)→Prop),
 ((fun x=>dI x.1 x.2):(Int × Int)→(Int × Bool))⟩
def aCS:T:=.call 0 (.p1 tI tI (.Z 0)) <|.call 0 (aQ aO 1 (.Z 0)) <|
 .bMD (.ar .add .i64) (.bME tI tI (.Z 1) (.Z 2)) <|
 .call 1 (.Z 3) <|
 .ret (.Z 4)
theorem aZ9:bL Tryz.prog [eM,iH] fB false 3000 ⟨[],[]⟩ = .ok aCS:=by kernel_rfl
theorem aYQ (x:Int × Int) (hx:okD aO x) (hp:(fun _=>True) x):aCS.wp [eM,iH] [⟨aO,x⟩] [] (fun v=>v.as (.bMC tI .bool)=(fun x=>dI x.1 x.2) x):=by
 delta aCS eM iH;refine dD ?_
 intro _ _
 have h1:=kD x.1
 have h2:=kD x.2
 exact ⟨by omega,fun _ _=>rfl⟩
theorem xR:Con.Holds Tryz.prog fB:=aR aW (aG vX (aG aDK aS)) aZ9 aYQ
def bP:Con:=⟨207,aB,aB,[.val ⟨false,aB,[]⟩],[⟨false,aB,[2]⟩],false,none,
 ((fun x=>List.length x≤1000000000):(List Int)→Prop),
 ((fun x=>x):(List Int)→(List Int))⟩
def xZ:T :=
 .bMD (.bMJ 3 tI 8) (.bME aB aB (.nl 3 tI) (.Z 0)) <|
 .ret (.Z 1)
theorem aQF:bL Tryz.prog [] bP false 3000 ⟨[],[]⟩ = .ok xZ:=by kernel_rfl
theorem aOV (x:List Int) (hx:okD aB x) (hp:(fun x=>List.length x≤1000000000) x):xZ.wp [] [⟨aB,x⟩] [] (fun v=>v.as aB=(fun x=>x) x):=by
 have hp:List.length x≤1000000000:=hp
 delta xZ;refine dD ?_
 simp only[List.length_nil,Nat.zero_add,List.nil_append]
 exact ⟨by unfold maxLen;omega,fun _=>by first|rfl|trivial⟩
theorem gP:Con.Holds Tryz.prog bP:=aR aW aS aQF aOV
def eW:Con:=⟨244,aH,aH,[.val ⟨false,aH,[]⟩],[⟨false,aH,[2]⟩],false,none,
 ((fun x=>List.length x≤1000000000∧∀ y∈x,List.length y≤1000000000):(cV)→Prop),
 ((fun x=>x):(cV)→(cV))⟩
def yC:T :=
 .bMD (.bMG 156 aB) (.Z 0) <|
 .loop aD (.bME tI aH (.ci .i64 0) (.nl 156 aB)) <|
  .bMD (.cmp .lss .i64) (.bME tI tI (.p1 tI aH (.Z 2)) (.Z 1)) <|
  .ite (.Z 3) (
   .bMD (.bMH 156 aB) (.bME aH tI (.Z 0) (.p1 tI aH (.Z 2))) <|
   .call 0 (.Z 4) <|
   .bMD (.lit 156 aB 1) (.Z 5) <|
   .bMD (.bMJ 156 aB 24) (.bME aH aH (aQ aD 1 (.Z 2)) (.Z 6)) <|
   .bMD (.ar .add .i64) (.bME tI tI (.p1 tI aH (.Z 2)) (.ci .i64 1)) <|
   .bMF 0 (.bME tI aH (.Z 8) (.Z 7))) (
   .ret (aQ aD 1 (.Z 2)))
theorem aQ1:bL Tryz.prog [bP] eW false 3000 ⟨[(2991,1002,[.dr 6,.dr 0,.tm 9 0,.on 3,.sl 1])],[(2981,3005,[16],[])]⟩ = .ok yC:=by kernel_rfl
theorem aPF (x:cV) (hx:okD aH x) (hp:(fun x=>List.length x≤1000000000∧∀ y∈x,List.length y≤1000000000) x):yC.wp [bP] [⟨aH,x⟩] [] (fun v=>v.as aH=(fun x=>x) x):=by
 obtain ⟨hp1,hp2⟩:List.length x≤1000000000∧∀ y∈x,List.length y≤1000000000:=hp
 delta yC bP;refine dD ?_
 intro _
 refine ⟨fun s=>∃ k:Nat,k≤x.length∧s=((k:Int),x.take k),fun s=>x.length - (s.1:Int).toNat,⟨0,Nat.zero_le _,by simp⟩,fun s hs hI=>?_⟩
 obtain ⟨k,hk,rfl⟩:=hI
 dsimp only
 refine eE ?_
 constructor
 ·intro hlt
  have hk':k<x.length:=by omega
  rw[aZ hk']
  have hm:=hp2 _ (List.getElem_mem hk')
  have hl:(x.take k).length=k:=List.length_take_of_le hk
  (repeat' first|intro _|(with_reducible apply And.intro))
  all_goals first|omega|(unfold maxLen;omega)|(exact ⟨k+1,by omega,by rw[iU hk'];rfl⟩)
 ·intro hge
  have:k=x.length:=by omega
  subst this
  show x.take x.length=x
  simp
theorem xM:Con.Holds Tryz.prog eW:=aR aW (aG gP aS) aQ1 aPF
end
end Go.Proofs.YtiihghfoeinbbaaGreat
