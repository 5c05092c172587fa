/- Fix2: lemmas. No conditions. -/
import Derived.Test.YtdeobhdbmehpgaaGreatCe
namespace Go.Proofs.YtdeobhdbmehpgaaGreat
noncomputable section
set_option maxRecDepth 100000
open Go.ChangeShapes Go.WideShapes Go.ChangeAt Go.RowKit Go.Deep
set_option linter.unusedVariables false
set_option linter.unusedSimpArgs false
theorem jQ (x:Int):-2147483647≤eJ x∧eJ x≤2147483647:=by unfold eJ;omega
def iP (x:Int):Bool:=decide (eJ x=x)
theorem zI (x:Int):iP x=true↔-2147483647≤x∧x≤2147483647:=by unfold iP eJ;rw[decide_eq_true_eq];omega
theorem qB {α:Type} (F:α→Bool) (l:List α) {k:Nat} (h:k<l.length):(l.take (k+1)).all F=((l.take k).all F&&F l[k]):=by
 rw[List.take_succ_eq_append_getElem h,List.all_append];simp
theorem wT {α:Type} {F:α→Bool} {l:List α} {k:Nat} (h:k<l.length) (hb:F l[k]=false):l.all F=false:=by
 rw[List.all_eq_false]
 exact ⟨l[k],List.getElem_mem h,by simp[hb]⟩
def eK:Con:=⟨153,tI,tI,[.val ⟨false,tI,[]⟩],[⟨false,tI,[0]⟩],false,none,
 ((fun _=>True):(Int)→Prop),
 ((fun x=>eJ x):(Int)→(Int))⟩
def aG0:T :=
 .bNU (.mx .i64) (.bNV tI tI (.Z 0) (.ci .i64 (-2147483647))) <|
 .bNU (.mn .i64) (.bNV tI tI (.Z 1) (.ci .i64 2147483647)) <|
 .ret (.Z 2)
theorem bE5:bM Tryz.prog [] eK false 3000 ⟨[],[]⟩ = .ok aG0:=by kernel_rfl
theorem bEY (x:Int) (hx:okD tI x) (hp:(fun _=>True) x):aG0.wp [] [⟨tI,x⟩] [] (fun v=>v.as tI=(fun x=>eJ x) x):=by
 delta aG0;refine dB ?_
 exact fun _ _=>rfl
theorem wF:Con.Holds Tryz.prog eK:=aS aW aR bE5 bEY
def iW:Con:=⟨166,tI,.bool,[.val ⟨false,tI,[]⟩],[⟨false,.bool,[0]⟩],false,none,
 ((fun _=>True):(Int)→Prop),
 ((fun x=>iP x):(Int)→(Bool))⟩
def aHG:T :=
 .bNU (.cmp .geq .i64) (.bNV tI tI (.Z 0) (.ci .i64 (-2147483647))) <|
 .ite (.Z 1) (
  .bNU (.cmp .leq .i64) (.bNV tI tI (.Z 0) (.ci .i64 2147483647)) <|
  .ret (.Z 2)) (
  .ret (.cb false))
theorem bD5:bM Tryz.prog [] iW false 3000 ⟨[],[]⟩ = .ok aHG:=by kernel_rfl
theorem bEE (x:Int) (hx:okD tI x) (hp:(fun _=>True) x):aHG.wp [] [⟨tI,x⟩] [] (fun v=>v.as .bool=(fun x=>iP x) x):=by
 delta aHG;refine dB ?_
 show (decide (x ≥ -2147483647)=true→decide (x≤2147483647)=decide (eJ x=x))∧(decide (x ≥ -2147483647)=false→false=decide (eJ x=x))
 unfold eJ
 constructor
 ·intro h;simp at h ⊢;omega
 ·intro h;simp at h ⊢;omega
theorem aFW:Con.Holds Tryz.prog iW:=aS aW aR bD5 bEE
def gW:Con:=⟨152,tI,(.bNT tI .bool),[.val ⟨false,tI,[]⟩],[⟨false,tI,[0]⟩,⟨false,.bool,[0]⟩],false,none,
 ((fun _=>True):(Int)→Prop),
 ((fun x=>aKX x):(Int)→(Int × Bool))⟩
def aCO:T:=.call 0 (.Z 0) <|.call 1 (.Z 0) <|
 .bNU .not (.Z 2) <|
 .ret (.bNV tI .bool (.Z 1) (.Z 3))
theorem aZG:bM Tryz.prog [eK,iW] gW false 3000 ⟨[],[]⟩ = .ok aCO:=by kernel_rfl
theorem aX4 (x:Int) (hx:okD tI x) (hp:(fun _=>True) x):aCO.wp [eK,iW] [⟨tI,x⟩] [] (fun v=>v.as (.bNT tI .bool)=(fun x=>aKX x) x):=by
 delta aCO eK iW;refine dB ?_
 intro _
 show (eJ x,!decide (eJ x=x))=aKX x
 unfold aKX
 simp[eq_comm]
theorem aDL:Con.Holds Tryz.prog gW:=aS aW (aH wF (aH aFW aR)) aZG aX4
def fB:Con:=⟨117,aE,(.bNT tI .bool),[.val ⟨false,tI,[]⟩,.val ⟨false,tI,[]⟩],[⟨false,tI,[0]⟩,⟨false,.bool,[0]⟩],false,none,
 ((fun _=>True):(Int × Int)→Prop),
 ((fun x=>dK x.1 x.2):(Int × Int)→(Int × Bool))⟩
def aDN:T:=.call 0 (.p1 tI tI (.Z 0)) <|.call 0 (aO aE 1 (.Z 0)) <|
 .bNU (.ar .add .i64) (.bNV tI tI (.Z 1) (.Z 2)) <|
 .call 1 (.Z 3) <|
 .ret (.Z 4)
theorem bAH:bM Tryz.prog [eK,gW] fB false 3000 ⟨[],[]⟩ = .ok aDN:=by kernel_rfl
theorem aX3 (x:Int × Int) (hx:okD aE x) (hp:(fun _=>True) x):aDN.wp [eK,gW] [⟨aE,x⟩] [] (fun v=>v.as (.bNT tI .bool)=(fun x=>dK x.1 x.2) x):=by
 delta aDN eK gW;refine dB ?_
 intro _ _
 have h1:=jQ x.1
 have h2:=jQ x.2
 exact ⟨by omega,fun _ _=>rfl⟩
theorem yB:Con.Holds Tryz.prog fB:=aS aW (aH wF (aH aDL aR)) bAH aX3
def bN:Con:=⟨109,aB,aB,[.val ⟨false,aB,[]⟩],[⟨false,aB,[2]⟩],false,none,
 ((fun x=>List.length x≤1000000000):(List Int)→Prop),
 ((fun x=>x):(List Int)→(List Int))⟩
def xS:T :=
 .bNU (.bO0 3 tI 8) (.bNV aB aB (.nl 3 tI) (.Z 0)) <|
 .ret (.Z 1)
theorem aPV:bM Tryz.prog [] bN false 3000 ⟨[],[]⟩ = .ok xS:=by kernel_rfl
theorem aR4 (x:List Int) (hx:okD aB x) (hp:(fun x=>List.length x≤1000000000) x):xS.wp [] [⟨aB,x⟩] [] (fun v=>v.as aB=(fun x=>x) x):=by
 have hp:List.length x≤1000000000:=hp
 delta xS;refine dB ?_
 simp only[List.length_nil,Nat.zero_add,List.nil_append]
 exact ⟨by unfold maxLen;omega,fun _=>by first|rfl|trivial⟩
theorem gK:Con.Holds Tryz.prog bN:=aS aW aR aPV aR4
def eT:Con:=⟨111,aI,aI,[.val ⟨false,aI,[]⟩],[⟨false,aI,[2]⟩],false,none,
 ((fun x=>List.length x≤1000000000∧∀ y∈x,List.length y≤1000000000):(cV)→Prop),
 ((fun x=>x):(cV)→(cV))⟩
def xW:T :=
 .bNU (.bNX 112 aB) (.Z 0) <|
 .loop aD (.bNV tI aI (.ci .i64 0) (.nl 112 aB)) <|
  .bNU (.cmp .lss .i64) (.bNV tI tI (.p1 tI aI (.Z 2)) (.Z 1)) <|
  .ite (.Z 3) (
   .bNU (.bNY 112 aB) (.bNV aI tI (.Z 0) (.p1 tI aI (.Z 2))) <|
   .call 0 (.Z 4) <|
   .bNU (.lit 112 aB 1) (.Z 5) <|
   .bNU (.bO0 112 aB 24) (.bNV aI aI (aO aD 1 (.Z 2)) (.Z 6)) <|
   .bNU (.ar .add .i64) (.bNV tI tI (.p1 tI aI (.Z 2)) (.ci .i64 1)) <|
   .bNW 0 (.bNV tI aI (.Z 8) (.Z 7))) (
   .ret (aO aD 1 (.Z 2)))
theorem aPQ:bM Tryz.prog [bN] eT false 3000 ⟨[(2991,1002,[.dr 6,.dr 0,.tm 9 0,.on 3,.sl 1])],[(2981,3005,[16],[])]⟩ = .ok xW:=by kernel_rfl
theorem aRS (x:cV) (hx:okD aI x) (hp:(fun x=>List.length x≤1000000000∧∀ y∈x,List.length y≤1000000000) x):xW.wp [bN] [⟨aI,x⟩] [] (fun v=>v.as aI=(fun x=>x) x):=by
 obtain ⟨hp1,hp2⟩:List.length x≤1000000000∧∀ y∈x,List.length y≤1000000000:=hp
 delta xW bN;refine dB ?_
 intro _
 refine ⟨fun s=>∃ k:Nat,k≤x.length∧s=((k:Int),x.take k),fun s=>x.length - (s.1:Int).toNat,⟨0,Nat.zero_le _,by simp⟩,fun s hs hI=>?_⟩
 obtain ⟨k,hk,rfl⟩:=hI
 dsimp only
 refine dT ?_
 constructor
 ·intro hlt
  have hk':k<x.length:=by omega
  rw[aZ hk']
  have hm:=hp2 _ (List.getElem_mem hk')
  have hl:(x.take k).length=k:=List.length_take_of_le hk
  (repeat' first|intro _|(with_reducible apply And.intro))
  all_goals first|omega|(unfold maxLen;omega)|(exact ⟨k+1,by omega,by rw[iI hk'];rfl⟩)
 ·intro hge
  have:k=x.length:=by omega
  subst this
  show x.take x.length=x
  simp
theorem xC:Con.Holds Tryz.prog eT:=aS aW (aH gK aR) aPQ aRS
end
end Go.Proofs.YtdeobhdbmehpgaaGreat
