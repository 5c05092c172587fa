/- Fix2: lemmas. No conditions. -/
import Derived.Test.YtpleleanibgniaaGreatCe
namespace Go.Proofs.YtpleleanibgniaaGreat
noncomputable section
set_option maxRecDepth 100000
open Go.ChangeShapes Go.WideShapes Go.ChangeAt Go.RowKit Go.Deep
set_option linter.unusedVariables false
set_option linter.unusedSimpArgs false
theorem sX (x:Int):-2147483647≤gJ x∧gJ x≤2147483647:=by unfold gJ;omega
def iI (x:Int):Bool:=decide (gJ x=x)
theorem vV (x:Int):iI x=true↔-2147483647≤x∧x≤2147483647:=by unfold iI gJ;rw[decide_eq_true_eq];omega
theorem tE {α:Type} (F:α→Bool) (l:List α) {k:Nat} (h:k<l.length):(l.take (k+1)).all F=((l.take k).all F&&F l[k]):=by
 rw[List.take_succ_eq_append_getElem h,List.all_append];simp
theorem zI {α:Type} {F:α→Bool} {l:List α} {k:Nat} (h:k<l.length) (hb:F l[k]=false):l.all F=false:=by
 rw[List.all_eq_false]
 exact ⟨l[k],List.getElem_mem h,by simp[hb]⟩
def dX:Con:=⟨102,tI,tI,[.val ⟨false,tI,[]⟩],[⟨false,tI,[0]⟩],false,none,
 ((fun _=>True):(Int)→Prop),
 ((fun x=>gJ x):(Int)→(Int))⟩
def aE8:T :=
 .bJ3 (.mx .i64) (.bJ4 tI tI (.Z 0) (.ci .i64 (-2147483647))) <|
 .bJ3 (.mn .i64) (.bJ4 tI tI (.Z 1) (.ci .i64 2147483647)) <|
 .ret (.Z 2)
theorem aZ7:bV Tryz.prog [] dX false 3000 ⟨[],[]⟩ = .ok aE8:=by kernel_rfl
theorem aXJ (x:Int) (hx:okD tI x) (hp:(fun _=>True) x):aE8.wp [] [⟨tI,x⟩] [] (fun v=>v.as tI=(fun x=>gJ x) x):=by
 delta aE8;refine eE ?_
 exact fun _ _=>rfl
theorem tC:Con.Holds Tryz.prog dX:=aV aX aT aZ7 aXJ
def gW:Con:=⟨107,tI,.bool,[.val ⟨false,tI,[]⟩],[⟨false,.bool,[0]⟩],false,none,
 ((fun _=>True):(Int)→Prop),
 ((fun x=>iI x):(Int)→(Bool))⟩
def aDQ:T :=
 .bJ3 (.cmp .geq .i64) (.bJ4 tI tI (.Z 0) (.ci .i64 (-2147483647))) <|
 .ite (.Z 1) (
  .bJ3 (.cmp .leq .i64) (.bJ4 tI tI (.Z 0) (.ci .i64 2147483647)) <|
  .ret (.Z 2)) (
  .ret (.cb false))
theorem aXM:bV Tryz.prog [] gW false 3000 ⟨[],[]⟩ = .ok aDQ:=by kernel_rfl
theorem aXU (x:Int) (hx:okD tI x) (hp:(fun _=>True) x):aDQ.wp [] [⟨tI,x⟩] [] (fun v=>v.as .bool=(fun x=>iI x) x):=by
 delta aDQ;refine eE ?_
 show (decide (x ≥ -2147483647)=true→decide (x≤2147483647)=decide (gJ x=x))∧(decide (x ≥ -2147483647)=false→false=decide (gJ x=x))
 unfold gJ
 constructor
 ·intro h;simp at h ⊢;omega
 ·intro h;simp at h ⊢;omega
theorem aDX:Con.Holds Tryz.prog gW:=aV aX aT aXM aXU
def fW:Con:=⟨101,tI,(.bJ2 tI .bool),[.val ⟨false,tI,[]⟩],[⟨false,tI,[0]⟩,⟨false,.bool,[0]⟩],false,none,
 ((fun _=>True):(Int)→Prop),
 ((fun x=>aSH x):(Int)→(Int × Bool))⟩
def aBH:T:=.call 0 (.Z 0) <|.call 1 (.Z 0) <|
 .bJ3 .not (.Z 2) <|
 .ret (.bJ4 tI .bool (.Z 1) (.Z 3))
theorem aUG:bV Tryz.prog [dX,gW] fW false 3000 ⟨[],[]⟩ = .ok aBH:=by kernel_rfl
theorem aTR (x:Int) (hx:okD tI x) (hp:(fun _=>True) x):aBH.wp [dX,gW] [⟨tI,x⟩] [] (fun v=>v.as (.bJ2 tI .bool)=(fun x=>aSH x) x):=by
 delta aBH dX gW;refine eE ?_
 intro _
 show (gJ x,!decide (gJ x=x))=aSH x
 unfold aSH
 simp[eq_comm]
theorem aAD:Con.Holds Tryz.prog fW:=aV aX (aG tC (aG aDX aT)) aUG aTR
def eC:Con:=⟨84,aC,(.bJ2 tI .bool),[.val ⟨false,tI,[]⟩,.val ⟨false,tI,[]⟩],[⟨false,tI,[0]⟩,⟨false,.bool,[0]⟩],false,none,
 ((fun _=>True):(Int × Int)→Prop),
 ((fun x=>eI x.1 x.2):(Int × Int)→(Int × Bool))⟩
def aB4:T:=.call 0 (.p1 tI tI (.Z 0)) <|.call 0 (aR aC 1 (.Z 0)) <|
 .bJ3 (.ar .add .i64) (.bJ4 tI tI (.Z 1) (.Z 2)) <|
 .call 1 (.Z 3) <|
 .ret (.Z 4)
theorem aT3:bV Tryz.prog [dX,fW] eC false 3000 ⟨[],[]⟩ = .ok aB4:=by kernel_rfl
theorem aTP (x:Int × Int) (hx:okD aC x) (hp:(fun _=>True) x):aB4.wp [dX,fW] [⟨aC,x⟩] [] (fun v=>v.as (.bJ2 tI .bool)=(fun x=>eI x.1 x.2) x):=by
 delta aB4 dX fW;refine eE ?_
 intro _ _
 have h1:=sX x.1
 have h2:=sX x.2
 exact ⟨by omega,fun _ _=>rfl⟩
theorem uY:Con.Holds Tryz.prog eC:=aV aX (aG tC (aG aAD aT)) aT3 aTP
def bM:Con:=⟨82,aB,aB,[.val ⟨false,aB,[]⟩],[⟨false,aB,[2]⟩],false,none,
 ((fun x=>List.length x≤1000000000):(List Int)→Prop),
 ((fun x=>x):(List Int)→(List Int))⟩
def tZ:T :=
 .bJ3 (.bJ9 3 tI 8) (.bJ4 aB aB (.nl 3 tI) (.Z 0)) <|
 .ret (.Z 1)
theorem aNZ:bV Tryz.prog [] bM false 3000 ⟨[],[]⟩ = .ok tZ:=by kernel_rfl
theorem aO2 (x:List Int) (hx:okD aB x) (hp:(fun x=>List.length x≤1000000000) x):tZ.wp [] [⟨aB,x⟩] [] (fun v=>v.as aB=(fun x=>x) x):=by
 have hp:List.length x≤1000000000:=hp
 delta tZ;refine eE ?_
 simp only[List.length_nil,Nat.zero_add,List.nil_append]
 exact ⟨by unfold maxLen;omega,fun _=>by first|rfl|trivial⟩
theorem fM:Con.Holds Tryz.prog bM:=aV aX aT aNZ aO2
def eB:Con:=⟨81,aP,aP,[.val ⟨false,aP,[]⟩],[⟨false,aP,[2]⟩],false,none,
 ((fun x=>List.length x≤1000000000∧∀ y∈x,List.length y≤1000000000):(dT)→Prop),
 ((fun x=>x):(dT)→(dT))⟩
def uL:T :=
 .bJ3 (.bJ6 124 aB) (.Z 0) <|
 .loop aM (.bJ4 tI aP (.ci .i64 0) (.nl 124 aB)) <|
  .bJ3 (.cmp .lss .i64) (.bJ4 tI tI (.p1 tI aP (.Z 2)) (.Z 1)) <|
  .ite (.Z 3) (
   .bJ3 (.bJ7 124 aB) (.bJ4 aP tI (.Z 0) (.p1 tI aP (.Z 2))) <|
   .call 0 (.Z 4) <|
   .bJ3 (.lit 124 aB 1) (.Z 5) <|
   .bJ3 (.bJ9 124 aB 24) (.bJ4 aP aP (aR aM 1 (.Z 2)) (.Z 6)) <|
   .bJ3 (.ar .add .i64) (.bJ4 tI tI (.p1 tI aP (.Z 2)) (.ci .i64 1)) <|
   .bJ5 0 (.bJ4 tI aP (.Z 8) (.Z 7))) (
   .ret (aR aM 1 (.Z 2)))
theorem aNJ:bV Tryz.prog [bM] eB false 3000 ⟨[(2991,1002,[.dr 6,.dr 0,.tm 9 0,.on 3,.sl 1])],[(2981,3005,[16],[])]⟩ = .ok uL:=by kernel_rfl
theorem aMP (x:dT) (hx:okD aP x) (hp:(fun x=>List.length x≤1000000000∧∀ y∈x,List.length y≤1000000000) x):uL.wp [bM] [⟨aP,x⟩] [] (fun v=>v.as aP=(fun x=>x) x):=by
 obtain ⟨hp1,hp2⟩:List.length x≤1000000000∧∀ y∈x,List.length y≤1000000000:=hp
 delta uL bM;refine eE ?_
 intro _
 refine ⟨fun s=>∃ k:Nat,k≤x.length∧s=((k:Int),x.take k),fun s=>x.length - (s.1:Int).toNat,⟨0,Nat.zero_le _,by simp⟩,fun s hs hI=>?_⟩
 obtain ⟨k,hk,rfl⟩:=hI
 dsimp only
 refine eL ?_
 constructor
 ·intro hlt
  have hk':k<x.length:=by omega
  rw[bD hk']
  have hm:=hp2 _ (List.getElem_mem hk')
  have hl:(x.take k).length=k:=List.length_take_of_le hk
  (repeat' first|intro _|(with_reducible apply And.intro))
  all_goals first|omega|(unfold maxLen;omega)|(exact ⟨k+1,by omega,by rw[iQ hk'];rfl⟩)
 ·intro hge
  have:k=x.length:=by omega
  subst this
  show x.take x.length=x
  simp
theorem tS:Con.Holds Tryz.prog eB:=aV aX (aG fM aT) aNJ aMP
end
end Go.Proofs.YtpleleanibgniaaGreat
