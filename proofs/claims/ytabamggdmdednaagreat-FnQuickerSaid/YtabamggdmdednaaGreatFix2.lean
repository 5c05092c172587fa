/- Fix2: lemmas. No conditions. -/
import Derived.Test.YtabamggdmdednaaGreatCe
namespace Go.Proofs.YtabamggdmdednaaGreat
noncomputable section
set_option maxRecDepth 100000
open Go.ChangeShapes Go.WideShapes Go.ChangeAt Go.RowKit Go.Deep
set_option linter.unusedVariables false
set_option linter.unusedSimpArgs false
theorem kK (x:Int):-2147483647≤eI x∧eI x≤2147483647:=by unfold eI;omega
def jL (x:Int):Bool:=decide (eI x=x)
theorem aD0 (x:Int):jL x=true↔-2147483647≤x∧x≤2147483647:=by unfold jL eI;rw[decide_eq_true_eq];omega
theorem mT {α:Type} (F:α→Bool) (l:List α) {k:Nat} (h:k<l.length):(l.take (k+1)).all F=((l.take k).all F&&F l[k]):=by
 rw[List.take_succ_eq_append_getElem h,List.all_append];simp
theorem vE {α:Type} {F:α→Bool} {l:List α} {k:Nat} (h:k<l.length) (hb:F l[k]=false):l.all F=false:=by
 rw[List.all_eq_false]
 exact ⟨l[k],List.getElem_mem h,by simp[hb]⟩
def eM:Con:=⟨137,tI,tI,[.val ⟨false,tI,[]⟩],[⟨false,tI,[0]⟩],false,none,
 ((fun _=>True):(Int)→Prop),
 ((fun x=>eI x):(Int)→(Int))⟩
def aJF:T :=
 .bRX (.mx .i64) (.bRY tI tI (.Z 0) (.ci .i64 (-2147483647))) <|
 .bRX (.mn .i64) (.bRY tI tI (.Z 1) (.ci .i64 2147483647)) <|
 .ret (.Z 2)
theorem bGP:bI Tryz.prog [] eM false 3000 ⟨[],[]⟩ = .ok aJF:=by kernel_rfl
theorem bGU (x:Int) (hx:okD tI x) (hp:(fun _=>True) x):aJF.wp [] [⟨tI,x⟩] [] (fun v=>v.as tI=(fun x=>eI x) x):=by
 delta aJF;refine cW ?_
 exact fun _ _=>rfl
theorem xP:Con.Holds Tryz.prog eM:=aS aV aQ bGP bGU
def jZ:Con:=⟨130,tI,.bool,[.val ⟨false,tI,[]⟩],[⟨false,.bool,[0]⟩],false,none,
 ((fun _=>True):(Int)→Prop),
 ((fun x=>jL x):(Int)→(Bool))⟩
def aJ5:T :=
 .bRX (.cmp .geq .i64) (.bRY tI tI (.Z 0) (.ci .i64 (-2147483647))) <|
 .ite (.Z 1) (
  .bRX (.cmp .leq .i64) (.bRY tI tI (.Z 0) (.ci .i64 2147483647)) <|
  .ret (.Z 2)) (
  .ret (.cb false))
theorem bHF:bI Tryz.prog [] jZ false 3000 ⟨[],[]⟩ = .ok aJ5:=by kernel_rfl
theorem bJ6 (x:Int) (hx:okD tI x) (hp:(fun _=>True) x):aJ5.wp [] [⟨tI,x⟩] [] (fun v=>v.as .bool=(fun x=>jL x) x):=by
 delta aJ5;refine cW ?_
 show (decide (x ≥ -2147483647)=true→decide (x≤2147483647)=decide (eI x=x))∧(decide (x ≥ -2147483647)=false→false=decide (eI x=x))
 unfold eI
 constructor
 ·intro h;simp at h ⊢;omega
 ·intro h;simp at h ⊢;omega
theorem aIW:Con.Holds Tryz.prog jZ:=aS aV aQ bHF bJ6
def iG:Con:=⟨136,tI,(.bRW tI .bool),[.val ⟨false,tI,[]⟩],[⟨false,tI,[0]⟩,⟨false,.bool,[0]⟩],false,none,
 ((fun _=>True):(Int)→Prop),
 ((fun x=>aOF x):(Int)→(Int × Bool))⟩
def aGO:T:=.call 0 (.Z 0) <|.call 1 (.Z 0) <|
 .bRX .not (.Z 2) <|
 .ret (.bRY tI .bool (.Z 1) (.Z 3))
theorem bE4:bI Tryz.prog [eM,jZ] iG false 3000 ⟨[],[]⟩ = .ok aGO:=by kernel_rfl
theorem bBT (x:Int) (hx:okD tI x) (hp:(fun _=>True) x):aGO.wp [eM,jZ] [⟨tI,x⟩] [] (fun v=>v.as (.bRW tI .bool)=(fun x=>aOF x) x):=by
 delta aGO eM jZ;refine cW ?_
 intro _
 show (eI x,!decide (eI x=x))=aOF x
 unfold aOF
 simp[eq_comm]
theorem aFY:Con.Holds Tryz.prog iG:=aS aV (aI xP (aI aIW aQ)) bE4 bBT
def eT:Con:=⟨106,aD,(.bRW tI .bool),[.val ⟨false,tI,[]⟩,.val ⟨false,tI,[]⟩],[⟨false,tI,[0]⟩,⟨false,.bool,[0]⟩],false,none,
 ((fun _=>True):(Int × Int)→Prop),
 ((fun x=>dP x.1 x.2):(Int × Int)→(Int × Bool))⟩
def aFO:T:=.call 0 (.p1 tI tI (.Z 0)) <|.call 0 (aP aD 1 (.Z 0)) <|
 .bRX (.ar .add .i64) (.bRY tI tI (.Z 1) (.Z 2)) <|
 .call 1 (.Z 3) <|
 .ret (.Z 4)
theorem bAG:bI Tryz.prog [eM,iG] eT false 3000 ⟨[],[]⟩ = .ok aFO:=by kernel_rfl
theorem bBG (x:Int × Int) (hx:okD aD x) (hp:(fun _=>True) x):aFO.wp [eM,iG] [⟨aD,x⟩] [] (fun v=>v.as (.bRW tI .bool)=(fun x=>dP x.1 x.2) x):=by
 delta aFO eM iG;refine cW ?_
 intro _ _
 have h1:=kK x.1
 have h2:=kK x.2
 exact ⟨by omega,fun _ _=>rfl⟩
theorem yV:Con.Holds Tryz.prog eT:=aS aV (aI xP (aI aFY aQ)) bAG bBG
def bR:Con:=⟨53,aB,aB,[.val ⟨false,aB,[]⟩],[⟨false,aB,[2]⟩],false,none,
 ((fun x=>List.length x≤1000000000):(List Int)→Prop),
 ((fun x=>x):(List Int)→(List Int))⟩
def aA5:T :=
 .bRX (.bS3 3 tI 8) (.bRY aB aB (.nl 3 tI) (.Z 0)) <|
 .ret (.Z 1)
theorem aUU:bI Tryz.prog [] bR false 3000 ⟨[],[]⟩ = .ok aA5:=by kernel_rfl
theorem aTX (x:List Int) (hx:okD aB x) (hp:(fun x=>List.length x≤1000000000) x):aA5.wp [] [⟨aB,x⟩] [] (fun v=>v.as aB=(fun x=>x) x):=by
 have hp:List.length x≤1000000000:=hp
 delta aA5;refine cW ?_
 simp only[List.length_nil,Nat.zero_add,List.nil_append]
 exact ⟨by unfold maxLen;omega,fun _=>by first|rfl|trivial⟩
theorem gS:Con.Holds Tryz.prog bR:=aS aV aQ aUU aTX
def eW:Con:=⟨98,aL,aL,[.val ⟨false,aL,[]⟩],[⟨false,aL,[2]⟩],false,none,
 ((fun x=>List.length x≤1000000000∧∀ y∈x,List.length y≤1000000000):(cZ)→Prop),
 ((fun x=>x):(cZ)→(cZ))⟩
def yW:T :=
 .bRX (.bS0 119 aB) (.Z 0) <|
 .loop aF (.bRY tI aL (.ci .i64 0) (.nl 119 aB)) <|
  .bRX (.cmp .lss .i64) (.bRY tI tI (.p1 tI aL (.Z 2)) (.Z 1)) <|
  .ite (.Z 3) (
   .bRX (.bS1 119 aB) (.bRY aL tI (.Z 0) (.p1 tI aL (.Z 2))) <|
   .call 0 (.Z 4) <|
   .bRX (.lit 119 aB 1) (.Z 5) <|
   .bRX (.bS3 119 aB 24) (.bRY aL aL (aP aF 1 (.Z 2)) (.Z 6)) <|
   .bRX (.ar .add .i64) (.bRY tI tI (.p1 tI aL (.Z 2)) (.ci .i64 1)) <|
   .bRZ 0 (.bRY tI aL (.Z 8) (.Z 7))) (
   .ret (aP aF 1 (.Z 2)))
theorem aU4:bI Tryz.prog [bR] eW false 3000 ⟨[(2991,1002,[.dr 6,.dr 0,.tm 9 0,.on 3,.sl 1])],[(2981,3005,[16],[])]⟩ = .ok yW:=by kernel_rfl
theorem aU2 (x:cZ) (hx:okD aL x) (hp:(fun x=>List.length x≤1000000000∧∀ y∈x,List.length y≤1000000000) x):yW.wp [bR] [⟨aL,x⟩] [] (fun v=>v.as aL=(fun x=>x) x):=by
 obtain ⟨hp1,hp2⟩:List.length x≤1000000000∧∀ y∈x,List.length y≤1000000000:=hp
 delta yW bR;refine cW ?_
 intro _
 refine ⟨fun s=>∃ k:Nat,k≤x.length∧s=((k:Int),x.take k),fun s=>x.length - (s.1:Int).toNat,⟨0,Nat.zero_le _,by simp⟩,fun s hs hI=>?_⟩
 obtain ⟨k,hk,rfl⟩:=hI
 dsimp only
 refine dB ?_
 constructor
 ·intro hlt
  have hk':k<x.length:=by omega
  rw[aZ hk']
  have hm:=hp2 _ (List.getElem_mem hk')
  have hl:(x.take k).length=k:=List.length_take_of_le hk
  (repeat' first|intro _|(with_reducible apply And.intro))
  all_goals first|omega|(unfold maxLen;omega)|(exact ⟨k+1,by omega,by rw[iW hk'];rfl⟩)
 ·intro hge
  have:k=x.length:=by omega
  subst this
  show x.take x.length=x
  simp
theorem zW:Con.Holds Tryz.prog eW:=aS aV (aI gS aQ) aU4 aU2
end
end Go.Proofs.YtabamggdmdednaaGreat
