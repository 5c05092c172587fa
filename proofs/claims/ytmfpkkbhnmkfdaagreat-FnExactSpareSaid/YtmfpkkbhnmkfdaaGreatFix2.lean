/- Fix2: lemmas. No conditions. -/
import Derived.Test.YtmfpkkbhnmkfdaaGreatCe
namespace Go.Proofs.YtmfpkkbhnmkfdaaGreat
noncomputable section
set_option maxRecDepth 100000
open Go.ChangeShapes Go.WideShapes Go.ChangeAt Go.RowKit Go.Deep
set_option linter.unusedVariables false
set_option linter.unusedSimpArgs false
theorem kT (x:Int):-2147483647≤eT x∧eT x≤2147483647:=by unfold eT;omega
def oL (x:Int):Bool:=decide (eT x=x)
theorem bJ8 (x:Int):oL x=true↔-2147483647≤x∧x≤2147483647:=by unfold oL eT;rw[decide_eq_true_eq];omega
theorem mV {α:Type} (F:α→Bool) (l:List α) {k:Nat} (h:k<l.length):(l.take (k+1)).all F=((l.take k).all F&&F l[k]):=by
 rw[List.take_succ_eq_append_getElem h,List.all_append];simp
theorem vH {α:Type} {F:α→Bool} {l:List α} {k:Nat} (h:k<l.length) (hb:F l[k]=false):l.all F=false:=by
 rw[List.all_eq_false]
 exact ⟨l[k],List.getElem_mem h,by simp[hb]⟩
def eZ:Con:=⟨287,tI,tI,[.val ⟨false,tI,[]⟩],[⟨false,tI,[0]⟩],false,none,
 ((fun _=>True):(Int)→Prop),
 ((fun x=>eT x):(Int)→(Int))⟩
def aHA:T :=
 .bPA (.mx .i64) (.bPB tI tI (.Z 0) (.ci .i64 (-2147483647))) <|
 .bPA (.mn .i64) (.bPB tI tI (.Z 1) (.ci .i64 2147483647)) <|
 .ret (.Z 2)
theorem bEK:bN Tryz.prog [] eZ false 3000 ⟨[],[]⟩ = .ok aHA:=by kernel_rfl
theorem bF1 (x:Int) (hx:okD tI x) (hp:(fun _=>True) x):aHA.wp [] [⟨tI,x⟩] [] (fun v=>v.as tI=(fun x=>eT x) x):=by
 delta aHA;refine dD ?_
 exact fun _ _=>rfl
theorem xZ:Con.Holds Tryz.prog eZ:=aS aV aT bEK bF1
def jY:Con:=⟨302,tI,.bool,[.val ⟨false,tI,[]⟩],[⟨false,.bool,[0]⟩],false,none,
 ((fun _=>True):(Int)→Prop),
 ((fun x=>oL x):(Int)→(Bool))⟩
def aIG:T :=
 .bPA (.cmp .geq .i64) (.bPB tI tI (.Z 0) (.ci .i64 (-2147483647))) <|
 .ite (.Z 1) (
  .bPA (.cmp .leq .i64) (.bPB tI tI (.Z 0) (.ci .i64 2147483647)) <|
  .ret (.Z 2)) (
  .ret (.cb false))
theorem bFX:bN Tryz.prog [] jY false 3000 ⟨[],[]⟩ = .ok aIG:=by kernel_rfl
theorem bFD (x:Int) (hx:okD tI x) (hp:(fun _=>True) x):aIG.wp [] [⟨tI,x⟩] [] (fun v=>v.as .bool=(fun x=>oL x) x):=by
 delta aIG;refine dD ?_
 show (decide (x ≥ -2147483647)=true→decide (x≤2147483647)=decide (eT x=x))∧(decide (x ≥ -2147483647)=false→false=decide (eT x=x))
 unfold eT
 constructor
 ·intro h;simp at h ⊢;omega
 ·intro h;simp at h ⊢;omega
theorem aI4:Con.Holds Tryz.prog jY:=aS aV aT bFX bFD
def iO:Con:=⟨286,tI,(.bP9 tI .bool),[.val ⟨false,tI,[]⟩],[⟨false,tI,[0]⟩,⟨false,.bool,[0]⟩],false,none,
 ((fun _=>True):(Int)→Prop),
 ((fun x=>aLS x):(Int)→(Int × Bool))⟩
def aF9:T:=.call 0 (.Z 0) <|.call 1 (.Z 0) <|
 .bPA .not (.Z 2) <|
 .ret (.bPB tI .bool (.Z 1) (.Z 3))
theorem aYH:bN Tryz.prog [eZ,jY] iO false 3000 ⟨[],[]⟩ = .ok aF9:=by kernel_rfl
theorem aYQ (x:Int) (hx:okD tI x) (hp:(fun _=>True) x):aF9.wp [eZ,jY] [⟨tI,x⟩] [] (fun v=>v.as (.bP9 tI .bool)=(fun x=>aLS x) x):=by
 delta aF9 eZ jY;refine dD ?_
 intro _
 show (eT x,!decide (eT x=x))=aLS x
 unfold aLS
 simp[eq_comm]
theorem aE6:Con.Holds Tryz.prog iO:=aS aV (aH xZ (aH aI4 aT)) aYH aYQ
def fK:Con:=⟨214,aP,(.bP9 tI .bool),[.val ⟨false,tI,[]⟩,.val ⟨false,tI,[]⟩],[⟨false,tI,[0]⟩,⟨false,.bool,[0]⟩],false,none,
 ((fun _=>True):(Int × Int)→Prop),
 ((fun x=>dR x.1 x.2):(Int × Int)→(Int × Bool))⟩
def aEE:T:=.call 0 (.p1 tI tI (.Z 0)) <|.call 0 (aQ aP 1 (.Z 0)) <|
 .bPA (.ar .add .i64) (.bPB tI tI (.Z 1) (.Z 2)) <|
 .call 1 (.Z 3) <|
 .ret (.Z 4)
theorem aYV:bN Tryz.prog [eZ,iO] fK false 3000 ⟨[],[]⟩ = .ok aEE:=by kernel_rfl
theorem bAO (x:Int × Int) (hx:okD aP x) (hp:(fun _=>True) x):aEE.wp [eZ,iO] [⟨aP,x⟩] [] (fun v=>v.as (.bP9 tI .bool)=(fun x=>dR x.1 x.2) x):=by
 delta aEE eZ iO;refine dD ?_
 intro _ _
 have h1:=kT x.1
 have h2:=kT x.2
 exact ⟨by omega,fun _ _=>rfl⟩
theorem zK:Con.Holds Tryz.prog fK:=aS aV (aH xZ (aH aE6 aT)) aYV bAO
def bR:Con:=⟨212,aB,aB,[.val ⟨false,aB,[]⟩],[⟨false,aB,[2]⟩],false,none,
 ((fun x=>List.length x≤1000000000):(List Int)→Prop),
 ((fun x=>x):(List Int)→(List Int))⟩
def yE:T :=
 .bPA (.bPG 3 tI 8) (.bPB aB aB (.nl 3 tI) (.Z 0)) <|
 .ret (.Z 1)
theorem aQL:bN Tryz.prog [] bR false 3000 ⟨[],[]⟩ = .ok yE:=by kernel_rfl
theorem aS4 (x:List Int) (hx:okD aB x) (hp:(fun x=>List.length x≤1000000000) x):yE.wp [] [⟨aB,x⟩] [] (fun v=>v.as aB=(fun x=>x) x):=by
 have hp:List.length x≤1000000000:=hp
 delta yE;refine dD ?_
 simp only[List.length_nil,Nat.zero_add,List.nil_append]
 exact ⟨by unfold maxLen;omega,fun _=>by first|rfl|trivial⟩
theorem iC:Con.Holds Tryz.prog bR:=aS aV aT aQL aS4
def fI:Con:=⟨211,aJ,aJ,[.val ⟨false,aJ,[]⟩],[⟨false,aJ,[2]⟩],false,none,
 ((fun x=>List.length x≤1000000000∧∀ y∈x,List.length y≤1000000000):(cZ)→Prop),
 ((fun x=>x):(cZ)→(cZ))⟩
def yC:T :=
 .bPA (.bPD 188 aB) (.Z 0) <|
 .loop aD (.bPB tI aJ (.ci .i64 0) (.nl 188 aB)) <|
  .bPA (.cmp .lss .i64) (.bPB tI tI (.p1 tI aJ (.Z 2)) (.Z 1)) <|
  .ite (.Z 3) (
   .bPA (.bPE 188 aB) (.bPB aJ tI (.Z 0) (.p1 tI aJ (.Z 2))) <|
   .call 0 (.Z 4) <|
   .bPA (.lit 188 aB 1) (.Z 5) <|
   .bPA (.bPG 188 aB 24) (.bPB aJ aJ (aQ aD 1 (.Z 2)) (.Z 6)) <|
   .bPA (.ar .add .i64) (.bPB tI tI (.p1 tI aJ (.Z 2)) (.ci .i64 1)) <|
   .bPC 0 (.bPB tI aJ (.Z 8) (.Z 7))) (
   .ret (aQ aD 1 (.Z 2)))
theorem aRZ:bN Tryz.prog [bR] fI false 3000 ⟨[(2991,1002,[.dr 6,.dr 0,.tm 9 0,.on 3,.sl 1])],[(2981,3005,[16],[])]⟩ = .ok yC:=by kernel_rfl
theorem aR1 (x:cZ) (hx:okD aJ x) (hp:(fun x=>List.length x≤1000000000∧∀ y∈x,List.length y≤1000000000) x):yC.wp [bR] [⟨aJ,x⟩] [] (fun v=>v.as aJ=(fun x=>x) x):=by
 obtain ⟨hp1,hp2⟩:List.length x≤1000000000∧∀ y∈x,List.length y≤1000000000:=hp
 delta yC bR;refine dD ?_
 intro _
 refine ⟨fun s=>∃ k:Nat,k≤x.length∧s=((k:Int),x.take k),fun s=>x.length - (s.1:Int).toNat,⟨0,Nat.zero_le _,by simp⟩,fun s hs hI=>?_⟩
 obtain ⟨k,hk,rfl⟩:=hI
 dsimp only
 refine dM ?_
 constructor
 ·intro hlt
  have hk':k<x.length:=by omega
  rw[aZ hk']
  have hm:=hp2 _ (List.getElem_mem hk')
  have hl:(x.take k).length=k:=List.length_take_of_le hk
  (repeat' first|intro _|(with_reducible apply And.intro))
  all_goals first|omega|(unfold maxLen;omega)|(exact ⟨k+1,by omega,by rw[jF hk'];rfl⟩)
 ·intro hge
  have:k=x.length:=by omega
  subst this
  show x.take x.length=x
  simp
theorem zD:Con.Holds Tryz.prog fI:=aS aV (aH iC aT) aRZ aR1
end
end Go.Proofs.YtmfpkkbhnmkfdaaGreat
