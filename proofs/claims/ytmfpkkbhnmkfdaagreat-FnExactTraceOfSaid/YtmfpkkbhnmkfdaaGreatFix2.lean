/- Fix2: trees, and what they say. -/
import Derived.Test.YtmfpkkbhnmkfdaaGreatCe
namespace Go.Proofs.YtmfpkkbhnmkfdaaGreat
open Go.ChangeShapes Go.WideShapes Go.ChangeAt Go.RowKit Go.Deep
set_option linter.unusedVariables false
set_option linter.unusedSimpArgs false
theorem jA (x:Int):-2147483647≤eD x∧eD x≤2147483647:=by unfold eD;omega
def mF (x:Int):Bool:=decide (eD x = x)
theorem aY9 (x:Int):mF x = true↔-2147483647≤x∧x≤2147483647:=by unfold mF eD;rw [decide_eq_true_eq];omega
theorem sP {α:Type} (F:α→Bool) (l:List α) {k:Nat} (h:k < l.length):(l.take (k + 1)).all F = ((l.take k).all F && F l[k]):=by
 rw [List.take_succ_eq_append_getElem h,List.all_append];simp
theorem aB1 {α:Type} {F:α→Bool} {l:List α} {k:Nat} (h:k < l.length) (hb:F l[k] = false):l.all F = false:=by
 rw [List.all_eq_false]
 exact ⟨l[k],List.getElem_mem h,by simp [hb]⟩
noncomputable def eG:Con:=⟨287,tI,tI,[.val ⟨false,tI,[]⟩],[⟨false,tI,[0]⟩],false,none,
 ((fun _=>True):(Int)→Prop),
 ((fun x=>eD x):(Int)→(Int))⟩
def aCK:T :=
 .prim (.mx .i64) (.mk2 tI tI (.vr 0) (.ci .i64 (-2147483647))) <|
 .prim (.mn .i64) (.mk2 tI tI (.vr 1) (.ci .i64 2147483647)) <|
 .ret (.vr 2)
set_option maxRecDepth 100000 in
theorem aW5:bS Tryz.prog [] eG false 3000 ⟨[],[]⟩ = .ok aCK:=by kernel_rfl
theorem aW4 (x:Int) (hx:okD tI x) (hp:(fun _=>True) x):aCK.wp [] [⟨tI,x⟩] [] (fun v=>v.as tI = (fun x=>eD x) x):=by
 delta aCK;refine eS ?_;try with_reducible exact True.intro
 exact fun _ _=>rfl
theorem tJ:Con.Holds Tryz.prog eG:=aT aY aU aW5 fun x hx hp=>aW4 x hx hp
noncomputable def iM:Con:=⟨302,tI,.bool,[.val ⟨false,tI,[]⟩],[⟨false,.bool,[0]⟩],false,none,
 ((fun _=>True):(Int)→Prop),
 ((fun x=>mF x):(Int)→(Bool))⟩
def aCA:T :=
 .prim (.cmp .geq .i64) (.mk2 tI tI (.vr 0) (.ci .i64 (-2147483647))) <|
 .ite (.vr 1) (
  .prim (.cmp .leq .i64) (.mk2 tI tI (.vr 0) (.ci .i64 2147483647)) <|
  .ret (.vr 2)) (
  .ret (.cb false))
set_option maxRecDepth 100000 in
theorem aWL:bS Tryz.prog [] iM false 3000 ⟨[],[]⟩ = .ok aCA:=by kernel_rfl
theorem aW0 (x:Int) (hx:okD tI x) (hp:(fun _=>True) x):aCA.wp [] [⟨tI,x⟩] [] (fun v=>v.as .bool = (fun x=>mF x) x):=by
 delta aCA;refine eS ?_;try with_reducible exact True.intro
 show (decide (x ≥ -2147483647) = true→decide (x≤2147483647) = decide (eD x = x))∧(decide (x ≥ -2147483647) = false→false = decide (eD x = x))
 unfold eD
 constructor
 ·intro h;simp at h ⊢;omega
 ·intro h;simp at h ⊢;omega
theorem aD9:Con.Holds Tryz.prog iM:=aT aY aU aWL fun x hx hp=>aW0 x hx hp
noncomputable def gE:Con:=⟨286,tI,(.pair tI .bool),[.val ⟨false,tI,[]⟩],[⟨false,tI,[0]⟩,⟨false,.bool,[0]⟩],false,none,
 ((fun _=>True):(Int)→Prop),
 ((fun x=>aF2 x):(Int)→(Int × Bool))⟩
def aAW:T :=
 .call 0 (.vr 0) <|
 .call 1 (.vr 0) <|
 .prim .not (.vr 2) <|
 .ret (.mk2 tI .bool (.vr 1) (.vr 3))
set_option maxRecDepth 100000 in
theorem aTL:bS Tryz.prog [eG,iM] gE false 3000 ⟨[],[]⟩ = .ok aAW:=by kernel_rfl
theorem aRU (x:Int) (hx:okD tI x) (hp:(fun _=>True) x):aAW.wp [eG,iM] [⟨tI,x⟩] [] (fun v=>v.as (.pair tI .bool) = (fun x=>aF2 x) x):=by
 delta aAW eG iM;refine eS ?_;try with_reducible exact True.intro
 intro _
 show (eD x,!decide (eD x = x)) = aF2 x
 unfold aF2
 simp [eq_comm]
theorem aAH:Con.Holds Tryz.prog gE:=aT aY (aK tJ (aK aD9 aU)) aTL fun x hx hp=>aRU x hx hp
noncomputable def eJ:Con:=⟨214,aO,(.pair tI .bool),[.val ⟨false,tI,[]⟩,.val ⟨false,tI,[]⟩],[⟨false,tI,[0]⟩,⟨false,.bool,[0]⟩],false,none,
 ((fun _=>True):(Int × Int)→Prop),
 ((fun x=>dH x.1 x.2):(Int × Int)→(Int × Bool))⟩
def zS:T :=
 .call 0 (.p1 tI tI (.vr 0)) <|
 .call 0 (aQ aO 1 (.vr 0)) <|
 .prim (.ar .add .i64) (.mk2 tI tI (.vr 1) (.vr 2)) <|
 .call 1 (.vr 3) <|
 .ret (.vr 4)
set_option maxRecDepth 100000 in
theorem aRB:bS Tryz.prog [eG,gE] eJ false 3000 ⟨[],[]⟩ = .ok zS:=by kernel_rfl
theorem aS5 (x:Int × Int) (hx:okD aO x) (hp:(fun _=>True) x):zS.wp [eG,gE] [⟨aO,x⟩] [] (fun v=>v.as (.pair tI .bool) = (fun x=>dH x.1 x.2) x):=by
 delta zS eG gE;refine eS ?_;try with_reducible exact True.intro
 intro _ _
 have h1:=jA x.1
 have h2:=jA x.2
 exact ⟨by omega,fun _ _=>rfl⟩
theorem uK:Con.Holds Tryz.prog eJ:=aT aY (aK tJ (aK aAH aU)) aRB fun x hx hp=>aS5 x hx hp
noncomputable def bN:Con:=⟨212,aB,aB,[.val ⟨false,aB,[]⟩],[⟨false,aB,[2]⟩],false,none,
 ((fun x=>List.length x≤1000000000):(List Int)→Prop),
 ((fun x=>x):(List Int)→(List Int))⟩
def uW:T :=
 .prim (.lapp 3 tI 8) (.mk2 aB aB (.nl 3 tI) (.vr 0)) <|
 .ret (.vr 1)
set_option maxRecDepth 100000 in
theorem aKY:bS Tryz.prog [] bN false 3000 ⟨[],[]⟩ = .ok uW:=by kernel_rfl
theorem aKI (x:List Int) (hx:okD aB x) (hp:(fun x=>List.length x≤1000000000) x):uW.wp [] [⟨aB,x⟩] [] (fun v=>v.as aB = (fun x=>x) x):=by
 have hp:List.length x≤1000000000:=hp
 delta uW;refine eS ?_;try with_reducible exact True.intro
 simp only [List.length_nil,Nat.zero_add,List.nil_append]
 exact ⟨by unfold maxLen;omega,fun _=>by first | rfl | trivial⟩
theorem fW:Con.Holds Tryz.prog bN:=aT aY aU aKY fun x hx hp=>aKI x hx hp
noncomputable def eP:Con:=⟨211,aG,aG,[.val ⟨false,aG,[]⟩],[⟨false,aG,[2]⟩],false,none,
 ((fun x=>List.length x≤1000000000∧∀ y ∈ x,List.length y≤1000000000):(dD)→Prop),
 ((fun x=>x):(dD)→(dD))⟩
def uD:T :=
 .prim (.llen 188 aB) (.vr 0) <|
 .loop aC (.mk2 tI aG (.ci .i64 0) (.nl 188 aB)) <|
  .prim (.cmp .lss .i64) (.mk2 tI tI (.p1 tI aG (.vr 2)) (.vr 1)) <|
  .ite (.vr 3) (
   .prim (.lidx 188 aB) (.mk2 aG tI (.vr 0) (.p1 tI aG (.vr 2))) <|
   .call 0 (.vr 4) <|
   .prim (.lit 188 aB 1) (.vr 5) <|
   .prim (.lapp 188 aB 24) (.mk2 aG aG (aQ aC 1 (.vr 2)) (.vr 6)) <|
   .prim (.ar .add .i64) (.mk2 tI tI (.p1 tI aG (.vr 2)) (.ci .i64 1)) <|
   .again 0 (.mk2 tI aG (.vr 8) (.vr 7))) (
   .ret (aQ aC 1 (.vr 2)))
set_option maxRecDepth 100000 in
theorem aKV:bS Tryz.prog [bN] eP false 3000 ⟨[(2991,1002,[.dr 6,.dr 0,.tm 9 0,.on 3,.sl 1])],[(2981,3005,[16],[])]⟩ = .ok uD:=by kernel_rfl
theorem aLO (x:dD) (hx:okD aG x) (hp:(fun x=>List.length x≤1000000000∧∀ y ∈ x,List.length y≤1000000000) x):uD.wp [bN] [⟨aG,x⟩] [] (fun v=>v.as aG = (fun x=>x) x):=by
 obtain ⟨hp1,hp2⟩:List.length x≤1000000000∧∀ y ∈ x,List.length y≤1000000000:=hp
 delta uD bN;refine eS ?_;try with_reducible exact True.intro
 intro _
 refine ⟨fun s=>∃ k:Nat,k≤x.length∧s = ((k:Int),x.take k),fun s=>x.length - (s.1:Int).toNat,⟨0,Nat.zero_le _,by simp⟩,fun s hs hI=>?_⟩
 obtain ⟨k,hk,rfl⟩:=hI
 dsimp only
 (refine gR ?_;try with_reducible exact True.intro)
 constructor
 ·intro hlt
  have hk':k < x.length:=by omega
  rw [bD hk']
  have hm:=hp2 _ (List.getElem_mem hk')
  have hl:(x.take k).length = k:=List.length_take_of_le hk
  (repeat' first | intro _ | (with_reducible apply And.intro))
  all_goals first | omega | (unfold maxLen;omega) | (exact ⟨k + 1,by omega,by rw [iB hk'];rfl⟩)
 ·intro hge
  have:k = x.length:=by omega
  subst this
  show x.take x.length = x
  simp
theorem tR:Con.Holds Tryz.prog eP:=aT aY (aK fW aU) aKV fun x hx hp=>aLO x hx hp
end Go.Proofs.YtmfpkkbhnmkfdaaGreat
