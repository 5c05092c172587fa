/- Fix2: lemmas. No conditions. -/
import Derived.Test.YtpafjioccjpmfaaGreatCe
namespace Go.Proofs.YtpafjioccjpmfaaGreat
noncomputable section
set_option maxRecDepth 100000
open Go.ChangeShapes Go.WideShapes Go.ChangeAt Go.RowKit Go.Deep
set_option linter.unusedVariables false
set_option linter.unusedSimpArgs false
theorem qP (x:Int):-2147483647≤iK x∧iK x≤2147483647:=by unfold iK;omega
def gM (x:Int):Bool:=decide (iK x=x)
theorem sY (x:Int):gM x=true↔-2147483647≤x∧x≤2147483647:=by unfold gM iK;rw[decide_eq_true_eq];omega
theorem qF {α:Type} (F:α→Bool) (l:List α) {k:Nat} (h:k<l.length):(l.take (k+1)).all F=((l.take k).all F&&F l[k]):=by
 rw[List.take_succ_eq_append_getElem h,List.all_append];simp
theorem yF {α:Type} {F:α→Bool} {l:List α} {k:Nat} (h:k<l.length) (hb:F l[k]=false):l.all F=false:=by
 rw[List.all_eq_false]
 exact ⟨l[k],List.getElem_mem h,by simp[hb]⟩
def eP:Con:=⟨127,tI,tI,[.val ⟨false,tI,[]⟩],[⟨false,tI,[0]⟩],false,none,
 ((fun _=>True):(Int)→Prop),
 ((fun x=>iK x):(Int)→(Int))⟩
def aHF:T :=
 .bPX (.mx .i64) (.bPY tI tI (.Z 0) (.ci .i64 (-2147483647))) <|
 .bPX (.mn .i64) (.bPY tI tI (.Z 1) (.ci .i64 2147483647)) <|
 .ret (.Z 2)
theorem bFH:bW Tryz.prog [] eP false 3000 ⟨[],[]⟩ = .ok aHF:=by kernel_rfl
theorem bE7 (x:Int) (hx:okD tI x) (hp:(fun _=>True) x):aHF.wp [] [⟨tI,x⟩] [] (fun v=>v.as tI=(fun x=>iK x) x):=by
 delta aHF;refine dY ?_
 exact fun _ _=>rfl
theorem xH:Con.Holds Tryz.prog eP:=aX aZ aT bFH bE7
def jS:Con:=⟨132,tI,.bool,[.val ⟨false,tI,[]⟩],[⟨false,.bool,[0]⟩],false,none,
 ((fun _=>True):(Int)→Prop),
 ((fun x=>gM x):(Int)→(Bool))⟩
def aHT:T :=
 .bPX (.cmp .geq .i64) (.bPY tI tI (.Z 0) (.ci .i64 (-2147483647))) <|
 .ite (.Z 1) (
  .bPX (.cmp .leq .i64) (.bPY tI tI (.Z 0) (.ci .i64 2147483647)) <|
  .ret (.Z 2)) (
  .ret (.cb false))
theorem bFR:bW Tryz.prog [] jS false 3000 ⟨[],[]⟩ = .ok aHT:=by kernel_rfl
theorem bDS (x:Int) (hx:okD tI x) (hp:(fun _=>True) x):aHT.wp [] [⟨tI,x⟩] [] (fun v=>v.as .bool=(fun x=>gM x) x):=by
 delta aHT;refine dY ?_
 show (decide (x ≥ -2147483647)=true→decide (x≤2147483647)=decide (iK x=x))∧(decide (x ≥ -2147483647)=false→false=decide (iK x=x))
 unfold iK
 constructor
 ·intro h;simp at h ⊢;omega
 ·intro h;simp at h ⊢;omega
theorem aHX:Con.Holds Tryz.prog jS:=aX aZ aT bFR bDS
def iE:Con:=⟨126,tI,(.bPW tI .bool),[.val ⟨false,tI,[]⟩],[⟨false,tI,[0]⟩,⟨false,.bool,[0]⟩],false,none,
 ((fun _=>True):(Int)→Prop),
 ((fun x=>aWO x):(Int)→(Int × Bool))⟩
def aE1:T:=.call 0 (.Z 0) <|.call 1 (.Z 0) <|
 .bPX .not (.Z 2) <|
 .ret (.bPY tI .bool (.Z 1) (.Z 3))
theorem aXQ:bW Tryz.prog [eP,jS] iE false 3000 ⟨[],[]⟩ = .ok aE1:=by kernel_rfl
theorem aZU (x:Int) (hx:okD tI x) (hp:(fun _=>True) x):aE1.wp [eP,jS] [⟨tI,x⟩] [] (fun v=>v.as (.bPW tI .bool)=(fun x=>aWO x) x):=by
 delta aE1 eP jS;refine dY ?_
 intro _
 show (iK x,!decide (iK x=x))=aWO x
 unfold aWO
 simp[eq_comm]
theorem aDY:Con.Holds Tryz.prog iE:=aX aZ (aG xH (aG aHX aT)) aXQ aZU
def fC:Con:=⟨106,aD,(.bPW tI .bool),[.val ⟨false,tI,[]⟩,.val ⟨false,tI,[]⟩],[⟨false,tI,[0]⟩,⟨false,.bool,[0]⟩],false,none,
 ((fun _=>True):(Int × Int)→Prop),
 ((fun x=>fD x.1 x.2):(Int × Int)→(Int × Bool))⟩
def aDM:T:=.call 0 (.p1 tI tI (.Z 0)) <|.call 0 (aS aD 1 (.Z 0)) <|
 .bPX (.ar .add .i64) (.bPY tI tI (.Z 1) (.Z 2)) <|
 .call 1 (.Z 3) <|
 .ret (.Z 4)
theorem aY2:bW Tryz.prog [eP,iE] fC false 3000 ⟨[],[]⟩ = .ok aDM:=by kernel_rfl
theorem aZR (x:Int × Int) (hx:okD aD x) (hp:(fun _=>True) x):aDM.wp [eP,iE] [⟨aD,x⟩] [] (fun v=>v.as (.bPW tI .bool)=(fun x=>fD x.1 x.2) x):=by
 delta aDM eP iE;refine dY ?_
 intro _ _
 have h1:=qP x.1
 have h2:=qP x.2
 exact ⟨by omega,fun _ _=>rfl⟩
theorem yQ:Con.Holds Tryz.prog fC:=aX aZ (aG xH (aG aDY aT)) aY2 aZR
def bT:Con:=⟨88,aB,aB,[.val ⟨false,aB,[]⟩],[⟨false,aB,[2]⟩],false,none,
 ((fun x=>List.length x≤1000000000):(List Int)→Prop),
 ((fun x=>x):(List Int)→(List Int))⟩
def yE:T :=
 .bPX (.bQ3 3 tI 8) (.bPY aB aB (.nl 3 tI) (.Z 0)) <|
 .ret (.Z 1)
theorem aSS:bW Tryz.prog [] bT false 3000 ⟨[],[]⟩ = .ok yE:=by kernel_rfl
theorem aS3 (x:List Int) (hx:okD aB x) (hp:(fun x=>List.length x≤1000000000) x):yE.wp [] [⟨aB,x⟩] [] (fun v=>v.as aB=(fun x=>x) x):=by
 have hp:List.length x≤1000000000:=hp
 delta yE;refine dY ?_
 simp only[List.length_nil,Nat.zero_add,List.nil_append]
 exact ⟨by unfold maxLen;omega,fun _=>by first|rfl|trivial⟩
theorem gT:Con.Holds Tryz.prog bT:=aX aZ aT aSS aS3
def fG:Con:=⟨104,aO,aO,[.val ⟨false,aO,[]⟩],[⟨false,aO,[2]⟩],false,none,
 ((fun x=>List.length x≤1000000000∧∀ y∈x,List.length y≤1000000000):(dG)→Prop),
 ((fun x=>x):(dG)→(dG))⟩
def yY:T :=
 .bPX (.bQ0 134 aB) (.Z 0) <|
 .loop aL (.bPY tI aO (.ci .i64 0) (.nl 134 aB)) <|
  .bPX (.cmp .lss .i64) (.bPY tI tI (.p1 tI aO (.Z 2)) (.Z 1)) <|
  .ite (.Z 3) (
   .bPX (.bQ1 134 aB) (.bPY aO tI (.Z 0) (.p1 tI aO (.Z 2))) <|
   .call 0 (.Z 4) <|
   .bPX (.lit 134 aB 1) (.Z 5) <|
   .bPX (.bQ3 134 aB 24) (.bPY aO aO (aS aL 1 (.Z 2)) (.Z 6)) <|
   .bPX (.ar .add .i64) (.bPY tI tI (.p1 tI aO (.Z 2)) (.ci .i64 1)) <|
   .bPZ 0 (.bPY tI aO (.Z 8) (.Z 7))) (
   .ret (aS aL 1 (.Z 2)))
theorem aQQ:bW Tryz.prog [bT] fG false 3000 ⟨[(2991,1002,[.dr 6,.dr 0,.tm 9 0,.on 3,.sl 1])],[(2981,3005,[16],[])]⟩ = .ok yY:=by kernel_rfl
theorem aSC (x:dG) (hx:okD aO x) (hp:(fun x=>List.length x≤1000000000∧∀ y∈x,List.length y≤1000000000) x):yY.wp [bT] [⟨aO,x⟩] [] (fun v=>v.as aO=(fun x=>x) x):=by
 obtain ⟨hp1,hp2⟩:List.length x≤1000000000∧∀ y∈x,List.length y≤1000000000:=hp
 delta yY bT;refine dY ?_
 intro _
 refine ⟨fun s=>∃ k:Nat,k≤x.length∧s=((k:Int),x.take k),fun s=>x.length - (s.1:Int).toNat,⟨0,Nat.zero_le _,by simp⟩,fun s hs hI=>?_⟩
 obtain ⟨k,hk,rfl⟩:=hI
 dsimp only
 refine eD ?_
 constructor
 ·intro hlt
  have hk':k<x.length:=by omega
  rw[aW hk']
  have hm:=hp2 _ (List.getElem_mem hk')
  have hl:(x.take k).length=k:=List.length_take_of_le hk
  (repeat' first|intro _|(with_reducible apply And.intro))
  all_goals first|omega|(unfold maxLen;omega)|(exact ⟨k+1,by omega,by rw[mC hk'];rfl⟩)
 ·intro hge
  have:k=x.length:=by omega
  subst this
  show x.take x.length=x
  simp
theorem yM:Con.Holds Tryz.prog fG:=aX aZ (aG gT aT) aQQ aSC
end
end Go.Proofs.YtpafjioccjpmfaaGreat
