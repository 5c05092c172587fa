/- TrL: lemmas. No conditions. -/
import Derived.Test.YtpleleanibgniaaGreatTrcP
import Derived.Test.YtpleleanibgniaaGreatDrawCf
namespace Go.Proofs.YtpleleanibgniaaGreat
noncomputable section
set_option maxRecDepth 100000
open Go.ChangeShapes Go.WideShapes Go.ChangeAt Go.RowKit Go.Deep
set_option linter.unusedVariables false
set_option linter.unusedSimpArgs false
def sZ (n:Nat) (L:List kS):Prop:=∀ i (h:i<L.length),okA n (L.take i) L[i]
theorem aXA {l:List kS} {k:Nat} (s:Int) (h:k<l.length):dO (l.take (k+1)) s=dO (l.take k) s++(if l[k].2.2=true∧l[k].1=s then [l[k].2.1] else []):=by
 rw[← iQ h,aGJ]
 congr 1
 obtain ⟨a,i,d⟩:=l[k]
 unfold dO
 by_cases h1:d=true
 ·by_cases h2:a=s
  ·rw[if_pos ⟨h1,h2⟩];simp[List.filter,h1,h2]
  ·rw[if_neg (fun hh=>h2 hh.2)];simp[List.filter,h1,h2]
 ·rw[if_neg (fun hh=>h1 hh.1)];simp[List.filter,h1]
theorem aIK (l:List kS) (s:Int):(dO l s).length≤l.length:=by
 unfold dO;rw[List.length_map];exact List.length_filter_le _ _
def mH (l:List kS) (a:kS) (κ:Int):Bool:=l.any fun y=>y.2.2&&(decide (y.2.1=(κ,a.2.1.2))&&decide (y.1+1=a.1))
def jT (l:List kS) (a:kS) (κ:Int):Bool:=l.any fun y=>y.2.2&&(decide (y.2.1=(κ,a.2.1.2))&&decide (y.1 - 1=a.1))
def gP (l:List kS) (s κ m:Int):Bool:=l.any fun y=>y.2.2&&(decide (y.1=s)&&decide (y.2.1=(κ,m)))
theorem aLD {l:List kS} {a:kS} {κ:Int} (h:(κ,a.2.1.2)∈dO l (a.1 - 1)):mH l a κ=true:=by
 obtain ⟨y,h1,h2,h3,h4⟩:=aGE.1 h
 exact List.any_eq_true.2 ⟨y,h1,by rw[h2,decide_eq_true h4,decide_eq_true (show y.1+1=a.1 by omega)];rfl⟩
theorem aGY {l:List kS} {a:kS} {κ:Int} (h:(κ,a.2.1.2)∈dO l (a.1+1)):jT l a κ=true:=by
 obtain ⟨y,h1,h2,h3,h4⟩:=aGE.1 h
 exact List.any_eq_true.2 ⟨y,h1,by rw[h2,decide_eq_true h4,decide_eq_true (show y.1 - 1=a.1 by omega)];rfl⟩
theorem uF {l:List kS} {s κ m:Int} (h:(κ,m)∈dO l s):gP l s κ m=true:=by
 obtain ⟨y,h1,h2,h3,h4⟩:=aGE.1 h
 exact List.any_eq_true.2 ⟨y,h1,by rw[h2,decide_eq_true h4,decide_eq_true h3];rfl⟩
theorem aHC {α:Type} {f:α→Bool} {l:List α} {k:Nat} (h:k<l.length):(l.take (k+1)).any f=((l.take k).any f || f l[k]):=by
 rw[← iQ h,List.any_append,List.any_cons,List.any_nil,Bool.or_false]
theorem aOQ {α:Type} {f:α→Bool} {l:List α} {k:Nat} (h:k<l.length) (hf:f l[k]=true):true=l.any f:=(List.any_eq_true.2 ⟨_,List.getElem_mem h,hf⟩).symm
theorem aIY {x y:Int × Int}:qQ aC x y=false↔¬ x=y:=by rw[← bGI];cases qQ aC x y <;> simp
def gI:Con:=⟨35,(.bJ2 (.slice 79 (.bJ2 tI (.bJ2 aC .bool))) (.bJ2 (.bJ2 tI (.bJ2 aC .bool)) tI)),.bool,[.val ⟨false,(.slice 79 (.bJ2 tI (.bJ2 aC .bool))),[]⟩,.val ⟨true,(.bJ2 tI (.bJ2 aC .bool)),[]⟩,.val ⟨false,tI,[]⟩],[⟨false,.bool,[0]⟩],false,none,
 ((fun _=>True):((List (Int × (cQ × Bool))) × ((Int × (cQ × Bool)) × Int))→Prop),
 ((fun x=>mH x.1 x.2.1 x.2.2):((List (Int × (cQ × Bool))) × ((Int × (cQ × Bool)) × Int))→(Bool))⟩
def vF:T :=
 .bJ3 (.bJ6 79 (.bJ2 tI (.bJ2 aC .bool))) (.p1 (.slice 79 (.bJ2 tI (.bJ2 aC .bool))) (.bJ2 (.bJ2 tI (.bJ2 aC .bool)) tI) (.Z 0)) <|
 .loop tI (.ci .i64 0) <|
  .bJ3 (.cmp .lss .i64) (.bJ4 tI tI (.Z 2) (.Z 1)) <|
  .ite (.Z 3) (
   .bJ3 (.bJ7 79 (.bJ2 tI (.bJ2 aC .bool))) (.bJ4 (.slice 79 (.bJ2 tI (.bJ2 aC .bool))) tI (.p1 (.slice 79 (.bJ2 tI (.bJ2 aC .bool))) (.bJ2 (.bJ2 tI (.bJ2 aC .bool)) tI) (.Z 0)) (.Z 2)) <|
   .ite (aR (.bJ2 tI (.bJ2 aC .bool)) 2 (.Z 4)) (
    .bJ3 (.eqv false aC) (bJ (.bJ2 aC aC) [(aJ (.bJ2 tI (.bJ2 aC .bool)) 1 (.Z 4)),(aR (.bJ2 (.slice 79 (.bJ2 tI (.bJ2 aC .bool))) (.bJ2 (.bJ2 tI (.bJ2 aC .bool)) tI)) 2 (.Z 0)),(aR aC 1 (aJ (.bJ2 tI (.bJ2 aC .bool)) 1 (aJ (.bJ2 (.slice 79 (.bJ2 tI (.bJ2 aC .bool))) (.bJ2 (.bJ2 tI (.bJ2 aC .bool)) tI)) 1 (.Z 0))))]) <|
    .ite (.Z 5) (
     .bJ3 (.cmp .lss .i64) (.bJ4 tI tI (.p1 tI (.bJ2 aC .bool) (.Z 4)) (.p1 tI (.bJ2 aC .bool) (aJ (.bJ2 (.slice 79 (.bJ2 tI (.bJ2 aC .bool))) (.bJ2 (.bJ2 tI (.bJ2 aC .bool)) tI)) 1 (.Z 0)))) <|
     .ite (.Z 6) (
      .bJ3 (.ar .add .i64) (.bJ4 tI tI (.p1 tI (.bJ2 aC .bool) (.Z 4)) (.ci .i64 1)) <|
      .bJ3 (.cmp .eql .i64) (.bJ4 tI tI (.Z 7) (.p1 tI (.bJ2 aC .bool) (aJ (.bJ2 (.slice 79 (.bJ2 tI (.bJ2 aC .bool))) (.bJ2 (.bJ2 tI (.bJ2 aC .bool)) tI)) 1 (.Z 0)))) <|
      .ite (.Z 8) (
       .ret (.cb true)) (
       .bJ3 (.ar .add .i64) (.bJ4 tI tI (.Z 2) (.ci .i64 1)) <|
       .bJ5 0 (.Z 9))) (
      .bJ3 (.ar .add .i64) (.bJ4 tI tI (.Z 2) (.ci .i64 1)) <|
      .bJ5 0 (.Z 7))) (
     .bJ3 (.ar .add .i64) (.bJ4 tI tI (.Z 2) (.ci .i64 1)) <|
     .bJ5 0 (.Z 6))) (
    .bJ3 (.ar .add .i64) (.bJ4 tI tI (.Z 2) (.ci .i64 1)) <|
    .bJ5 0 (.Z 5))) (
   .ret (.cb false))
theorem aN8:bV Tryz.prog [] gI false 3000 ⟨[(2993,1002,[.dr 0,.dr 1,.tm 11 0])],[]⟩ = .ok vF:=by kernel_rfl
theorem aMC (x:(List (Int × (cQ × Bool))) × ((Int × (cQ × Bool)) × Int)) (hx:okD (.bJ2 (.slice 79 (.bJ2 tI (.bJ2 aC .bool))) (.bJ2 (.bJ2 tI (.bJ2 aC .bool)) tI)) x) (hp:(fun _=>True) x):vF.wp [] [⟨(.bJ2 (.slice 79 (.bJ2 tI (.bJ2 aC .bool))) (.bJ2 (.bJ2 tI (.bJ2 aC .bool)) tI)),x⟩] [] (fun v=>v.as .bool=(fun x=>mH x.1 x.2.1 x.2.2) x):=by
 obtain ⟨l,a,κ⟩:=x
 change List kS at l
 have hm:=aLY (show List.length l≤maxLen from hx.1.1)
 have hel:=hx.1.2
 have ha1:-9223372036854775808≤(a.1:Int)∧(a.1:Int)≤9223372036854775807:=hx.2.1.1
 delta vF;refine eE ?_
 refine eL ?_
 refine fun _=>⟨fun s=>∃ k:Nat,k≤l.length∧s=(k:Int)∧mH (l.take k) a κ=false,fun s=>l.length - (s:Int).toNat,⟨0,Nat.zero_le _,rfl,rfl⟩,fun s _ hI=>?_⟩
 obtain ⟨k,hk,rfl,ha⟩:=hI
 try dsimp only
 try refine eL ?_
 refine ⟨fun hlt=>?_,fun hge=>?_⟩
 ·have hk':k<l.length:=by omega
  have hy:-9223372036854775808≤((l[k]).1:Int)∧((l[k]).1:Int)≤9223372036854775807:=(hel _ (List.getElem_mem hk')).1
  have e:mH (l.take (k+1)) a κ=(mH (l.take k) a κ || ((l[k]).2.2&&(decide ((l[k]).2.1=(κ,a.2.1.2))&&decide ((l[k]).1+1=a.1)))):=aHC hk'
  have hh:((l[k]).2.2&&(decide ((l[k]).2.1=(κ,a.2.1.2))&&decide ((l[k]).1+1=a.1)))=true→true=mH l a κ:=fun h=>aOQ hk' h
  rw[ha,Bool.false_or] at e
  simp only[bD hk']
  generalize l[k]=y at e hh hy ⊢
  have f0:y.2.2=true→¬ qQ aC y.2.1 (κ,a.2.1.2)=false→y.1+1=a.1→true=mH l a κ:=fun h1 h2 h3=>hh (by
   have h4:y.2.1=(κ,a.2.1.2):=Classical.not_not.1 fun h=>h2 (aIY.2 h)
   rw[h1,decide_eq_true h4,decide_eq_true h3];rfl)
  have f1:y.2.2=false→mH (l.take (k+1)) a κ=false:=fun h=>by rw[e,h];rfl
  have f2:qQ aC y.2.1 (κ,a.2.1.2)=false→mH (l.take (k+1)) a κ=false:=fun h=>by rw[e,decide_eq_false (aIY.1 h),Bool.false_and,Bool.and_false]
  have f3:¬ y.1+1=a.1→mH (l.take (k+1)) a κ=false:=fun h=>by rw[e,decide_eq_false h,Bool.and_false,Bool.and_false]
  (repeat' first|intro _|(with_reducible apply And.intro))
  all_goals first|omega|exact f0 (by assumption) (by assumption) (by assumption)|exact ⟨k+1,by omega,rfl,f1 (by assumption)⟩|exact ⟨k+1,by omega,rfl,f2 (by assumption)⟩|exact ⟨k+1,by omega,rfl,f3 (by omega)⟩|skip
 ·have:k=l.length:=by omega
  subst this
  rw[List.take_length] at ha
  exact ha.symm
theorem aD0:Con.Holds Tryz.prog gI:=aV aX aT aN8 aMC
def fP:Con:=⟨36,(.bJ2 (.slice 79 (.bJ2 tI (.bJ2 aC .bool))) (.bJ2 (.bJ2 tI (.bJ2 aC .bool)) tI)),.bool,[.val ⟨false,(.slice 79 (.bJ2 tI (.bJ2 aC .bool))),[]⟩,.val ⟨true,(.bJ2 tI (.bJ2 aC .bool)),[]⟩,.val ⟨false,tI,[]⟩],[⟨false,.bool,[0]⟩],false,none,
 ((fun _=>True):((List (Int × (cQ × Bool))) × ((Int × (cQ × Bool)) × Int))→Prop),
 ((fun x=>jT x.1 x.2.1 x.2.2):((List (Int × (cQ × Bool))) × ((Int × (cQ × Bool)) × Int))→(Bool))⟩
def sG:T :=
 .bJ3 (.bJ6 79 (.bJ2 tI (.bJ2 aC .bool))) (.p1 (.slice 79 (.bJ2 tI (.bJ2 aC .bool))) (.bJ2 (.bJ2 tI (.bJ2 aC .bool)) tI) (.Z 0)) <|
 .loop tI (.ci .i64 0) <|
  .bJ3 (.cmp .lss .i64) (.bJ4 tI tI (.Z 2) (.Z 1)) <|
  .ite (.Z 3) (
   .bJ3 (.bJ7 79 (.bJ2 tI (.bJ2 aC .bool))) (.bJ4 (.slice 79 (.bJ2 tI (.bJ2 aC .bool))) tI (.p1 (.slice 79 (.bJ2 tI (.bJ2 aC .bool))) (.bJ2 (.bJ2 tI (.bJ2 aC .bool)) tI) (.Z 0)) (.Z 2)) <|
   .ite (aR (.bJ2 tI (.bJ2 aC .bool)) 2 (.Z 4)) (
    .bJ3 (.eqv false aC) (bJ (.bJ2 aC aC) [(aJ (.bJ2 tI (.bJ2 aC .bool)) 1 (.Z 4)),(aR (.bJ2 (.slice 79 (.bJ2 tI (.bJ2 aC .bool))) (.bJ2 (.bJ2 tI (.bJ2 aC .bool)) tI)) 2 (.Z 0)),(aR aC 1 (aJ (.bJ2 tI (.bJ2 aC .bool)) 1 (aJ (.bJ2 (.slice 79 (.bJ2 tI (.bJ2 aC .bool))) (.bJ2 (.bJ2 tI (.bJ2 aC .bool)) tI)) 1 (.Z 0))))]) <|
    .ite (.Z 5) (
     .bJ3 (.cmp .gtr .i64) (.bJ4 tI tI (.p1 tI (.bJ2 aC .bool) (.Z 4)) (.p1 tI (.bJ2 aC .bool) (aJ (.bJ2 (.slice 79 (.bJ2 tI (.bJ2 aC .bool))) (.bJ2 (.bJ2 tI (.bJ2 aC .bool)) tI)) 1 (.Z 0)))) <|
     .ite (.Z 6) (
      .bJ3 (.ar .sub .i64) (.bJ4 tI tI (.p1 tI (.bJ2 aC .bool) (.Z 4)) (.ci .i64 1)) <|
      .bJ3 (.cmp .eql .i64) (.bJ4 tI tI (.Z 7) (.p1 tI (.bJ2 aC .bool) (aJ (.bJ2 (.slice 79 (.bJ2 tI (.bJ2 aC .bool))) (.bJ2 (.bJ2 tI (.bJ2 aC .bool)) tI)) 1 (.Z 0)))) <|
      .ite (.Z 8) (
       .ret (.cb true)) (
       .bJ3 (.ar .add .i64) (.bJ4 tI tI (.Z 2) (.ci .i64 1)) <|
       .bJ5 0 (.Z 9))) (
      .bJ3 (.ar .add .i64) (.bJ4 tI tI (.Z 2) (.ci .i64 1)) <|
      .bJ5 0 (.Z 7))) (
     .bJ3 (.ar .add .i64) (.bJ4 tI tI (.Z 2) (.ci .i64 1)) <|
     .bJ5 0 (.Z 6))) (
    .bJ3 (.ar .add .i64) (.bJ4 tI tI (.Z 2) (.ci .i64 1)) <|
    .bJ5 0 (.Z 5))) (
   .ret (.cb false))
theorem aK3:bV Tryz.prog [] fP false 3000 ⟨[(2993,1002,[.dr 0,.dr 1,.tm 11 0])],[]⟩ = .ok sG:=by kernel_rfl
theorem aK6 (x:(List (Int × (cQ × Bool))) × ((Int × (cQ × Bool)) × Int)) (hx:okD (.bJ2 (.slice 79 (.bJ2 tI (.bJ2 aC .bool))) (.bJ2 (.bJ2 tI (.bJ2 aC .bool)) tI)) x) (hp:(fun _=>True) x):sG.wp [] [⟨(.bJ2 (.slice 79 (.bJ2 tI (.bJ2 aC .bool))) (.bJ2 (.bJ2 tI (.bJ2 aC .bool)) tI)),x⟩] [] (fun v=>v.as .bool=(fun x=>jT x.1 x.2.1 x.2.2) x):=by
 obtain ⟨l,a,κ⟩:=x
 change List kS at l
 have hm:=aLY (show List.length l≤maxLen from hx.1.1)
 have hel:=hx.1.2
 have ha1:-9223372036854775808≤(a.1:Int)∧(a.1:Int)≤9223372036854775807:=hx.2.1.1
 delta sG;refine eE ?_
 refine eL ?_
 refine fun _=>⟨fun s=>∃ k:Nat,k≤l.length∧s=(k:Int)∧jT (l.take k) a κ=false,fun s=>l.length - (s:Int).toNat,⟨0,Nat.zero_le _,rfl,rfl⟩,fun s _ hI=>?_⟩
 obtain ⟨k,hk,rfl,ha⟩:=hI
 try dsimp only
 try refine eL ?_
 refine ⟨fun hlt=>?_,fun hge=>?_⟩
 ·have hk':k<l.length:=by omega
  have hy:-9223372036854775808≤((l[k]).1:Int)∧((l[k]).1:Int)≤9223372036854775807:=(hel _ (List.getElem_mem hk')).1
  have e:jT (l.take (k+1)) a κ=(jT (l.take k) a κ || ((l[k]).2.2&&(decide ((l[k]).2.1=(κ,a.2.1.2))&&decide ((l[k]).1 - 1=a.1)))):=aHC hk'
  have hh:((l[k]).2.2&&(decide ((l[k]).2.1=(κ,a.2.1.2))&&decide ((l[k]).1 - 1=a.1)))=true→true=jT l a κ:=fun h=>aOQ hk' h
  rw[ha,Bool.false_or] at e
  simp only[bD hk']
  generalize l[k]=y at e hh hy ⊢
  have f0:y.2.2=true→¬ qQ aC y.2.1 (κ,a.2.1.2)=false→y.1 - 1=a.1→true=jT l a κ:=fun h1 h2 h3=>hh (by
   have h4:y.2.1=(κ,a.2.1.2):=Classical.not_not.1 fun h=>h2 (aIY.2 h)
   rw[h1,decide_eq_true h4,decide_eq_true h3];rfl)
  have f1:y.2.2=false→jT (l.take (k+1)) a κ=false:=fun h=>by rw[e,h];rfl
  have f2:qQ aC y.2.1 (κ,a.2.1.2)=false→jT (l.take (k+1)) a κ=false:=fun h=>by rw[e,decide_eq_false (aIY.1 h),Bool.false_and,Bool.and_false]
  have f3:¬ y.1 - 1=a.1→jT (l.take (k+1)) a κ=false:=fun h=>by rw[e,decide_eq_false h,Bool.and_false,Bool.and_false]
  (repeat' first|intro _|(with_reducible apply And.intro))
  all_goals first|omega|exact f0 (by assumption) (by assumption) (by assumption)|exact ⟨k+1,by omega,rfl,f1 (by assumption)⟩|exact ⟨k+1,by omega,rfl,f2 (by assumption)⟩|exact ⟨k+1,by omega,rfl,f3 (by omega)⟩|skip
 ·have:k=l.length:=by omega
  subst this
  rw[List.take_length] at ha
  exact ha.symm
theorem aA6:Con.Holds Tryz.prog fP:=aV aX aT aK3 aK6
def sN:Con:=⟨10,(.bJ2 (.slice 79 (.bJ2 tI (.bJ2 aC .bool))) tI),aY,[.val ⟨false,(.slice 79 (.bJ2 tI (.bJ2 aC .bool))),[]⟩,.val ⟨false,tI,[]⟩],[⟨false,aY,[2]⟩],false,none,
 ((fun x=>List.length x.1≤1000000):((List (Int × (cQ × Bool))) × Int)→Prop),
 ((fun x=>dO x.1 x.2):((List (Int × (cQ × Bool))) × Int)→(List cQ))⟩
def aE7:T :=
 .bJ3 (.bJ6 79 (.bJ2 tI (.bJ2 aC .bool))) (.p1 (.slice 79 (.bJ2 tI (.bJ2 aC .bool))) tI (.Z 0)) <|
 .loop (.bJ2 tI aY) (.bJ4 tI aY (.ci .i64 0) (.nl 52 aC)) <|
  .bJ3 (.cmp .lss .i64) (.bJ4 tI tI (.p1 tI aY (.Z 2)) (.Z 1)) <|
  .ite (.Z 3) (
   .bJ3 (.bJ7 79 (.bJ2 tI (.bJ2 aC .bool))) (.bJ4 (.slice 79 (.bJ2 tI (.bJ2 aC .bool))) tI (.p1 (.slice 79 (.bJ2 tI (.bJ2 aC .bool))) tI (.Z 0)) (.p1 tI aY (.Z 2))) <|
   .ite (aR (.bJ2 tI (.bJ2 aC .bool)) 2 (.Z 4)) (
    .bJ3 (.cmp .eql .i64) (.bJ4 tI tI (.p1 tI (.bJ2 aC .bool) (.Z 4)) (aR (.bJ2 (.slice 79 (.bJ2 tI (.bJ2 aC .bool))) tI) 1 (.Z 0))) <|
    .ite (.Z 5) (
     .bJ3 (.lit 52 aC 1) (aJ (.bJ2 tI (.bJ2 aC .bool)) 1 (.Z 4)) <|
     .bJ3 (.bJ9 52 aC 16) (.bJ4 aY aY (aR (.bJ2 tI aY) 1 (.Z 2)) (.Z 6)) <|
     .bJ3 (.ar .add .i64) (.bJ4 tI tI (.p1 tI aY (.Z 2)) (.ci .i64 1)) <|
     .bJ5 0 (.bJ4 tI aY (.Z 8) (.Z 7))) (
     .bJ3 (.ar .add .i64) (.bJ4 tI tI (.p1 tI aY (.Z 2)) (.ci .i64 1)) <|
     .bJ5 0 (.bJ4 tI aY (.Z 6) (aR (.bJ2 tI aY) 1 (.Z 2))))) (
    .bJ3 (.ar .add .i64) (.bJ4 tI tI (.p1 tI aY (.Z 2)) (.ci .i64 1)) <|
    .bJ5 0 (.bJ4 tI aY (.Z 5) (aR (.bJ2 tI aY) 1 (.Z 2))))) (
   .ret (aR (.bJ2 tI aY) 1 (.Z 2)))
theorem aXQ:bV Tryz.prog [] sN false 3000 ⟨[(2991,1002,[.dr 8,.dr 0,.tm 11 0,.on 5,.sl 1])],[]⟩ = .ok aE7:=by kernel_rfl
theorem aYI (x:(List (Int × (cQ × Bool))) × Int) (hx:okD (.bJ2 (.slice 79 (.bJ2 tI (.bJ2 aC .bool))) tI) x) (hp:(fun x=>List.length x.1≤1000000) x):aE7.wp [] [⟨(.bJ2 (.slice 79 (.bJ2 tI (.bJ2 aC .bool))) tI),x⟩] [] (fun v=>v.as aY=(fun x=>dO x.1 x.2) x):=by
 obtain ⟨l,s⟩:=x
 change List kS at l
 have hm:List.length l≤1000000:=hp
 delta aE7;refine eE ?_
 refine eL ?_
 refine fun _=>fC (fun k=>((k:Int),dO (l.take k) s)) l.length rfl fun I μ k hk _ go=>?_
 try dsimp only
 try refine eL ?_
 refine ⟨fun hlt=>?_,fun hge=>?_⟩
 ·have hk':k<l.length:=by omega
  have e:=aXA s hk'
  have hl:=aIK (l.take k) s
  rw[List.length_take] at hl
  simp only[bD hk']
  generalize l[k]=y at e ⊢
  have f1:y.2.2=true→y.1=s→dO (l.take k) s++[y.2.1]=dO (l.take (k+1)) s:=fun h1 h2=>by rw[e,if_pos ⟨h1,h2⟩]
  have f2:¬ y.1=s→dO (l.take k) s=dO (l.take (k+1)) s:=fun h=>by rw[e,if_neg (fun hh=>h hh.2),List.append_nil]
  have f3:y.2.2=false→dO (l.take k) s=dO (l.take (k+1)) s:=fun h=>by rw[e,if_neg (fun hh=>by rw[h] at hh;cases hh.1),List.append_nil]
  (repeat' first|intro _|(refine go2 _ ?_ ?_ ?_)|(refine go2 _ ?_ ?_)|(refine go _ ?_ ?_ ?_)|(refine go _ ?_ ?_)|(with_reducible apply And.intro))
  all_goals first|omega|(unfold maxLen;omega)|exact pk (f1 (by assumption) (by assumption))|exact pk (f2 (by assumption))|exact pk (f3 (by assumption))|skip
 ·have:k=l.length:=by omega
  subst this
  rw[List.take_length]
theorem aYE:Con.Holds Tryz.prog sN:=aV aX aT aXQ aYI
def nR:Con:=⟨13,(.slice 79 (.bJ2 tI (.bJ2 aC .bool))),.bool,[.val ⟨false,(.slice 79 (.bJ2 tI (.bJ2 aC .bool))),[]⟩],[⟨false,.bool,[0]⟩],false,none,
 ((fun x=>∃ n:Nat,n≤4∧sZ n x):(List (Int × (cQ × Bool)))→Prop),
 ((fun _=>true):(List (Int × (cQ × Bool)))→(Bool))⟩
def wP:T :=
 .bJ3 (.bJ6 79 (.bJ2 tI (.bJ2 aC .bool))) (.Z 0) <|
 .loop tI (.ci .i64 0) <|
  .bJ3 (.cmp .lss .i64) (.bJ4 tI tI (.Z 2) (.Z 1)) <|
  .ite (.Z 3) (
   .bJ3 (.bJ7 79 (.bJ2 tI (.bJ2 aC .bool))) (.bJ4 (.slice 79 (.bJ2 tI (.bJ2 aC .bool))) tI (.Z 0) (.Z 2)) <|
   .bJ3 .not (aR (.bJ2 tI (.bJ2 aC .bool)) 2 (.Z 4)) <|
   .ite (.Z 5) (
    .bJ3 (.ar .add .i64) (.bJ4 tI tI (.Z 2) (.ci .i64 1)) <|
    .bJ5 0 (.Z 6)) (
    .bJ3 (.cmp .eql .i64) (.bJ4 tI tI (.p1 tI tI (aJ (.bJ2 tI (.bJ2 aC .bool)) 1 (.Z 4))) (.ci .i64 1)) <|
    .ite (.Z 6) (
     .bJ3 (.bJ8 79 (.bJ2 tI (.bJ2 aC .bool))) (bJ (.bJ2 (.slice 79 (.bJ2 tI (.bJ2 aC .bool))) aC) [(.Z 0),(.ci .i64 0),(.Z 2)]) <|
     .call 0 (bJ (.bJ2 (.slice 79 (.bJ2 tI (.bJ2 aC .bool))) (.bJ2 (.bJ2 tI (.bJ2 aC .bool)) tI)) [(.Z 7),(.Z 4),(.ci .i64 3)]) <|
     .bJ3 .not (.Z 8) <|
     .ite (.Z 9) (
      .ret (.cb false)) (
      .bJ3 (.cmp .eql .i64) (.bJ4 tI tI (.p1 tI tI (aJ (.bJ2 tI (.bJ2 aC .bool)) 1 (.Z 4))) (.ci .i64 4)) <|
      .ite (.Z 10) (
       .bJ3 (.bJ8 79 (.bJ2 tI (.bJ2 aC .bool))) (bJ (.bJ2 (.slice 79 (.bJ2 tI (.bJ2 aC .bool))) aC) [(.Z 0),(.ci .i64 0),(.Z 2)]) <|
       .call 1 (bJ (.bJ2 (.slice 79 (.bJ2 tI (.bJ2 aC .bool))) (.bJ2 (.bJ2 tI (.bJ2 aC .bool)) tI)) [(.Z 11),(.Z 4),(.ci .i64 7)]) <|
       .bJ3 .not (.Z 12) <|
       .ite (.Z 13) (
        .ret (.cb false)) (
        .bJ3 (.ar .add .i64) (.bJ4 tI tI (.Z 2) (.ci .i64 1)) <|
        .bJ5 0 (.Z 14))) (
       .bJ3 (.ar .add .i64) (.bJ4 tI tI (.Z 2) (.ci .i64 1)) <|
       .bJ5 0 (.Z 11)))) (
     .bJ3 (.cmp .eql .i64) (.bJ4 tI tI (.p1 tI tI (aJ (.bJ2 tI (.bJ2 aC .bool)) 1 (.Z 4))) (.ci .i64 4)) <|
     .ite (.Z 7) (
      .bJ3 (.bJ8 79 (.bJ2 tI (.bJ2 aC .bool))) (bJ (.bJ2 (.slice 79 (.bJ2 tI (.bJ2 aC .bool))) aC) [(.Z 0),(.ci .i64 0),(.Z 2)]) <|
      .call 1 (bJ (.bJ2 (.slice 79 (.bJ2 tI (.bJ2 aC .bool))) (.bJ2 (.bJ2 tI (.bJ2 aC .bool)) tI)) [(.Z 8),(.Z 4),(.ci .i64 7)]) <|
      .bJ3 .not (.Z 9) <|
      .ite (.Z 10) (
       .ret (.cb false)) (
       .bJ3 (.ar .add .i64) (.bJ4 tI tI (.Z 2) (.ci .i64 1)) <|
       .bJ5 0 (.Z 11))) (
      .bJ3 (.ar .add .i64) (.bJ4 tI tI (.Z 2) (.ci .i64 1)) <|
      .bJ5 0 (.Z 8))))) (
   .ret (.cb true))
theorem aQ7:bV Tryz.prog [gI,fP] nR false 3000 ⟨[(2993,1002,[.tm 7 0])],[]⟩ = .ok wP:=by kernel_rfl
theorem aQ6 (x:List (Int × (cQ × Bool))) (hx:okD (.slice 79 (.bJ2 tI (.bJ2 aC .bool))) x) (hp:(fun x=>∃ n:Nat,n≤4∧sZ n x) x):wP.wp [gI,fP] [⟨(.slice 79 (.bJ2 tI (.bJ2 aC .bool))),x⟩] [] (fun v=>v.as .bool=(fun _=>true) x):=by
 obtain ⟨N,hN,hO⟩:∃ n:Nat,n≤4∧sZ n x:=hp
 change List kS at x
 have hm:=aLY (show List.length x≤maxLen from hx.1)
 delta wP gI fP;refine eE ?_
 refine eL ?_
 refine fun _=>fC (fun k=>(k:Int)) x.length rfl fun I μ k hk _ go=>?_
 try dsimp only
 try refine eL ?_
 refine ⟨fun hlt=>?_,fun hge=>trivial⟩
 have hk':k<x.length:=by omega
 have hA:=hO k hk'
 simp only[bD hk',Int.toNat_natCast]
 generalize x[k]=y at hA ⊢
 have g1:y.2.2=true→y.2.1.1=1→mH (List.drop 0 (x.take k)) y 3=true:=fun h1 h2=>aLD ((hA h1).2.1 h2).2
 have g4:y.2.2=true→y.2.1.1=4→jT (List.drop 0 (x.take k)) y 7=true:=fun h1 h2=>aGY ((hA h1).2.2.1 h2).2
 (repeat' first|intro _|(refine go2 _ ?_ ?_ ?_)|(refine go2 _ ?_ ?_)|(refine go _ ?_ ?_ ?_)|(refine go _ ?_ ?_)|(with_reducible apply And.intro))
 all_goals first|omega|exact Bool.noConfusion ((g1 (by assumption) (by assumption)).symm.trans (by assumption))|exact Bool.noConfusion ((g4 (by assumption) (by assumption)).symm.trans (by assumption))|rfl|skip
theorem aOV:Con.Holds Tryz.prog nR:=aV aX (aG aD0 (aG aA6 aT)) aQ7 aQ6
def nO:Con:=⟨15,(.bJ2 (.slice 79 (.bJ2 tI (.bJ2 aC .bool))) tI),.bool,[.val ⟨false,(.slice 79 (.bJ2 tI (.bJ2 aC .bool))),[]⟩,.val ⟨false,tI,[]⟩],[⟨false,.bool,[0]⟩],false,none,
 ((fun x=>∃ n:Nat,n≤4∧x.2=(n:Int)∧sZ n x.1):((List (Int × (cQ × Bool))) × Int)→Prop),
 ((fun _=>true):((List (Int × (cQ × Bool))) × Int)→(Bool))⟩
def yK:T :=
 .bJ3 (.bJ6 79 (.bJ2 tI (.bJ2 aC .bool))) (.p1 (.slice 79 (.bJ2 tI (.bJ2 aC .bool))) tI (.Z 0)) <|
 .loop tI (.ci .i64 0) <|
  .bJ3 (.cmp .lss .i64) (.bJ4 tI tI (.Z 2) (.Z 1)) <|
  .ite (.Z 3) (
   .bJ3 (.bJ7 79 (.bJ2 tI (.bJ2 aC .bool))) (.bJ4 (.slice 79 (.bJ2 tI (.bJ2 aC .bool))) tI (.p1 (.slice 79 (.bJ2 tI (.bJ2 aC .bool))) tI (.Z 0)) (.Z 2)) <|
   .bJ3 .not (aR (.bJ2 tI (.bJ2 aC .bool)) 2 (.Z 4)) <|
   .ite (.Z 5) (
    .bJ3 (.ar .add .i64) (.bJ4 tI tI (.Z 2) (.ci .i64 1)) <|
    .bJ5 0 (.Z 6)) (
    .bJ3 (.cmp .eql .i64) (.bJ4 tI tI (.p1 tI tI (aJ (.bJ2 tI (.bJ2 aC .bool)) 1 (.Z 4))) (.ci .i64 2)) <|
    .ite (.Z 6) (
     .bJ3 (.cmp .gtr .i64) (.bJ4 tI tI (.p1 tI (.bJ2 aC .bool) (.Z 4)) (.ci .i64 0)) <|
     .ite (.Z 7) (
      .bJ3 (.bJ8 79 (.bJ2 tI (.bJ2 aC .bool))) (bJ (.bJ2 (.slice 79 (.bJ2 tI (.bJ2 aC .bool))) aC) [(.p1 (.slice 79 (.bJ2 tI (.bJ2 aC .bool))) tI (.Z 0)),(.ci .i64 0),(.Z 2)]) <|
      .call 0 (bJ (.bJ2 (.slice 79 (.bJ2 tI (.bJ2 aC .bool))) (.bJ2 (.bJ2 tI (.bJ2 aC .bool)) tI)) [(.Z 8),(.Z 4),(.ci .i64 2)]) <|
      .bJ3 .not (.Z 9) <|
      .ite (.Z 10) (
       .ret (.cb false)) (
       .bJ3 (.cmp .eql .i64) (.bJ4 tI tI (.p1 tI tI (aJ (.bJ2 tI (.bJ2 aC .bool)) 1 (.Z 4))) (.ci .i64 6)) <|
       .ite (.Z 11) (
        .bJ3 (.cmp .lss .i64) (.bJ4 tI tI (.p1 tI (.bJ2 aC .bool) (.Z 4)) (aR (.bJ2 (.slice 79 (.bJ2 tI (.bJ2 aC .bool))) tI) 1 (.Z 0))) <|
        .ite (.Z 12) (
         .bJ3 (.ar .add .i64) (.bJ4 tI tI (.p1 tI (.bJ2 aC .bool) (.Z 4)) (.ci .i64 1)) <|
         .bJ3 (.cmp .lss .i64) (.bJ4 tI tI (.Z 13) (aR (.bJ2 (.slice 79 (.bJ2 tI (.bJ2 aC .bool))) tI) 1 (.Z 0))) <|
         .ite (.Z 14) (
          .bJ3 (.bJ8 79 (.bJ2 tI (.bJ2 aC .bool))) (bJ (.bJ2 (.slice 79 (.bJ2 tI (.bJ2 aC .bool))) aC) [(.p1 (.slice 79 (.bJ2 tI (.bJ2 aC .bool))) tI (.Z 0)),(.ci .i64 0),(.Z 2)]) <|
          .call 1 (bJ (.bJ2 (.slice 79 (.bJ2 tI (.bJ2 aC .bool))) (.bJ2 (.bJ2 tI (.bJ2 aC .bool)) tI)) [(.Z 15),(.Z 4),(.ci .i64 6)]) <|
          .bJ3 .not (.Z 16) <|
          .ite (.Z 17) (
           .ret (.cb false)) (
           .bJ3 (.ar .add .i64) (.bJ4 tI tI (.Z 2) (.ci .i64 1)) <|
           .bJ5 0 (.Z 18))) (
          .bJ3 (.ar .add .i64) (.bJ4 tI tI (.Z 2) (.ci .i64 1)) <|
          .bJ5 0 (.Z 15))) (
         .bJ3 (.ar .add .i64) (.bJ4 tI tI (.Z 2) (.ci .i64 1)) <|
         .bJ5 0 (.Z 13))) (
        .bJ3 (.ar .add .i64) (.bJ4 tI tI (.Z 2) (.ci .i64 1)) <|
        .bJ5 0 (.Z 12)))) (
      .bJ3 (.cmp .eql .i64) (.bJ4 tI tI (.p1 tI tI (aJ (.bJ2 tI (.bJ2 aC .bool)) 1 (.Z 4))) (.ci .i64 6)) <|
      .ite (.Z 8) (
       .bJ3 (.cmp .lss .i64) (.bJ4 tI tI (.p1 tI (.bJ2 aC .bool) (.Z 4)) (aR (.bJ2 (.slice 79 (.bJ2 tI (.bJ2 aC .bool))) tI) 1 (.Z 0))) <|
       .ite (.Z 9) (
        .bJ3 (.ar .add .i64) (.bJ4 tI tI (.p1 tI (.bJ2 aC .bool) (.Z 4)) (.ci .i64 1)) <|
        .bJ3 (.cmp .lss .i64) (.bJ4 tI tI (.Z 10) (aR (.bJ2 (.slice 79 (.bJ2 tI (.bJ2 aC .bool))) tI) 1 (.Z 0))) <|
        .ite (.Z 11) (
         .bJ3 (.bJ8 79 (.bJ2 tI (.bJ2 aC .bool))) (bJ (.bJ2 (.slice 79 (.bJ2 tI (.bJ2 aC .bool))) aC) [(.p1 (.slice 79 (.bJ2 tI (.bJ2 aC .bool))) tI (.Z 0)),(.ci .i64 0),(.Z 2)]) <|
         .call 1 (bJ (.bJ2 (.slice 79 (.bJ2 tI (.bJ2 aC .bool))) (.bJ2 (.bJ2 tI (.bJ2 aC .bool)) tI)) [(.Z 12),(.Z 4),(.ci .i64 6)]) <|
         .bJ3 .not (.Z 13) <|
         .ite (.Z 14) (
          .ret (.cb false)) (
          .bJ3 (.ar .add .i64) (.bJ4 tI tI (.Z 2) (.ci .i64 1)) <|
          .bJ5 0 (.Z 15))) (
         .bJ3 (.ar .add .i64) (.bJ4 tI tI (.Z 2) (.ci .i64 1)) <|
         .bJ5 0 (.Z 12))) (
        .bJ3 (.ar .add .i64) (.bJ4 tI tI (.Z 2) (.ci .i64 1)) <|
        .bJ5 0 (.Z 10))) (
       .bJ3 (.ar .add .i64) (.bJ4 tI tI (.Z 2) (.ci .i64 1)) <|
       .bJ5 0 (.Z 9)))) (
     .bJ3 (.cmp .eql .i64) (.bJ4 tI tI (.p1 tI tI (aJ (.bJ2 tI (.bJ2 aC .bool)) 1 (.Z 4))) (.ci .i64 6)) <|
     .ite (.Z 7) (
      .bJ3 (.cmp .lss .i64) (.bJ4 tI tI (.p1 tI (.bJ2 aC .bool) (.Z 4)) (aR (.bJ2 (.slice 79 (.bJ2 tI (.bJ2 aC .bool))) tI) 1 (.Z 0))) <|
      .ite (.Z 8) (
       .bJ3 (.ar .add .i64) (.bJ4 tI tI (.p1 tI (.bJ2 aC .bool) (.Z 4)) (.ci .i64 1)) <|
       .bJ3 (.cmp .lss .i64) (.bJ4 tI tI (.Z 9) (aR (.bJ2 (.slice 79 (.bJ2 tI (.bJ2 aC .bool))) tI) 1 (.Z 0))) <|
       .ite (.Z 10) (
        .bJ3 (.bJ8 79 (.bJ2 tI (.bJ2 aC .bool))) (bJ (.bJ2 (.slice 79 (.bJ2 tI (.bJ2 aC .bool))) aC) [(.p1 (.slice 79 (.bJ2 tI (.bJ2 aC .bool))) tI (.Z 0)),(.ci .i64 0),(.Z 2)]) <|
        .call 1 (bJ (.bJ2 (.slice 79 (.bJ2 tI (.bJ2 aC .bool))) (.bJ2 (.bJ2 tI (.bJ2 aC .bool)) tI)) [(.Z 11),(.Z 4),(.ci .i64 6)]) <|
        .bJ3 .not (.Z 12) <|
        .ite (.Z 13) (
         .ret (.cb false)) (
         .bJ3 (.ar .add .i64) (.bJ4 tI tI (.Z 2) (.ci .i64 1)) <|
         .bJ5 0 (.Z 14))) (
        .bJ3 (.ar .add .i64) (.bJ4 tI tI (.Z 2) (.ci .i64 1)) <|
        .bJ5 0 (.Z 11))) (
       .bJ3 (.ar .add .i64) (.bJ4 tI tI (.Z 2) (.ci .i64 1)) <|
       .bJ5 0 (.Z 9))) (
      .bJ3 (.ar .add .i64) (.bJ4 tI tI (.Z 2) (.ci .i64 1)) <|
      .bJ5 0 (.Z 8))))) (
   .ret (.cb true))
theorem aOG:bV Tryz.prog [gI,fP] nO false 3000 ⟨[(2993,1002,[.tm 9 0])],[]⟩ = .ok yK:=by kernel_rfl
theorem aRD (x:(List (Int × (cQ × Bool))) × Int) (hx:okD (.bJ2 (.slice 79 (.bJ2 tI (.bJ2 aC .bool))) tI) x) (hp:(fun x=>∃ n:Nat,n≤4∧x.2=(n:Int)∧sZ n x.1) x):yK.wp [gI,fP] [⟨(.bJ2 (.slice 79 (.bJ2 tI (.bJ2 aC .bool))) tI),x⟩] [] (fun v=>v.as .bool=(fun _=>true) x):=by
 obtain ⟨x,n⟩:=x
 obtain ⟨N,hN,hn,hO⟩:∃ N:Nat,N≤4∧n=(N:Int)∧sZ N x:=hp
 subst hn
 change List kS at x
 have hm:=aLY (show List.length x≤maxLen from hx.1.1)
 have hel:=hx.1.2
 delta yK gI fP;refine eE ?_
 refine eL ?_
 refine fun _=>fC (fun k=>(k:Int)) x.length rfl fun I μ k hk _ go=>?_
 try dsimp only
 try refine eL ?_
 refine ⟨fun hlt=>?_,fun hge=>trivial⟩
 have hk':k<x.length:=by omega
 have hA:=hO k hk'
 have hy:-9223372036854775808≤((x[k]).1:Int)∧((x[k]).1:Int)≤9223372036854775807:=(hel _ (List.getElem_mem hk')).1
 simp only[bD hk',Int.toNat_natCast]
 generalize x[k]=y at hA hy ⊢
 have g2:y.2.2=true→y.2.1.1=2→0<y.1→mH (List.drop 0 (x.take k)) y 2=true:=fun h1 h2 h3=>aLD ((hA h1).2.2.2.1 h2 h3)
 have g6:y.2.2=true→y.2.1.1=6→y.1+1<(N:Int)→jT (List.drop 0 (x.take k)) y 6=true:=fun h1 h2 h3=>aGY ((hA h1).2.2.2.2 h2 h3)
 (repeat' first|intro _|(refine go2 _ ?_ ?_ ?_)|(refine go2 _ ?_ ?_)|(refine go _ ?_ ?_ ?_)|(refine go _ ?_ ?_)|(with_reducible apply And.intro))
 all_goals first|omega|exact Bool.noConfusion ((g2 (by assumption) (by assumption) (by assumption)).symm.trans (by assumption))|exact Bool.noConfusion ((g6 (by assumption) (by assumption) (by assumption)).symm.trans (by assumption))|rfl|skip
theorem aQF:Con.Holds Tryz.prog nO:=aV aX (aG aD0 (aG aA6 aT)) aOG aRD
def fO:Con:=⟨34,(.bJ2 (.slice 79 (.bJ2 tI (.bJ2 aC .bool))) (.bJ2 tI (.bJ2 tI aC))),.bool,[.val ⟨false,(.slice 79 (.bJ2 tI (.bJ2 aC .bool))),[]⟩,.val ⟨false,tI,[]⟩,.val ⟨false,tI,[]⟩,.val ⟨false,tI,[]⟩,.val ⟨false,tI,[]⟩],[⟨false,.bool,[0]⟩],false,none,
 ((fun x=>0≤x.2.1∧x.2.1≤(List.length x.1:Int)):((List (Int × (cQ × Bool))) × (Int × (Int × cQ)))→Prop),
 ((fun x=>gP (List.take x.2.1.toNat x.1) x.2.2.1 x.2.2.2.1 x.2.2.2.2):((List (Int × (cQ × Bool))) × (Int × (Int × cQ)))→(Bool))⟩
def rN:T:=.loop tI (.ci .i64 0) <|
 .bJ3 (.cmp .lss .i64) (.bJ4 tI tI (.Z 1) (aJ (.bJ2 (.slice 79 (.bJ2 tI (.bJ2 aC .bool))) (.bJ2 tI (.bJ2 tI aC))) 1 (.Z 0))) <|
 .ite (.Z 2) (
  .bJ3 (.bJ7 79 (.bJ2 tI (.bJ2 aC .bool))) (.bJ4 (.slice 79 (.bJ2 tI (.bJ2 aC .bool))) tI (.p1 (.slice 79 (.bJ2 tI (.bJ2 aC .bool))) (.bJ2 tI (.bJ2 tI aC)) (.Z 0)) (.Z 1)) <|
  .ite (aR (.bJ2 tI (.bJ2 aC .bool)) 2 (.Z 3)) (
   .bJ3 (.bJ7 79 (.bJ2 tI (.bJ2 aC .bool))) (.bJ4 (.slice 79 (.bJ2 tI (.bJ2 aC .bool))) tI (.p1 (.slice 79 (.bJ2 tI (.bJ2 aC .bool))) (.bJ2 tI (.bJ2 tI aC)) (.Z 0)) (.Z 1)) <|
   .bJ3 (.cmp .eql .i64) (.bJ4 tI tI (.p1 tI (.bJ2 aC .bool) (.Z 4)) (aJ (.bJ2 (.slice 79 (.bJ2 tI (.bJ2 aC .bool))) (.bJ2 tI (.bJ2 tI aC))) 2 (.Z 0))) <|
   .ite (.Z 5) (
    .bJ3 (.bJ7 79 (.bJ2 tI (.bJ2 aC .bool))) (.bJ4 (.slice 79 (.bJ2 tI (.bJ2 aC .bool))) tI (.p1 (.slice 79 (.bJ2 tI (.bJ2 aC .bool))) (.bJ2 tI (.bJ2 tI aC)) (.Z 0)) (.Z 1)) <|
    .bJ3 (.cmp .eql .i64) (.bJ4 tI tI (.p1 tI tI (aJ (.bJ2 tI (.bJ2 aC .bool)) 1 (.Z 6))) (aJ (.bJ2 (.slice 79 (.bJ2 tI (.bJ2 aC .bool))) (.bJ2 tI (.bJ2 tI aC))) 3 (.Z 0))) <|
    .ite (.Z 7) (
     .bJ3 (.bJ7 79 (.bJ2 tI (.bJ2 aC .bool))) (.bJ4 (.slice 79 (.bJ2 tI (.bJ2 aC .bool))) tI (.p1 (.slice 79 (.bJ2 tI (.bJ2 aC .bool))) (.bJ2 tI (.bJ2 tI aC)) (.Z 0)) (.Z 1)) <|
     .bJ3 (.cmp .eql .i64) (.bJ4 tI tI (aR aC 1 (aJ (.bJ2 tI (.bJ2 aC .bool)) 1 (.Z 8))) (aR (.bJ2 (.slice 79 (.bJ2 tI (.bJ2 aC .bool))) (.bJ2 tI (.bJ2 tI aC))) 4 (.Z 0))) <|
     .ite (.Z 9) (
      .ret (.cb true)) (
      .bJ3 (.ar .add .i64) (.bJ4 tI tI (.Z 1) (.ci .i64 1)) <|
      .bJ5 0 (.Z 10))) (
     .bJ3 (.ar .add .i64) (.bJ4 tI tI (.Z 1) (.ci .i64 1)) <|
     .bJ5 0 (.Z 8))) (
    .bJ3 (.ar .add .i64) (.bJ4 tI tI (.Z 1) (.ci .i64 1)) <|
    .bJ5 0 (.Z 6))) (
   .bJ3 (.ar .add .i64) (.bJ4 tI tI (.Z 1) (.ci .i64 1)) <|
   .bJ5 0 (.Z 4))) (
  .ret (.cb false))
theorem aJX:bV Tryz.prog [] fO false 3000 ⟨[(2993,1001,[.tm 11 0])],[]⟩ = .ok rN:=by kernel_rfl
theorem aK4 (x:(List (Int × (cQ × Bool))) × (Int × (Int × cQ))) (hx:okD (.bJ2 (.slice 79 (.bJ2 tI (.bJ2 aC .bool))) (.bJ2 tI (.bJ2 tI aC))) x) (hp:(fun x=>0≤x.2.1∧x.2.1≤(List.length x.1:Int)) x):rN.wp [] [⟨(.bJ2 (.slice 79 (.bJ2 tI (.bJ2 aC .bool))) (.bJ2 tI (.bJ2 tI aC))),x⟩] [] (fun v=>v.as .bool=(fun x=>gP (List.take x.2.1.toNat x.1) x.2.2.1 x.2.2.2.1 x.2.2.2.2) x):=by
 obtain ⟨l,e,s,κ,m⟩:=x
 change List kS at l
 have hm:=aLY (show List.length l≤maxLen from hx.1.1)
 obtain ⟨he0,he1⟩:0≤e∧e≤(List.length l:Int):=hp
 obtain ⟨E,rfl⟩:∃ E:Nat,e=(E:Int):=⟨e.toNat,by omega⟩
 delta rN;refine eE ?_
 refine eL ?_
 refine ⟨fun t=>∃ k:Nat,k≤E∧t=(k:Int)∧gP (l.take k) s κ m=false,fun t=>E - (t:Int).toNat,⟨0,Nat.zero_le _,rfl,rfl⟩,fun t _ hI=>?_⟩
 obtain ⟨k,hk,rfl,ha⟩:=hI
 try dsimp only
 try refine eL ?_
 refine ⟨fun hlt=>?_,fun hge=>?_⟩
 ·have hk':k<l.length:=by omega
  have hkE:k<E:=by omega
  have e:gP (l.take (k+1)) s κ m=(gP (l.take k) s κ m || ((l[k]).2.2&&(decide ((l[k]).1=s)&&decide ((l[k]).2.1=(κ,m))))):=aHC hk'
  have hh:((l[k]).2.2&&(decide ((l[k]).1=s)&&decide ((l[k]).2.1=(κ,m))))=true→true=gP (List.take ((E:Int)).toNat l) s κ m:=fun h=>by
   rw[Int.toNat_natCast]
   exact (List.any_eq_true.2 ⟨l[k],List.mem_take_iff_getElem.2 ⟨k,by omega,rfl⟩,h⟩).symm
  rw[ha,Bool.false_or] at e
  simp only[bD hk']
  generalize l[k]=y at e hh ⊢
  have f0:y.2.2=true→y.1=s→y.2.1.1=κ→y.2.1.2=m→true=gP (List.take ((E:Int)).toNat l) s κ m:=fun h1 h2 h3 h4=>hh (by
   rw[h1,decide_eq_true h2,decide_eq_true (show y.2.1=(κ,m) from Prod.ext h3 h4)];rfl)
  have f1:y.2.2=false→gP (l.take (k+1)) s κ m=false:=fun h=>by rw[e,h];rfl
  have f2:¬ y.1=s→gP (l.take (k+1)) s κ m=false:=fun h=>by rw[e,decide_eq_false h,Bool.false_and,Bool.and_false]
  have f3:¬ y.2.1.1=κ→gP (l.take (k+1)) s κ m=false:=fun h=>by rw[e,decide_eq_false (show ¬ y.2.1=(κ,m) from fun hh=>h (by rw[hh])),Bool.and_false,Bool.and_false]
  have f4:¬ y.2.1.2=m→gP (l.take (k+1)) s κ m=false:=fun h=>by rw[e,decide_eq_false (show ¬ y.2.1=(κ,m) from fun hh=>h (by rw[hh])),Bool.and_false,Bool.and_false]
  (repeat' first|intro _|(with_reducible apply And.intro))
  all_goals first|omega|exact f0 (by assumption) (by assumption) (by assumption) (by assumption)|exact ⟨k+1,by omega,rfl,f1 (by assumption)⟩|exact ⟨k+1,by omega,rfl,f2 (by assumption)⟩|exact ⟨k+1,by omega,rfl,f3 (by assumption)⟩|exact ⟨k+1,by omega,rfl,f4 (by assumption)⟩|skip
 ·have:k=E:=by omega
  subst this
  first|exact ha.symm|(rw[Int.toNat_natCast];exact ha.symm)
theorem aA0:Con.Holds Tryz.prog fO:=aV aX aT aJX aK4
def nA:Con:=⟨12,(.slice 79 (.bJ2 tI (.bJ2 aC .bool))),.bool,[.val ⟨false,(.slice 79 (.bJ2 tI (.bJ2 aC .bool))),[]⟩],[⟨false,.bool,[0]⟩],false,none,
 ((fun x=>∃ n:Nat,n≤4∧sZ n x):(List (Int × (cQ × Bool)))→Prop),
 ((fun _=>true):(List (Int × (cQ × Bool)))→(Bool))⟩
def xM:T:=.loop tI (.ci .i64 0) <|
 .bJ3 (.bJ6 79 (.bJ2 tI (.bJ2 aC .bool))) (.Z 0) <|
 .bJ3 (.cmp .lss .i64) (.bJ4 tI tI (.Z 1) (.Z 2)) <|
 .ite (.Z 3) (
  .bJ3 (.bJ7 79 (.bJ2 tI (.bJ2 aC .bool))) (.bJ4 (.slice 79 (.bJ2 tI (.bJ2 aC .bool))) tI (.Z 0) (.Z 1)) <|
  .bJ3 .not (aR (.bJ2 tI (.bJ2 aC .bool)) 2 (.Z 4)) <|
  .ite (.Z 5) (
   .bJ3 (.ar .add .i64) (.bJ4 tI tI (.Z 1) (.ci .i64 1)) <|
   .bJ5 0 (.Z 6)) (
   .bJ3 (.bJ7 79 (.bJ2 tI (.bJ2 aC .bool))) (.bJ4 (.slice 79 (.bJ2 tI (.bJ2 aC .bool))) tI (.Z 0) (.Z 1)) <|
   .bJ3 (.cmp .eql .i64) (.bJ4 tI tI (.p1 tI tI (aJ (.bJ2 tI (.bJ2 aC .bool)) 1 (.Z 6))) (.ci .i64 1)) <|
   .ite (.Z 7) (
    .bJ3 (.bJ7 79 (.bJ2 tI (.bJ2 aC .bool))) (.bJ4 (.slice 79 (.bJ2 tI (.bJ2 aC .bool))) tI (.Z 0) (.Z 1)) <|
    .bJ3 (.ar .sub .i64) (.bJ4 tI tI (.p1 tI (.bJ2 aC .bool) (.Z 8)) (.ci .i64 1)) <|
    .bJ3 (.bJ7 79 (.bJ2 tI (.bJ2 aC .bool))) (.bJ4 (.slice 79 (.bJ2 tI (.bJ2 aC .bool))) tI (.Z 0) (.Z 1)) <|
    .call 0 (bJ (.bJ2 (.slice 79 (.bJ2 tI (.bJ2 aC .bool))) (.bJ2 tI (.bJ2 tI aC))) [(.Z 0),(.Z 1),(.Z 9),(.ci .i64 3),(aR aC 1 (aJ (.bJ2 tI (.bJ2 aC .bool)) 1 (.Z 10)))]) <|
    .bJ3 .not (.Z 11) <|
    .ite (.Z 12) (
     .ret (.cb false)) (
     .bJ3 (.ar .add .i64) (.bJ4 tI tI (.Z 1) (.ci .i64 1)) <|
     .bJ5 0 (.Z 13))) (
    .bJ3 (.cmp .eql .i64) (.bJ4 tI tI (.p1 tI tI (aJ (.bJ2 tI (.bJ2 aC .bool)) 1 (.Z 6))) (.ci .i64 4)) <|
    .ite (.Z 8) (
     .bJ3 (.bJ7 79 (.bJ2 tI (.bJ2 aC .bool))) (.bJ4 (.slice 79 (.bJ2 tI (.bJ2 aC .bool))) tI (.Z 0) (.Z 1)) <|
     .bJ3 (.ar .add .i64) (.bJ4 tI tI (.p1 tI (.bJ2 aC .bool) (.Z 9)) (.ci .i64 1)) <|
     .bJ3 (.bJ7 79 (.bJ2 tI (.bJ2 aC .bool))) (.bJ4 (.slice 79 (.bJ2 tI (.bJ2 aC .bool))) tI (.Z 0) (.Z 1)) <|
     .call 0 (bJ (.bJ2 (.slice 79 (.bJ2 tI (.bJ2 aC .bool))) (.bJ2 tI (.bJ2 tI aC))) [(.Z 0),(.Z 1),(.Z 10),(.ci .i64 7),(aR aC 1 (aJ (.bJ2 tI (.bJ2 aC .bool)) 1 (.Z 11)))]) <|
     .bJ3 .not (.Z 12) <|
     .ite (.Z 13) (
      .ret (.cb false)) (
      .bJ3 (.ar .add .i64) (.bJ4 tI tI (.Z 1) (.ci .i64 1)) <|
      .bJ5 0 (.Z 14))) (
     .bJ3 (.ar .add .i64) (.bJ4 tI tI (.Z 1) (.ci .i64 1)) <|
     .bJ5 0 (.Z 9))))) (
  .ret (.cb true))
theorem aR6:bV Tryz.prog [fO] nA false 3000 ⟨[(2993,1001,[.tm 3 0])],[]⟩ = .ok xM:=by kernel_rfl
theorem aRP (x:List (Int × (cQ × Bool))) (hx:okD (.slice 79 (.bJ2 tI (.bJ2 aC .bool))) x) (hp:(fun x=>∃ n:Nat,n≤4∧sZ n x) x):xM.wp [fO] [⟨(.slice 79 (.bJ2 tI (.bJ2 aC .bool))),x⟩] [] (fun v=>v.as .bool=(fun _=>true) x):=by
 obtain ⟨N,hN,hO⟩:∃ n:Nat,n≤4∧sZ n x:=hp
 change List kS at x
 have hm:=aLY (show List.length x≤maxLen from hx.1)
 delta xM fO;refine eE ?_
 refine eL ?_
 refine fC (fun k=>(k:Int)) x.length rfl fun I μ k hk _ go=>?_
 try dsimp only
 try refine eL ?_
 refine fun _=>⟨fun hlt=>?_,fun hge=>trivial⟩
 have hk':k<x.length:=by omega
 have hA:=hO k hk'
 simp only[bD hk',Int.toNat_natCast]
 generalize x[k]=y at hA ⊢
 have g1:y.2.2=true→y.2.1.1=1→gP (x.take k) (y.1 - 1) 3 y.2.1.2=true:=fun h1 h2=>uF ((hA h1).2.1 h2).2
 have g4:y.2.2=true→y.2.1.1=4→gP (x.take k) (y.1+1) 7 y.2.1.2=true:=fun h1 h2=>uF ((hA h1).2.2.1 h2).2
 have r0:y.2.2=true→0≤y.1∧y.1<(N:Int):=fun h=>(hA h).1
 (repeat' first|intro _|(refine go2 _ ?_ ?_ ?_)|(refine go2 _ ?_ ?_)|(refine go _ ?_ ?_ ?_)|(refine go _ ?_ ?_)|(with_reducible apply And.intro))
 all_goals first|omega|(have r1:=r0 (by assumption);omega)|exact Bool.noConfusion ((g1 (by assumption) (by assumption)).symm.trans (by assumption))|exact Bool.noConfusion ((g4 (by assumption) (by assumption)).symm.trans (by assumption))|rfl|skip
theorem aRO:Con.Holds Tryz.prog nA:=aV aX (aG aA0 aT) aR6 aRP
def nE:Con:=⟨14,(.bJ2 (.slice 79 (.bJ2 tI (.bJ2 aC .bool))) tI),.bool,[.val ⟨false,(.slice 79 (.bJ2 tI (.bJ2 aC .bool))),[]⟩,.val ⟨false,tI,[]⟩],[⟨false,.bool,[0]⟩],false,none,
 ((fun x=>∃ n:Nat,n≤4∧x.2=(n:Int)∧sZ n x.1):((List (Int × (cQ × Bool))) × Int)→Prop),
 ((fun _=>true):((List (Int × (cQ × Bool))) × Int)→(Bool))⟩
def xK:T:=.loop tI (.ci .i64 0) <|
 .bJ3 (.bJ6 79 (.bJ2 tI (.bJ2 aC .bool))) (.p1 (.slice 79 (.bJ2 tI (.bJ2 aC .bool))) tI (.Z 0)) <|
 .bJ3 (.cmp .lss .i64) (.bJ4 tI tI (.Z 1) (.Z 2)) <|
 .ite (.Z 3) (
  .bJ3 (.bJ7 79 (.bJ2 tI (.bJ2 aC .bool))) (.bJ4 (.slice 79 (.bJ2 tI (.bJ2 aC .bool))) tI (.p1 (.slice 79 (.bJ2 tI (.bJ2 aC .bool))) tI (.Z 0)) (.Z 1)) <|
  .bJ3 .not (aR (.bJ2 tI (.bJ2 aC .bool)) 2 (.Z 4)) <|
  .ite (.Z 5) (
   .bJ3 (.ar .add .i64) (.bJ4 tI tI (.Z 1) (.ci .i64 1)) <|
   .bJ5 0 (.Z 6)) (
   .bJ3 (.bJ7 79 (.bJ2 tI (.bJ2 aC .bool))) (.bJ4 (.slice 79 (.bJ2 tI (.bJ2 aC .bool))) tI (.p1 (.slice 79 (.bJ2 tI (.bJ2 aC .bool))) tI (.Z 0)) (.Z 1)) <|
   .bJ3 (.bJ7 79 (.bJ2 tI (.bJ2 aC .bool))) (.bJ4 (.slice 79 (.bJ2 tI (.bJ2 aC .bool))) tI (.p1 (.slice 79 (.bJ2 tI (.bJ2 aC .bool))) tI (.Z 0)) (.Z 1)) <|
   .bJ3 (.cmp .eql .i64) (.bJ4 tI tI (.p1 tI tI (aJ (.bJ2 tI (.bJ2 aC .bool)) 1 (.Z 7))) (.ci .i64 2)) <|
   .ite (.Z 8) (
    .bJ3 (.cmp .gtr .i64) (.bJ4 tI tI (.p1 tI (.bJ2 aC .bool) (.Z 6)) (.ci .i64 0)) <|
    .ite (.Z 9) (
     .bJ3 (.ar .sub .i64) (.bJ4 tI tI (.p1 tI (.bJ2 aC .bool) (.Z 6)) (.ci .i64 1)) <|
     .bJ3 (.bJ7 79 (.bJ2 tI (.bJ2 aC .bool))) (.bJ4 (.slice 79 (.bJ2 tI (.bJ2 aC .bool))) tI (.p1 (.slice 79 (.bJ2 tI (.bJ2 aC .bool))) tI (.Z 0)) (.Z 1)) <|
     .call 0 (bJ (.bJ2 (.slice 79 (.bJ2 tI (.bJ2 aC .bool))) (.bJ2 tI (.bJ2 tI aC))) [(.p1 (.slice 79 (.bJ2 tI (.bJ2 aC .bool))) tI (.Z 0)),(.Z 1),(.Z 10),(.ci .i64 2),(aR aC 1 (aJ (.bJ2 tI (.bJ2 aC .bool)) 1 (.Z 11)))]) <|
     .bJ3 .not (.Z 12) <|
     .ite (.Z 13) (
      .ret (.cb false)) (
      .bJ3 (.bJ7 79 (.bJ2 tI (.bJ2 aC .bool))) (.bJ4 (.slice 79 (.bJ2 tI (.bJ2 aC .bool))) tI (.p1 (.slice 79 (.bJ2 tI (.bJ2 aC .bool))) tI (.Z 0)) (.Z 1)) <|
      .bJ3 (.cmp .eql .i64) (.bJ4 tI tI (.p1 tI tI (aJ (.bJ2 tI (.bJ2 aC .bool)) 1 (.Z 14))) (.ci .i64 6)) <|
      .ite (.Z 15) (
       .bJ3 (.cmp .lss .i64) (.bJ4 tI tI (.p1 tI (.bJ2 aC .bool) (.Z 6)) (aR (.bJ2 (.slice 79 (.bJ2 tI (.bJ2 aC .bool))) tI) 1 (.Z 0))) <|
       .ite (.Z 16) (
        .bJ3 (.ar .add .i64) (.bJ4 tI tI (.p1 tI (.bJ2 aC .bool) (.Z 6)) (.ci .i64 1)) <|
        .bJ3 (.cmp .lss .i64) (.bJ4 tI tI (.Z 17) (aR (.bJ2 (.slice 79 (.bJ2 tI (.bJ2 aC .bool))) tI) 1 (.Z 0))) <|
        .ite (.Z 18) (
         .bJ3 (.ar .add .i64) (.bJ4 tI tI (.p1 tI (.bJ2 aC .bool) (.Z 6)) (.ci .i64 1)) <|
         .bJ3 (.bJ7 79 (.bJ2 tI (.bJ2 aC .bool))) (.bJ4 (.slice 79 (.bJ2 tI (.bJ2 aC .bool))) tI (.p1 (.slice 79 (.bJ2 tI (.bJ2 aC .bool))) tI (.Z 0)) (.Z 1)) <|
         .call 0 (bJ (.bJ2 (.slice 79 (.bJ2 tI (.bJ2 aC .bool))) (.bJ2 tI (.bJ2 tI aC))) [(.p1 (.slice 79 (.bJ2 tI (.bJ2 aC .bool))) tI (.Z 0)),(.Z 1),(.Z 19),(.ci .i64 6),(aR aC 1 (aJ (.bJ2 tI (.bJ2 aC .bool)) 1 (.Z 20)))]) <|
         .bJ3 .not (.Z 21) <|
         .ite (.Z 22) (
          .ret (.cb false)) (
          .bJ3 (.ar .add .i64) (.bJ4 tI tI (.Z 1) (.ci .i64 1)) <|
          .bJ5 0 (.Z 23))) (
         .bJ3 (.ar .add .i64) (.bJ4 tI tI (.Z 1) (.ci .i64 1)) <|
         .bJ5 0 (.Z 19))) (
        .bJ3 (.ar .add .i64) (.bJ4 tI tI (.Z 1) (.ci .i64 1)) <|
        .bJ5 0 (.Z 17))) (
       .bJ3 (.ar .add .i64) (.bJ4 tI tI (.Z 1) (.ci .i64 1)) <|
       .bJ5 0 (.Z 16)))) (
     .bJ3 (.bJ7 79 (.bJ2 tI (.bJ2 aC .bool))) (.bJ4 (.slice 79 (.bJ2 tI (.bJ2 aC .bool))) tI (.p1 (.slice 79 (.bJ2 tI (.bJ2 aC .bool))) tI (.Z 0)) (.Z 1)) <|
     .bJ3 (.cmp .eql .i64) (.bJ4 tI tI (.p1 tI tI (aJ (.bJ2 tI (.bJ2 aC .bool)) 1 (.Z 10))) (.ci .i64 6)) <|
     .ite (.Z 11) (
      .bJ3 (.cmp .lss .i64) (.bJ4 tI tI (.p1 tI (.bJ2 aC .bool) (.Z 6)) (aR (.bJ2 (.slice 79 (.bJ2 tI (.bJ2 aC .bool))) tI) 1 (.Z 0))) <|
      .ite (.Z 12) (
       .bJ3 (.ar .add .i64) (.bJ4 tI tI (.p1 tI (.bJ2 aC .bool) (.Z 6)) (.ci .i64 1)) <|
       .bJ3 (.cmp .lss .i64) (.bJ4 tI tI (.Z 13) (aR (.bJ2 (.slice 79 (.bJ2 tI (.bJ2 aC .bool))) tI) 1 (.Z 0))) <|
       .ite (.Z 14) (
        .bJ3 (.ar .add .i64) (.bJ4 tI tI (.p1 tI (.bJ2 aC .bool) (.Z 6)) (.ci .i64 1)) <|
        .bJ3 (.bJ7 79 (.bJ2 tI (.bJ2 aC .bool))) (.bJ4 (.slice 79 (.bJ2 tI (.bJ2 aC .bool))) tI (.p1 (.slice 79 (.bJ2 tI (.bJ2 aC .bool))) tI (.Z 0)) (.Z 1)) <|
        .call 0 (bJ (.bJ2 (.slice 79 (.bJ2 tI (.bJ2 aC .bool))) (.bJ2 tI (.bJ2 tI aC))) [(.p1 (.slice 79 (.bJ2 tI (.bJ2 aC .bool))) tI (.Z 0)),(.Z 1),(.Z 15),(.ci .i64 6),(aR aC 1 (aJ (.bJ2 tI (.bJ2 aC .bool)) 1 (.Z 16)))]) <|
        .bJ3 .not (.Z 17) <|
        .ite (.Z 18) (
         .ret (.cb false)) (
         .bJ3 (.ar .add .i64) (.bJ4 tI tI (.Z 1) (.ci .i64 1)) <|
         .bJ5 0 (.Z 19))) (
        .bJ3 (.ar .add .i64) (.bJ4 tI tI (.Z 1) (.ci .i64 1)) <|
        .bJ5 0 (.Z 15))) (
       .bJ3 (.ar .add .i64) (.bJ4 tI tI (.Z 1) (.ci .i64 1)) <|
       .bJ5 0 (.Z 13))) (
      .bJ3 (.ar .add .i64) (.bJ4 tI tI (.Z 1) (.ci .i64 1)) <|
      .bJ5 0 (.Z 12)))) (
    .bJ3 (.bJ7 79 (.bJ2 tI (.bJ2 aC .bool))) (.bJ4 (.slice 79 (.bJ2 tI (.bJ2 aC .bool))) tI (.p1 (.slice 79 (.bJ2 tI (.bJ2 aC .bool))) tI (.Z 0)) (.Z 1)) <|
    .bJ3 (.cmp .eql .i64) (.bJ4 tI tI (.p1 tI tI (aJ (.bJ2 tI (.bJ2 aC .bool)) 1 (.Z 9))) (.ci .i64 6)) <|
    .ite (.Z 10) (
     .bJ3 (.cmp .lss .i64) (.bJ4 tI tI (.p1 tI (.bJ2 aC .bool) (.Z 6)) (aR (.bJ2 (.slice 79 (.bJ2 tI (.bJ2 aC .bool))) tI) 1 (.Z 0))) <|
     .ite (.Z 11) (
      .bJ3 (.ar .add .i64) (.bJ4 tI tI (.p1 tI (.bJ2 aC .bool) (.Z 6)) (.ci .i64 1)) <|
      .bJ3 (.cmp .lss .i64) (.bJ4 tI tI (.Z 12) (aR (.bJ2 (.slice 79 (.bJ2 tI (.bJ2 aC .bool))) tI) 1 (.Z 0))) <|
      .ite (.Z 13) (
       .bJ3 (.ar .add .i64) (.bJ4 tI tI (.p1 tI (.bJ2 aC .bool) (.Z 6)) (.ci .i64 1)) <|
       .bJ3 (.bJ7 79 (.bJ2 tI (.bJ2 aC .bool))) (.bJ4 (.slice 79 (.bJ2 tI (.bJ2 aC .bool))) tI (.p1 (.slice 79 (.bJ2 tI (.bJ2 aC .bool))) tI (.Z 0)) (.Z 1)) <|
       .call 0 (bJ (.bJ2 (.slice 79 (.bJ2 tI (.bJ2 aC .bool))) (.bJ2 tI (.bJ2 tI aC))) [(.p1 (.slice 79 (.bJ2 tI (.bJ2 aC .bool))) tI (.Z 0)),(.Z 1),(.Z 14),(.ci .i64 6),(aR aC 1 (aJ (.bJ2 tI (.bJ2 aC .bool)) 1 (.Z 15)))]) <|
       .bJ3 .not (.Z 16) <|
       .ite (.Z 17) (
        .ret (.cb false)) (
        .bJ3 (.ar .add .i64) (.bJ4 tI tI (.Z 1) (.ci .i64 1)) <|
        .bJ5 0 (.Z 18))) (
       .bJ3 (.ar .add .i64) (.bJ4 tI tI (.Z 1) (.ci .i64 1)) <|
       .bJ5 0 (.Z 14))) (
      .bJ3 (.ar .add .i64) (.bJ4 tI tI (.Z 1) (.ci .i64 1)) <|
      .bJ5 0 (.Z 12))) (
     .bJ3 (.ar .add .i64) (.bJ4 tI tI (.Z 1) (.ci .i64 1)) <|
     .bJ5 0 (.Z 11))))) (
  .ret (.cb true))
theorem aQI:bV Tryz.prog [fO] nE false 3000 ⟨[(2993,1001,[.tm 5 0])],[]⟩ = .ok xK:=by kernel_rfl
theorem aP5 (x:(List (Int × (cQ × Bool))) × Int) (hx:okD (.bJ2 (.slice 79 (.bJ2 tI (.bJ2 aC .bool))) tI) x) (hp:(fun x=>∃ n:Nat,n≤4∧x.2=(n:Int)∧sZ n x.1) x):xK.wp [fO] [⟨(.bJ2 (.slice 79 (.bJ2 tI (.bJ2 aC .bool))) tI),x⟩] [] (fun v=>v.as .bool=(fun _=>true) x):=by
 obtain ⟨x,n⟩:=x
 obtain ⟨N,hN,hn,hO⟩:∃ N:Nat,N≤4∧n=(N:Int)∧sZ N x:=hp
 subst hn
 change List kS at x
 have hm:=aLY (show List.length x≤maxLen from hx.1.1)
 delta xK fO;refine eE ?_
 refine eL ?_
 refine fC (fun k=>(k:Int)) x.length rfl fun I μ k hk _ go=>?_
 try dsimp only
 try refine eL ?_
 refine fun _=>⟨fun hlt=>?_,fun hge=>trivial⟩
 have hk':k<x.length:=by omega
 have hA:=hO k hk'
 simp only[bD hk',Int.toNat_natCast]
 generalize x[k]=y at hA ⊢
 have g2:y.2.2=true→y.2.1.1=2→0<y.1→gP (x.take k) (y.1 - 1) 2 y.2.1.2=true:=fun h1 h2 h3=>uF ((hA h1).2.2.2.1 h2 h3)
 have g6:y.2.2=true→y.2.1.1=6→y.1+1<(N:Int)→gP (x.take k) (y.1+1) 6 y.2.1.2=true:=fun h1 h2 h3=>uF ((hA h1).2.2.2.2 h2 h3)
 have r0:y.2.2=true→0≤y.1∧y.1<(N:Int):=fun h=>(hA h).1
 (repeat' first|intro _|(refine go2 _ ?_ ?_ ?_)|(refine go2 _ ?_ ?_)|(refine go _ ?_ ?_ ?_)|(refine go _ ?_ ?_)|(with_reducible apply And.intro))
 all_goals first|omega|(have r1:=r0 (by assumption);omega)|exact Bool.noConfusion ((g2 (by assumption) (by assumption) (by assumption)).symm.trans (by assumption))|exact Bool.noConfusion ((g6 (by assumption) (by assumption) (by assumption)).symm.trans (by assumption))|rfl|skip
theorem aQ2:Con.Holds Tryz.prog nE:=aV aX (aG aA0 aT) aQI aP5
def aTM:Con:=⟨32,(.bJ2 (.slice 5 (.int .u8)) tI),tI,[.val ⟨false,(.slice 5 (.int .u8)),[]⟩,.val ⟨false,tI,[]⟩],[⟨false,tI,[0]⟩],false,none,
 ((fun x=>0≤x.2∧x.2≤1000∧x.1.length≤1048576):(bH × Int)→Prop),
 ((fun _=>aS tI):(bH × Int)→(Int))⟩
def aTV:T :=
 .bJ3 (.bJ6 5 (.int .u8)) (.p1 (.slice 5 (.int .u8)) tI (.Z 0)) <|
 .bJ3 (.cmp .lss .i64) (.bJ4 tI tI (aR (.bJ2 (.slice 5 (.int .u8)) tI) 1 (.Z 0)) (.Z 1)) <|
 .ite (.Z 2) (
  .bJ3 (.bJ7 5 (.int .u8)) (.bJ4 (.slice 5 (.int .u8)) tI (.p1 (.slice 5 (.int .u8)) tI (.Z 0)) (aR (.bJ2 (.slice 5 (.int .u8)) tI) 1 (.Z 0))) <|
  .bJ3 (.conv .u8 .i64) (.Z 3) <|
  .ret (.Z 4)) (
  .bJ3 (.ar .mul .i64) (.bJ4 tI tI (aR (.bJ2 (.slice 5 (.int .u8)) tI) 1 (.Z 0)) (.ci .i64 37)) <|
  .bJ3 (.bJ6 5 (.int .u8)) (.p1 (.slice 5 (.int .u8)) tI (.Z 0)) <|
  .bJ3 (.ar .mul .i64) (.bJ4 tI tI (.Z 4) (.ci .i64 11)) <|
  .bJ3 (.ar .add .i64) (.bJ4 tI tI (.Z 3) (.Z 5)) <|
  .bJ3 (.rem .i64) (.bJ4 tI tI (.Z 6) (.ci .i64 256)) <|
  .ret (.Z 7))
theorem bHJ (f:(bH × Int)→(Int)):bV Tryz.prog [] { aTM with fn:=f } false 3000 ⟨[],[]⟩ = .ok aTV:=by kernel_rfl
theorem bGF (x:bH × Int) (hx:okD (.bJ2 (.slice 5 (.int .u8)) tI) x) (hp:(fun x=>0≤x.2∧x.2≤1000∧x.1.length≤1048576) x):aTV.wp [] [⟨(.bJ2 (.slice 5 (.int .u8)) tI),x⟩] [] (fun v=>(fun x r=>0≤r∧r≤255:(bH × Int)→(Int)→Prop) x (v.as tI)):=by
 obtain ⟨l,i⟩:=x
 obtain ⟨h1,h2,h3⟩:0≤i∧i≤1000∧List.length l≤1048576:=hp
 have hel:=hx.1.2
 delta aTV;refine eE ?_
 refine eL ?_
 refine fun _=>⟨fun hlt=>⟨⟨h1,hlt⟩,fun _ _=>?_⟩,fun hge=>?_⟩
 ·have hk:i.toNat<List.length l:=by omega
  have hb:(0:Int)≤(l[i.toNat]:Int)∧(l[i.toNat]:Int)≤255:=hel _ (List.getElem_mem hk)
  rw[bD hk,qV (by show (-9223372036854775808:Int)≤_∧_≤(9223372036854775807:Int);omega)]
  exact hb
 ·have hz:=tmB (a:=i * 37+(List.length l:Int) * 11) (n:=256) (by omega) (by omega)
  (repeat' first|intro _|(with_reducible apply And.intro))
  all_goals first|omega|skip
theorem bCM:∃ f:(bH × Int)→(Int),(∀ x,okD (.bJ2 (.slice 5 (.int .u8)) tI) x→(fun x=>0≤x.2∧x.2≤1000∧x.1.length≤1048576) x→(fun x r=>0≤r∧r≤255:(bH × Int)→(Int)→Prop) x (f x))∧Con.Holds Tryz.prog { aTM with fn:=f }:=gY (C:=aTM) aX aT bHJ (fun x r=>0≤r∧r≤255:(bH × Int)→(Int)→Prop) bGF
def bHH:(bH × Int)→(Int):=Classical.choose bCM
def aMB:Con:=⟨32,(.bJ2 (.slice 5 (.int .u8)) tI),tI,[.val ⟨false,(.slice 5 (.int .u8)),[]⟩,.val ⟨false,tI,[]⟩],[⟨false,tI,[0]⟩],false,none,
 ((fun x=>0≤x.2∧x.2≤1000∧x.1.length≤1048576):(bH × Int)→Prop),
 ((bHH):(bH × Int)→(Int))⟩
theorem bG6:Con.Holds Tryz.prog aMB:=(Classical.choose_spec bCM).2
def aDB:Con:=⟨9,(.bJ2 (.slice 5 (.int .u8)) tI),aB,[.val ⟨false,(.slice 5 (.int .u8)),[]⟩,.val ⟨false,tI,[]⟩],[⟨false,aB,[2]⟩],false,none,
 ((fun x=>x.1.length≤1048576):(bH × Int)→Prop),
 ((fun _=>aS aB):(bH × Int)→(List Int))⟩
def aD8:T:=.loop aI (.bJ4 tI aB (.ci .i64 0) (.nl 3 tI)) <|
 .bJ3 (.cmp .lss .i64) (.bJ4 tI tI (.p1 tI aB (.Z 1)) (.ci .i64 60)) <|
 .ite (.Z 2) (
  .bJ3 (.cmp .gtr .i64) (.bJ4 tI tI (aR (.bJ2 (.slice 5 (.int .u8)) tI) 1 (.Z 0)) (.ci .i64 0)) <|
  .ite (.Z 3) (
   .call 0 (.bJ4 (.slice 5 (.int .u8)) tI (.p1 (.slice 5 (.int .u8)) tI (.Z 0)) (.p1 tI aB (.Z 1))) <|
   .bJ3 (.rem .i64) (.bJ4 tI tI (.Z 4) (aR (.bJ2 (.slice 5 (.int .u8)) tI) 1 (.Z 0))) <|
   .bJ3 (.lit 3 tI 1) (.Z 5) <|
   .bJ3 (.bJ9 3 tI 8) (.bJ4 aB aB (aR aI 1 (.Z 1)) (.Z 6)) <|
   .bJ3 (.ar .add .i64) (.bJ4 tI tI (.p1 tI aB (.Z 1)) (.ci .i64 1)) <|
   .bJ5 0 (.bJ4 tI aB (.Z 8) (.Z 7))) (
   .ret (aR aI 1 (.Z 1)))) (
  .ret (aR aI 1 (.Z 1)))
theorem aY8 (f:(bH × Int)→(List Int)):bV Tryz.prog [aMB] { aDB with fn:=f } false 3000 ⟨[(2991,1001,[.dr 7,.tm 6 0,.on 5,.sl 1])],[]⟩ = .ok aD8:=by kernel_rfl
theorem aZF (x:bH × Int) (hx:okD (.bJ2 (.slice 5 (.int .u8)) tI) x) (hp:(fun x=>x.1.length≤1048576) x):aD8.wp [aMB] [⟨(.bJ2 (.slice 5 (.int .u8)) tI),x⟩] [] (fun v=>(fun x r=>List.length r≤60:(bH × Int)→(List Int)→Prop) x (v.as aB)):=by
 obtain ⟨l,n⟩:=x
 have h3:List.length l≤1048576:=hp
 delta aD8 aMB;refine eE ?_
 refine eL ?_
 refine ⟨fun s=>∃ k:Nat,k≤60∧s.1=(k:Int)∧List.length s.2=k,fun s=>60 - (s.1:Int).toNat,⟨0,Nat.zero_le _,rfl,rfl⟩,fun s _ hI=>?_⟩
 obtain ⟨j,acc⟩:=s
 obtain ⟨k,hk,e1,e2⟩:=hI
 change Int at j
 change j=(k:Int) at e1
 subst e1
 change List.length acc=k at e2
 try dsimp only
 try refine eL ?_
 refine ⟨fun hlt=>⟨fun h0=>⟨⟨by omega,by omega,h3⟩,fun _=>⟨by omega,fun _ _=>⟨⟨by omega,by unfold maxLen;omega⟩,fun _=>⟨by omega,fun _=>⟨⟨k+1,by omega,rfl,by first|omega|(rw[List.length_append,e2];rfl)⟩,by omega⟩⟩⟩⟩⟩,fun _=>by omega⟩,fun _=>by omega⟩
theorem aD7:∃ f:(bH × Int)→(List Int),(∀ x,okD (.bJ2 (.slice 5 (.int .u8)) tI) x→(fun x=>x.1.length≤1048576) x→(fun x r=>List.length r≤60:(bH × Int)→(List Int)→Prop) x (f x))∧Con.Holds Tryz.prog { aDB with fn:=f }:=gY (C:=aDB) aX (aG bG6 aT) aY8 (fun x r=>List.length r≤60:(bH × Int)→(List Int)→Prop) aZF
def tK:(bH × Int)→(List Int):=Classical.choose aD7
def yV:Con:=⟨9,(.bJ2 (.slice 5 (.int .u8)) tI),aB,[.val ⟨false,(.slice 5 (.int .u8)),[]⟩,.val ⟨false,tI,[]⟩],[⟨false,aB,[2]⟩],false,none,
 ((fun x=>x.1.length≤1048576):(bH × Int)→Prop),
 ((tK):(bH × Int)→(List Int))⟩
theorem aZM:∀ x,okD (.bJ2 (.slice 5 (.int .u8)) tI) x→(fun x=>x.1.length≤1048576) x→(fun x r=>List.length r≤60:(bH × Int)→(List Int)→Prop) x (tK x):=(Classical.choose_spec aD7).1
theorem aKN:Con.Holds Tryz.prog yV:=(Classical.choose_spec aD7).2
theorem aZ9 (x:bH × Int) (hx:okD (.bJ2 (.slice 5 (.int .u8)) tI) x) (hp:(fun x=>x.1.length≤1048576) x):okD aB (tK x)∧(fun x r=>List.length r≤60:(bH × Int)→(List Int)→Prop) x (tK x):=⟨aKN.ok x hp hx,aZM x hx hp⟩
def nV:Con:=⟨5,(.slice 5 (.int .u8)),(.bJ2 aE aF),[.val ⟨false,(.slice 5 (.int .u8)),[]⟩],[⟨true,aE,[0,0,0,0,0,0]⟩,⟨false,aF,[0]⟩],false,none,
 ((fun x=>x.length≤1048576):(List Int)→Prop),
 ((fun _=>aS (.bJ2 aE aF)):(List Int)→(bK × bS))⟩
def nW:T:=.call 0 (.Z 0) <|.call 1 (.Z 1) <|.ret (.bJ4 aE aF (.p1 aE (.bJ2 aF (.bJ2 (.slice 5 (.int .u8)) aC)) (.Z 2)) (aJ (.bJ2 aE (.bJ2 aF (.bJ2 (.slice 5 (.int .u8)) aC))) 1 (.Z 2)))
theorem aFE (f:(List Int)→(bK × bS)):bV Tryz.prog [fR,uC] { nV with fn:=f } false 3000 ⟨[],[]⟩ = .ok nW:=by kernel_rfl
theorem aFN (x:List Int) (hx:okD (.slice 5 (.int .u8)) x) (hp:(fun x=>x.length≤1048576) x):nW.wp [fR,uC] [⟨(.slice 5 (.int .u8)),x⟩] [] (fun v=>(fun x r=>wM 9 4 6 r.1 r.2:(List Int)→(bK × bS)→Prop) x (v.as (.bJ2 aE aF))):=by
 have hp':List.length x≤1048576:=hp
 delta nW fR uC;refine eE ?_
 refine eL ?_
 refine ⟨hp',fun hc=>⟨Int.le_refl _,fun _=>?_⟩⟩
 exact (aTH (aO3 x) hc (Int.le_refl _)).2
theorem nX:∃ f:(List Int)→(bK × bS),(∀ x,okD (.slice 5 (.int .u8)) x→(fun x=>x.length≤1048576) x→(fun x r=>wM 9 4 6 r.1 r.2:(List Int)→(bK × bS)→Prop) x (f x))∧Con.Holds Tryz.prog { nV with fn:=f }:=gY (C:=nV) aX (aG aYK (aG aIC aT)) aFE (fun x r=>wM 9 4 6 r.1 r.2:(List Int)→(bK × bS)→Prop) aFN
def iG:(List Int)→(bK × bS):=Classical.choose nX
def kJ:Con:=⟨5,(.slice 5 (.int .u8)),(.bJ2 aE aF),[.val ⟨false,(.slice 5 (.int .u8)),[]⟩],[⟨true,aE,[0,0,0,0,0,0]⟩,⟨false,aF,[0]⟩],false,none,
 ((fun x=>x.length≤1048576):(List Int)→Prop),
 ((iG):(List Int)→(bK × bS))⟩
theorem aFK:∀ x,okD (.slice 5 (.int .u8)) x→(fun x=>x.length≤1048576) x→(fun x r=>wM 9 4 6 r.1 r.2:(List Int)→(bK × bS)→Prop) x (iG x):=(Classical.choose_spec nX).1
theorem vL:Con.Holds Tryz.prog kJ:=(Classical.choose_spec nX).2
theorem aFH (x:List Int) (hx:okD (.slice 5 (.int .u8)) x) (hp:(fun x=>x.length≤1048576) x):okD (.bJ2 aE aF) (iG x)∧(fun x r=>wM 9 4 6 r.1 r.2:(List Int)→(bK × bS)→Prop) x (iG x):=⟨vL.ok x hp hx,aFK x hx hp⟩
end
end Go.Proofs.YtpleleanibgniaaGreat
