/- Draw2: lemmas. No conditions. -/
import Derived.Test.YtdeobhdbmehpgaaGreatDraw1
namespace Go.Proofs.YtdeobhdbmehpgaaGreat
set_option maxRecDepth 100000
open Go.ChangeShapes Go.WideShapes Go.ChangeAt Go.RowKit Go.Deep
set_option linter.unusedVariables false
set_option linter.unusedSimpArgs false
noncomputable def aFM:Con:=⟨5,(.slice 5 (.int .u8)),.bool,[.val ⟨false,(.slice 5 (.int .u8)),[]⟩],[⟨false,.bool,[0]⟩],false,none,
 ((fun _=>True):(List Int)→Prop),
 ((fun x=>decide (1048576<x.length)):(List Int)→(Bool))⟩
def aQH:T :=
 .bNU (.bNX 5 (.int .u8)) (.Z 0) <|
 .bNU (.cmp .gtr .i64) (.bNV tI tI (.Z 1) (.ci .i64 1048576)) <|
 .ret (.Z 2)
theorem bK7:bM Tryz.prog [] aFM false 3000 ⟨[],[]⟩ = .ok aQH:=by kernel_rfl
theorem bKJ (x:List Int) (hx:okD (.slice 5 (.int .u8)) x) (hp:(fun _=>True) x):aQH.wp [] [⟨(.slice 5 (.int .u8)),x⟩] [] (fun v=>v.as .bool=(fun x=>decide (1048576<x.length)) x):=by
 delta aQH;refine dB ?_
 refine dT ?_
 intro _
 rw[decide_eq_decide];omega
theorem bJR:Con.Holds Tryz.prog aFM:=aS aW aR bK7 bKJ
noncomputable def nD:Con:=⟨10,aM,.bool,[.val ⟨false,aB,[]⟩,.val ⟨false,aB,[]⟩],[⟨false,.bool,[0]⟩],false,none,
 ((fun x=>x.1=x.2):(bP)→Prop),
 ((fun _=>true):(bP)→(Bool))⟩
def xR:T :=
 .bNU (.bNX 3 tI) (.p1 aB aB (.Z 0)) <|
 .bNU (.bNX 3 tI) (aO aM 1 (.Z 0)) <|
 .bNU (.cmp .neq .i64) (.bNV tI tI (.Z 1) (.Z 2)) <|
 .ite (.Z 3) (
  .ret (.cb false)) (
  .loop tI (.ci .i64 0) <|
   .bNU (.bNX 3 tI) (.p1 aB aB (.Z 0)) <|
   .bNU (.cmp .lss .i64) (.bNV tI tI (.Z 4) (.Z 5)) <|
   .ite (.Z 6) (
    .bNU (.bNY 3 tI) (.bNV aB tI (.p1 aB aB (.Z 0)) (.Z 4)) <|
    .bNU (.bNY 3 tI) (.bNV aB tI (aO aM 1 (.Z 0)) (.Z 4)) <|
    .bNU (.cmp .neq .i64) (.bNV tI tI (.Z 7) (.Z 8)) <|
    .ite (.Z 9) (
     .ret (.cb false)) (
     .bNU (.ar .add .i64) (.bNV tI tI (.Z 4) (.ci .i64 1)) <|
     .bNW 0 (.Z 10))) (
    .ret (.cb true)))
theorem aQY:bM Tryz.prog [] nD false 3000 ⟨[(2988,2004,iT 10 6++[.tm 5 0])],[]⟩ = .ok xR:=by kernel_rfl
theorem aPW (x:bP) (hx:okD aM x) (hp:(fun x=>x.1=x.2) x):xR.wp [] [⟨aM,x⟩] [] (fun v=>v.as .bool=(fun _=>true) x):=by
 obtain ⟨a,b⟩:=x
 obtain rfl:a=b:=hp
 have hl:=bM7 (show List.length a≤maxLen from hx.1.1)
 delta xR;refine dB ?_
 refine dT ?_
 refine fun _ _=>⟨fun h=>absurd trivial h,fun _=>cZ (fun k=>(k:Int)) a.length rfl fun I μ k hk _ go=>?_⟩
 try dsimp only
 refine dT ?_
 refine fun _=>⟨fun hlt=>?_,fun hge=>trivial⟩
 have hk':k<a.length:=by omega
 (repeat' first|intro _|(refine go2 _ ?_ ?_ ?_)|(refine go2 _ ?_ ?_)|(refine go _ ?_ ?_ ?_)|(refine go _ ?_ ?_)|(with_reducible apply And.intro))
 all_goals first|omega|rfl|trivial|(exfalso;simp_all;done)|skip
theorem aRY:Con.Holds Tryz.prog nD:=aS aW aR aQY aPW
end Go.Proofs.YtdeobhdbmehpgaaGreat
