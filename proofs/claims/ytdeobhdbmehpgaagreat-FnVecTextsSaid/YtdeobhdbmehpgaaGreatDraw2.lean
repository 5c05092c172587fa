/- Draw2: lemmas. No conditions. -/
import Derived.Test.YtdeobhdbmehpgaaGreatDraw1
namespace Go.Proofs.YtdeobhdbmehpgaaGreat
set_option maxRecDepth 100000
open Go.ChangeShapes Go.WideShapes Go.ChangeAt Go.RowKit Go.Deep
set_option linter.unusedVariables false
set_option linter.unusedSimpArgs false
noncomputable def aBJ:Con:=⟨5,(.slice 5 (.int .u8)),.bool,[.val ⟨false,(.slice 5 (.int .u8)),[]⟩],[⟨false,.bool,[0]⟩],false,none,
 ((fun _=>True):(List Int)→Prop),
 ((fun x=>decide (1048576<x.length)):(List Int)→(Bool))⟩
def aKC:T :=
 .bEM (.bEP 5 (.int .u8)) (.Z 0) <|
 .bEM (.cmp .gtr .i64) (.bEN tI tI (.Z 1) (.ci .i64 1048576)) <|
 .ret (.Z 2)
theorem bAR:bJ Tryz.prog [] aBJ false 3000 ⟨[],[]⟩ = .ok aKC:=by kernel_rfl
theorem bB3 (x:List Int) (hx:okD (.slice 5 (.int .u8)) x) (hp:(fun _=>True) x):aKC.wp [] [⟨(.slice 5 (.int .u8)),x⟩] [] (fun v=>v.as .bool=(fun x=>decide (1048576<x.length)) x):=by
 delta aKC;refine eE ?_
 refine fJ ?_
 intro _
 rw[decide_eq_decide];omega
theorem bBK:Con.Holds Tryz.prog aBJ:=aQ aR aO bAR bB3
noncomputable def kK:Con:=⟨10,aU,.bool,[.val ⟨false,aA,[]⟩,.val ⟨false,aA,[]⟩],[⟨false,.bool,[0]⟩],false,none,
 ((fun x=>x.1=x.2):(eZ)→Prop),
 ((fun _=>true):(eZ)→(Bool))⟩
def tT:T :=
 .bEM (.bEP 3 tI) (.p1 aA aA (.Z 0)) <|
 .bEM (.bEP 3 tI) (aN aU 1 (.Z 0)) <|
 .bEM (.cmp .neq .i64) (.bEN tI tI (.Z 1) (.Z 2)) <|
 .ite (.Z 3) (
  .ret (.cb false)) (
  .loop tI (.ci .i64 0) <|
   .bEM (.bEP 3 tI) (.p1 aA aA (.Z 0)) <|
   .bEM (.cmp .lss .i64) (.bEN tI tI (.Z 4) (.Z 5)) <|
   .ite (.Z 6) (
    .bEM (.bEQ 3 tI) (.bEN aA tI (.p1 aA aA (.Z 0)) (.Z 4)) <|
    .bEM (.bEQ 3 tI) (.bEN aA tI (aN aU 1 (.Z 0)) (.Z 4)) <|
    .bEM (.cmp .neq .i64) (.bEN tI tI (.Z 7) (.Z 8)) <|
    .ite (.Z 9) (
     .ret (.cb false)) (
     .bEM (.ar .add .i64) (.bEN tI tI (.Z 4) (.ci .i64 1)) <|
     .bEO 0 (.Z 10))) (
    .ret (.cb true)))
theorem aLV:bJ Tryz.prog [] kK false 3000 ⟨[(2988,2004,jT 10 6++[.tm 5 0])],[]⟩ = .ok tT:=by kernel_rfl
theorem aKS (x:eZ) (hx:okD aU x) (hp:(fun x=>x.1=x.2) x):tT.wp [] [⟨aU,x⟩] [] (fun v=>v.as .bool=(fun _=>true) x):=by
 obtain ⟨a,b⟩:=x
 obtain rfl:a=b:=hp
 have hl:=bD4 (show List.length a≤maxLen from hx.1.1)
 delta tT;refine eE ?_
 refine fJ ?_
 refine fun _ _=>⟨fun h=>absurd trivial h,fun _=>jC (fun k=>(k:Int)) a.length rfl fun I μ k hk _ go=>?_⟩
 try dsimp only
 refine fJ ?_
 refine fun _=>⟨fun hlt=>?_,fun hge=>trivial⟩
 have hk':k<a.length:=by omega
 (repeat' first|intro _|(refine go2 _ ?_ ?_ ?_)|(refine go2 _ ?_ ?_)|(refine go _ ?_ ?_ ?_)|(refine go _ ?_ ?_)|(with_reducible apply And.intro))
 all_goals first|omega|rfl|trivial|(exfalso;simp_all;done)|skip
theorem aLS:Con.Holds Tryz.prog kK:=aQ aR aO aLV aKS
end Go.Proofs.YtdeobhdbmehpgaaGreat
