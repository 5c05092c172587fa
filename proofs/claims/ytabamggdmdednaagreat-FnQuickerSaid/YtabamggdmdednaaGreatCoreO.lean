/- CoreO: lemmas. No conditions. -/
import Derived.Test.YtabamggdmdednaaGreatCoreM
import Derived.Test.YtabamggdmdednaaGreatCoreT
namespace Go.Proofs.YtabamggdmdednaaGreat
noncomputable section
set_option maxRecDepth 100000
open Go.ChangeShapes Go.WideShapes Go.ChangeAt Go.RowKit Go.Deep
set_option linter.unusedVariables false
set_option linter.unusedSimpArgs false
def zN (a d:bDX):Int:=if d.2.2.2=true∧(a.2.2.2=false∨d.1<a.1) then 2 else if a.2.2.2=true then 1 else 0
theorem aL4 {a d:bDX} (h:d.2.2.2=true) (h2:a.2.2.2=false∨d.1<a.1):2=zN a d:=(if_pos ⟨h,h2⟩).symm
theorem aKZ {a d:bDX} (h:d.2.2.2=false∨a.1≤d.1) (h2:a.2.2.2=true):1=zN a d:=by
 unfold zN
 rw[if_neg,if_pos h2]
 rintro ⟨h3,h4⟩
 rcases h with h|h
 ·rw[h] at h3;cases h3
 ·rcases h4 with h4|h4
  ·rw[h4] at h2;cases h2
  ·omega
theorem bF2 {a d:bDX} (h:d.2.2.2=false) (h2:a.2.2.2=false):0=zN a d:=by
 unfold zN
 rw[if_neg (by rw[h];simp),if_neg (by rw[h2];simp)]
def aEZ (c:bG) (b:List bT):Int:=zN (uV (c.1,c.2.1,1,c.2.2.2) b) (uV (c.1,c.2.1,2,c.2.2.2) b)
def mX:Con:=⟨6,(.bRW aC aG),tI,[.val ⟨true,aC,[]⟩,.val ⟨false,aG,[]⟩],[⟨false,tI,[0]⟩],false,none,
 ((fun x=>bM aC x.1≤2000000∧bM aG x.2≤2000000):(bG × bO)→Prop),
 ((fun x=>aEZ x.1 x.2):(bG × bO)→(Int))⟩
def xF:T:=.call 0 (.bRY aC aG (bB aC [(.p1 aE (.bRW aB (.bRW tI (.bRW bV aO))) (.p1 aC aG (.Z 0))),(aK aC 1 (.p1 aC aG (.Z 0))),(.ci .i64 1),(aP aC 3 (.p1 aC aG (.Z 0)))]) (aP (.bRW aC aG) 1 (.Z 0))) <|.call 0 (.bRY aC aG (bB aC [(.p1 aE (.bRW aB (.bRW tI (.bRW bV aO))) (.p1 aC aG (.Z 0))),(aK aC 1 (.p1 aC aG (.Z 0))),(.ci .i64 2),(aP aC 3 (.p1 aC aG (.Z 0)))]) (aP (.bRW aC aG) 1 (.Z 0))) <|.ite (aP (.bRW tI (.bRW aB (.bRW aB .bool))) 3 (.Z 2)) (
 .bRX .not (aP (.bRW tI (.bRW aB (.bRW aB .bool))) 3 (.Z 1)) <|
 .ite (.Z 3) (
  .ret (.ci .i64 2)) (
  .bRX (.cmp .lss .i64) (.bRY tI tI (.p1 tI (.bRW aB (.bRW aB .bool)) (.Z 2)) (.p1 tI (.bRW aB (.bRW aB .bool)) (.Z 1))) <|
  .ite (.Z 4) (
   .ret (.ci .i64 2)) (
   .ite (aP (.bRW tI (.bRW aB (.bRW aB .bool))) 3 (.Z 1)) (
    .ret (.ci .i64 1)) (
    .ret (.ci .i64 0))))) (
 .ite (aP (.bRW tI (.bRW aB (.bRW aB .bool))) 3 (.Z 1)) (
  .ret (.ci .i64 1)) (
  .ret (.ci .i64 0)))
theorem aPE:bI Tryz.prog [jA] mX false 3000 ⟨[],[]⟩ = .ok xF:=by kernel_rfl
theorem aPZ (x:bG × bO) (hx:okD (.bRW aC aG) x) (hp:(fun x=>bM aC x.1≤2000000∧bM aG x.2≤2000000) x):xF.wp [jA] [⟨(.bRW aC aG),x⟩] [] (fun v=>v.as tI=(fun x=>aEZ x.1 x.2) x):=by
 obtain ⟨c,b⟩:=x
 obtain ⟨hp1,hp2⟩:bM aC c≤2000000∧bM aG b≤2000000:=hp
 delta xF jA;refine cW ?_
 refine dB ?_
 rw[show aEZ c b=zN (uV (c.1,c.2.1,1,c.2.2.2) b) (uV (c.1,c.2.1,2,c.2.2.2) b) from rfl]
 (repeat' first|intro _|(with_reducible apply And.intro))
 all_goals first|exact hp1|exact hp2|exact aL4 (by assumption) (.inl (by assumption))|exact aL4 (by assumption) (.inr (by assumption))|exact aKZ (.inl (by assumption)) (by assumption)|exact aKZ (.inr (by assumption)) (by assumption)|exact bF2 (by assumption) (by assumption)|exact Bool.noConfusion ((by assumption:(uV (c.1,c.2.1,1,c.2.2.2) b).2.2.2=true).symm.trans (by assumption:(uV (c.1,c.2.1,1,c.2.2.2) b).2.2.2=false))|exact Bool.noConfusion ((by assumption:(uV (c.1,c.2.1,2,c.2.2.2) b).2.2.2=true).symm.trans (by assumption:(uV (c.1,c.2.1,2,c.2.2.2) b).2.2.2=false))|skip
theorem aQ8:Con.Holds Tryz.prog mX:=aS aV (aI aHW aQ) aPE aPZ
def nC:Con:=⟨8,(.bRW aC aG),tI,[.val ⟨true,aC,[]⟩,.val ⟨false,aG,[]⟩],[⟨false,tI,[0]⟩],false,none,
 ((fun x=>bM aC x.1≤2000000∧bM aG x.2≤2000000):(bG × bO)→Prop),
 ((fun x=>aEZ x.1 x.2):(bG × bO)→(Int))⟩
def wF:T:=.call 0 (.bRY aC aG (bB aC [(.p1 aE (.bRW aB (.bRW tI (.bRW bV aO))) (.p1 aC aG (.Z 0))),(aK aC 1 (.p1 aC aG (.Z 0))),(.ci .i64 1),(aP aC 3 (.p1 aC aG (.Z 0)))]) (aP (.bRW aC aG) 1 (.Z 0))) <|.call 0 (.bRY aC aG (bB aC [(.p1 aE (.bRW aB (.bRW tI (.bRW bV aO))) (.p1 aC aG (.Z 0))),(aK aC 1 (.p1 aC aG (.Z 0))),(.ci .i64 2),(aP aC 3 (.p1 aC aG (.Z 0)))]) (aP (.bRW aC aG) 1 (.Z 0))) <|
 .bRX .not (aP (.bRW tI (.bRW aB (.bRW aB .bool))) 3 (.Z 1)) <|
 .ite (.Z 3) (
  .bRX .not (aP (.bRW tI (.bRW aB (.bRW aB .bool))) 3 (.Z 2)) <|
  .ite (.Z 4) (
   .ret (.ci .i64 0)) (
   .bRX .not (aP (.bRW tI (.bRW aB (.bRW aB .bool))) 3 (.Z 2)) <|
   .ite (.Z 5) (
    .ret (.ci .i64 1)) (
    .ite (aP (.bRW tI (.bRW aB (.bRW aB .bool))) 3 (.Z 1)) (
     .bRX (.cmp .leq .i64) (.bRY tI tI (.p1 tI (.bRW aB (.bRW aB .bool)) (.Z 1)) (.p1 tI (.bRW aB (.bRW aB .bool)) (.Z 2))) <|
     .ite (.Z 6) (
      .ret (.ci .i64 1)) (
      .ret (.ci .i64 2))) (
     .ret (.ci .i64 2))))) (
  .bRX .not (aP (.bRW tI (.bRW aB (.bRW aB .bool))) 3 (.Z 2)) <|
  .ite (.Z 4) (
   .ret (.ci .i64 1)) (
   .ite (aP (.bRW tI (.bRW aB (.bRW aB .bool))) 3 (.Z 1)) (
    .bRX (.cmp .leq .i64) (.bRY tI tI (.p1 tI (.bRW aB (.bRW aB .bool)) (.Z 1)) (.p1 tI (.bRW aB (.bRW aB .bool)) (.Z 2))) <|
    .ite (.Z 5) (
     .ret (.ci .i64 1)) (
     .ret (.ci .i64 2))) (
    .ret (.ci .i64 2))))
theorem aPL:bI Tryz.prog [oQ] nC false 3000 ⟨[],[]⟩ = .ok wF:=by kernel_rfl
theorem aQ3 (x:bG × bO) (hx:okD (.bRW aC aG) x) (hp:(fun x=>bM aC x.1≤2000000∧bM aG x.2≤2000000) x):wF.wp [oQ] [⟨(.bRW aC aG),x⟩] [] (fun v=>v.as tI=(fun x=>aEZ x.1 x.2) x):=by
 obtain ⟨c,b⟩:=x
 obtain ⟨hp1,hp2⟩:bM aC c≤2000000∧bM aG b≤2000000:=hp
 delta wF oQ;refine cW ?_
 refine dB ?_
 rw[show aEZ c b=zN (uV (c.1,c.2.1,1,c.2.2.2) b) (uV (c.1,c.2.1,2,c.2.2.2) b) from rfl]
 (repeat' first|intro _|(with_reducible apply And.intro))
 all_goals first|exact hp1|exact hp2|exact aL4 (by assumption) (.inl (by assumption))|exact aL4 (by assumption) (.inr (by assumption))|exact aKZ (.inl (by assumption)) (by assumption)|exact aKZ (.inr (by assumption)) (by assumption)|exact bF2 (by assumption) (by assumption)|exact Bool.noConfusion ((by assumption:(uV (c.1,c.2.1,1,c.2.2.2) b).2.2.2=true).symm.trans (by assumption:(uV (c.1,c.2.1,1,c.2.2.2) b).2.2.2=false))|exact Bool.noConfusion ((by assumption:(uV (c.1,c.2.1,2,c.2.2.2) b).2.2.2=true).symm.trans (by assumption:(uV (c.1,c.2.1,2,c.2.2.2) b).2.2.2=false))|skip
theorem aQF:Con.Holds Tryz.prog nC:=aS aV (aI aSZ aQ) aPL aQ3
end
end Go.Proofs.YtabamggdmdednaaGreat
