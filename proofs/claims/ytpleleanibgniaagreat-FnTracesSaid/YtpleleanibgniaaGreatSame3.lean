/- Same3: lemmas. No conditions. -/
import Derived.Test.YtpleleanibgniaaGreatOps2
namespace Go.Proofs.YtpleleanibgniaaGreat
open Go.ChangeShapes Go.WideShapes Go.ChangeAt Go.RowKit Go.Deep
set_option linter.unusedVariables false
set_option linter.unusedSimpArgs false
theorem bGI {x y:Int × Int}:(qQ aC x y != true)=true↔¬ x=y:=by
 obtain ⟨a,b⟩:=x;obtain ⟨c,d⟩:=y
 simp only[qQ,bne_iff_ne,ne_eq,Bool.and_eq_true,dZ]
 rw[beq_iff_eq,beq_iff_eq]
theorem bH7 {x y:Int}:(x != y)=true↔¬ x=y:=by rw[bne_iff_ne]
theorem bGY {x y:Int}:(x != y)=false↔x=y:=by rw[bne_eq_false_iff_eq]
noncomputable def dJ:Con:=⟨75,aA,aD,[.val ⟨true,aA,[]⟩],[⟨true,aD,[0]⟩],true,none,
 ((fun _=>True):(bC)→Prop),
 ((fun x=>x.2.2.1):(bC)→(aW))⟩
def wF:T:=.ret (aJ aA 2 (.Z 0))
set_option maxRecDepth 100000 in
theorem aPA:bV Tryz.prog [] dJ false 3000 ⟨[],[]⟩ = .ok wF:=by kernel_rfl
theorem aQT (x:bC) (hx:okD aA x) (hp:(fun _=>True) x):wF.wp [] [⟨aA,x⟩] [] (fun v=>v.as aD=(fun x=>x.2.2.1) x):=by
 delta wF;refine eE ?_;try with_reducible exact True.intro
theorem rA:Con.Holds Tryz.prog dJ:=aV aX aT aPA aQT
end Go.Proofs.YtpleleanibgniaaGreat
