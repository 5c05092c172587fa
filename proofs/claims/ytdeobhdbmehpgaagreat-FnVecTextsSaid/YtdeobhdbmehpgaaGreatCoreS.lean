/- CoreS: lemmas. No conditions. -/
import Derived.Test.YtdeobhdbmehpgaaGreatCoreA
import Derived.Test.YtdeobhdbmehpgaaGreatCoreP
namespace Go.Proofs.YtdeobhdbmehpgaaGreat
noncomputable section
open Go.ChangeShapes Go.WideShapes Go.ChangeAt Go.RowKit Go.Deep
set_option linter.unusedVariables false
set_option linter.unusedSimpArgs false
def bDW:aM:=bG aB
def tL (ops:List dR) (plan:List eY) (last redo:Bool):aM:=if cX ops=true then (0,plan,ops,last,redo,[],[],[],[],[],[],yR ops) else bDW
theorem bBB {ops:List dR} {plan:List eY} {last redo:Bool} (h:cX ops=false):(0,[],[],false,false,[],[],[],[],[],[],[],0,false)=tL ops plan last redo:=(if_neg (by rw[h];simp)).symm
theorem bBT {ops:List dR} {plan:List eY} {last redo:Bool} (h:cX ops=true):(0,plan,ops,last,redo,[],[],[],[],[],[],yR ops)=tL ops plan last redo:=(if_pos h).symm
def lE:Con:=⟨93,(.bEL aF (.bEL aL (.bEL .bool .bool))),aB,[.val ⟨false,aF,[]⟩,.val ⟨false,aL,[]⟩,.val ⟨false,.bool,[]⟩,.val ⟨false,.bool,[]⟩],[⟨true,aB,[0,2,2,0,0,2,2,2,2,2,2,2,0,0]⟩],false,none,
 ((fun x=>eB aF x.1≤1000000000∧List.length x.2.1≤1000000000):(bL × ((List eY) × (Bool × Bool)))→Prop),
 ((fun x=>tL x.1 x.2.1 x.2.2.1 x.2.2.2):(bL × ((List eY) × (Bool × Bool)))→(aM))⟩
def tG:T:=.call 0 (.p1 aF (.bEL aL (.bEL .bool .bool)) (.Z 0)) <|
 .bEM .not (.Z 1) <|
 .ite (.Z 2) (
  .ret (aY aB [(.ci .i64 0),(.nl 76 aD),(.nl 78 bC),(.cb false),(.cb false),(.nl 80 aC),(.nl 112 aA),(.nl 3 tI),(.nl 3 tI),(.nl 3 tI),(.nl 3 tI),(.nl 112 aA),(.ci .i64 0),(.cb false)])) (
  .bEM (.bES 76 aD 16) (.bEN aL aL (.nl 76 aD) (aI (.bEL aF (.bEL aL (.bEL .bool .bool))) 1 (.Z 0))) <|
  .call 1 (.p1 aF (.bEL aL (.bEL .bool .bool)) (.Z 0)) <|
  .call 2 (.p1 aF (.bEL aL (.bEL .bool .bool)) (.Z 0)) <|
  .ret (aY aB [(.ci .i64 0),(.Z 3),(.Z 4),(aI (.bEL aF (.bEL aL (.bEL .bool .bool))) 2 (.Z 0)),(aN (.bEL aF (.bEL aL (.bEL .bool .bool))) 3 (.Z 0)),(.nl 80 aC),(.nl 112 aA),(.nl 3 tI),(.nl 3 tI),(.nl 3 tI),(.nl 3 tI),(.Z 5)]))
set_option maxRecDepth 100000 in
theorem aLJ:bJ Tryz.prog [cH,iQ,jO] lE false 3000 ⟨[],[]⟩ = .ok tG:=by kernel_rfl
theorem aK6 (x:bL × ((List eY) × (Bool × Bool))) (hx:okD (.bEL aF (.bEL aL (.bEL .bool .bool))) x) (hp:(fun x=>eB aF x.1≤1000000000∧List.length x.2.1≤1000000000) x):tG.wp [cH,iQ,jO] [⟨(.bEL aF (.bEL aL (.bEL .bool .bool))),x⟩] [] (fun v=>v.as aB=(fun x=>tL x.1 x.2.1 x.2.2.1 x.2.2.2) x):=by
 have hm:=(aJC (t:=aF) hp.1)
 delta tG cH iQ jO;refine eE ?_
 refine fJ ?_
 refine ⟨fun h=>bBB h,fun h=>⟨⟨by have:=hp.2;omega,by have:=hp.2;unfold maxLen;omega⟩,fun _=>⟨hp.1,fun _=>⟨⟨hm.1,fun o ho=>(hm.2 o ho).2.2.2.1⟩,fun _=>bBT h⟩⟩⟩⟩
theorem aL8:Con.Holds Tryz.prog lE:=aQ aR (aG nD (aG aHN (aG aI2 aO))) aLJ aK6
end
end Go.Proofs.YtdeobhdbmehpgaaGreat
