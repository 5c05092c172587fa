/- LawTi: trees, and what they say. -/
import Derived.Test.YtdeobhdbmehpgaaGreatDrawPi
import Derived.Test.YtdeobhdbmehpgaaGreatCoreT
import Derived.Test.YtdeobhdbmehpgaaGreatCoreS
namespace Go.Proofs.YtdeobhdbmehpgaaGreat
open Go.ChangeShapes Go.WideShapes Go.ChangeAt Go.RowKit Go.Deep
set_option linter.unusedVariables false
set_option linter.unusedSimpArgs false
noncomputable def gL:Con:=⟨4,(.slice 5 (.int .u8)),.bool,[.val ⟨false,(.slice 5 (.int .u8)),[]⟩],[⟨false,.bool,[0]⟩],false,none,
 ((fun _=>True):(List Int)→Prop),
 ((fun _=>true):(List Int)→(Bool))⟩
def t_w_FnTicks:T:=.call 0 (.Z 0) <|.ite (.Z 1) (.ret (.cb true)) (.call 1 (.Z 0) <|.call 2 (.Z 2) <|.call 3 (.Z 2) <|.call 4 (.bNV aB aB (aO (.bNT aC aB) 1 (.Z 3)) (.Z 4)) <|.ite (.Z 5) (.call 5 (.bNV aC aB (.Z 2) (aO (.bNT aC aB) 1 (.Z 3))) <|.call 6 (.bNV aC aC (.p1 aC aB (.Z 3)) (.Z 6)) <|.ret (.Z 7)) (.ret (.cb false)))
set_option maxRecDepth 100000 in
theorem e_w_FnTicks:bM Tryz.prog [aFM,mE,pG,lF,nD,aEX,nB] gL false 3000 ⟨[],[]⟩ = .ok t_w_FnTicks:=by kernel_rfl
theorem v_w_FnTicks (x:List Int) (hx:okD (.slice 5 (.int .u8)) x) (hp:(fun _=>True) x):t_w_FnTicks.wp [aFM,mE,pG,lF,nD,aEX,nB] [⟨(.slice 5 (.int .u8)),x⟩] [] (fun v=>v.as .bool=(fun _=>true) x):=by
 delta t_w_FnTicks aFM mE pG lF nD aEX nB;refine dB ?_
 refine dT ?_
 refine ⟨fun _=>trivial,fun hb=>⟨by omega,fun _=>?_⟩⟩
 have q:=(aIA x hx (by show List.length x≤1048576;omega)).2
 generalize jN x=p at q ⊢
 change bQ aC p≤92000000 at q
 have hw:=bB8 p
 have e:List.take 2000 (aA0 p)=aA0 p:=List.take_of_length_le (by omega)
 rw[e]
 exact ⟨by omega,fun _=>⟨by omega,fun _=>⟨⟨by omega,fun _=>hN.2 rfl⟩,fun h=>(by cases h)⟩⟩⟩
theorem h_w_FnTicks:Con.Holds Tryz.prog gL:=aS aW (aH bJR (aH yO (aH aVV (aH aIX (aH aRY (aH bK9 (aH aQ4 aR))))))) e_w_FnTicks v_w_FnTicks
end Go.Proofs.YtdeobhdbmehpgaaGreat
