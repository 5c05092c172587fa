/- EFnVecTexts: lemmas. No conditions. -/
import Derived.Test.YtdeobhdbmehpgaaGreatLawVt
import Derived.Test.YtdeobhdbmehpgaaGreatCe
namespace Go.Proofs.YtdeobhdbmehpgaaGreat
open Go.ChangeShapes Go.WideShapes Go.ChangeAt Go.RowKit Go.Deep
set_option linter.unusedVariables false
set_option linter.unusedSimpArgs false
theorem fnVecTexts_walk (w:World) (p0:Option Addr) (len0 cap0:Nat) (l0:List (Ty.D (.int .u8))) (h0:rL (Ty.n (.int .u8)) (rd (.int .u8) w) w p0 len0 cap0 l0) :
  Calls Tryz.prog 3 #[.slice p0 len0 cap0] w fun e w'=>e = .returned (.bool true)∧Below w.heap.size w w':=by
 have hA:lU w c_w_FnVecTexts.ams [.slice p0 len0 cap0] (cF (c_w_FnVecTexts.ams.map (·.mv.t)) (SV.as _ ⟨c_w_FnVecTexts.argTy,l0⟩)):=by
  have e:SV.as (bO (c_w_FnVecTexts.ams.map (·.mv.t))) ⟨c_w_FnVecTexts.argTy,l0⟩=l0:=SV.as_self _ _
  rw[e]
  exact (lU.cons rfl rfl (rL.toRd (e:=5) h0) lU.nil)
 have hg:=h_w_FnVecTexts.givesL rfl (x:=l0) trivial (dW.okD (dW.of_rd (rL.toRd (e:=5) h0))) hA rfl (aNJ _)
 have e:SV.as (bO (c_w_FnVecTexts.rms.map (·.t))) ⟨c_w_FnVecTexts.resTy,c_w_FnVecTexts.fn l0⟩=true:=SV.as_self _ _
 rw[e] at hg
 refine hg.mono fun e w' hh=>?_
 clear hg
 obtain ⟨rs,bl,he,ho,hn,hb,bel⟩:=hh
 obtain ⟨r0,rs0,b0,bb0,rfl,rfl,k0,ho⟩:=aFH.inv ho
 obtain ⟨rfl,rfl⟩:=ho
 have e0:=k0.bool
 exact ⟨he.trans (congrArg (fun l=>Ending.returned (aWW l)) (congr (congrArg List.cons e0) rfl)),bel⟩
end Go.Proofs.YtdeobhdbmehpgaaGreat
