/- EFnTicks: lemmas. No conditions. -/
import Derived.Test.YtdeobhdbmehpgaaGreatLawTi
import Derived.Test.YtdeobhdbmehpgaaGreatCe
namespace Go.Proofs.YtdeobhdbmehpgaaGreat
open Go.ChangeShapes Go.WideShapes Go.ChangeAt Go.RowKit Go.Deep
set_option linter.unusedVariables false
set_option linter.unusedSimpArgs false
theorem fnTicks_walk (w:World) (p0:Option Addr) (len0 cap0:Nat) (l0:List (Ty.D (.int .u8))) (h0:vF (Ty.n (.int .u8)) (rd (.int .u8) w) w p0 len0 cap0 l0) :
  Calls Tryz.prog 4 #[.slice p0 len0 cap0] w fun e w'=>e = .returned (.bool true)∧Below w.heap.size w w':=by
 have hA:nY w gL.ams [.slice p0 len0 cap0] (cY (gL.ams.map (·.mv.t)) (SV.as _ ⟨gL.argTy,l0⟩)):=by
  have e:SV.as (cD (gL.ams.map (·.mv.t))) ⟨gL.argTy,l0⟩=l0:=SV.as_self _ _
  rw[e]
  exact (nY.cons rfl rfl (vF.toRd (e:=5) h0) nY.nil)
 have hg:=h_w_FnTicks.givesL rfl (x:=l0) trivial (fI.okD (fI.of_rd (vF.toRd (e:=5) h0))) hA rfl (aVF _)
 have e:SV.as (cD (gL.rms.map (·.t))) ⟨gL.resTy,gL.fn l0⟩=true:=SV.as_self _ _
 rw[e] at hg
 refine hg.mono fun e w' hh=>?_
 clear hg
 obtain ⟨rs,bl,he,ho,hn,hb,bel⟩:=hh
 obtain ⟨r0,rs0,b0,bb0,rfl,rfl,k0,ho⟩:=aKK.inv ho
 obtain ⟨rfl,rfl⟩:=ho
 have e0:=k0.bool
 exact ⟨he.trans (congrArg (fun l=>Ending.returned (bEC l)) (congr (congrArg List.cons e0) rfl)),bel⟩
end Go.Proofs.YtdeobhdbmehpgaaGreat
