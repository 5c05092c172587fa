/- EFnQuicker: lemmas. No conditions. -/
import Derived.Test.YtabamggdmdednaaGreatLawQu
import Derived.Test.YtabamggdmdednaaGreatCe
namespace Go.Proofs.YtabamggdmdednaaGreat
open Go.ChangeShapes Go.WideShapes Go.ChangeAt Go.RowKit Go.Deep
set_option linter.unusedVariables false
set_option linter.unusedSimpArgs false
theorem fnQuicker_walk (w:World) (p0:Option Addr) (len0 cap0:Nat) (l0:List (Ty.D (.int .u8))) (h0:wJ (Ty.n (.int .u8)) (rd (.int .u8) w) w p0 len0 cap0 l0) :
  Calls Tryz.prog 3 #[.slice p0 len0 cap0] w fun e w'=>e = .returned (.bool true)∧Below w.heap.size w w':=by
 have hA:pM w eR.ams [.slice p0 len0 cap0] (dC (eR.ams.map (·.mv.t)) (SV.as _ ⟨eR.argTy,l0⟩)):=by
  have e:SV.as (cJ (eR.ams.map (·.mv.t))) ⟨eR.argTy,l0⟩=l0:=SV.as_self _ _
  rw[e]
  exact (pM.cons rfl rfl (wJ.toRd (e:=5) h0) pM.nil)
 have hg:=h_w_FnQuicker.givesL rfl (x:=l0) trivial (fP.okD (fP.of_rd (wJ.toRd (e:=5) h0))) hA rfl (aVV _)
 have e:SV.as (cJ (eR.rms.map (·.t))) ⟨eR.resTy,eR.fn l0⟩=true:=SV.as_self _ _
 rw[e] at hg
 refine hg.mono fun e w' hh=>?_
 clear hg
 obtain ⟨rs,bl,he,ho,hn,hb,bel⟩:=hh
 obtain ⟨r0,rs0,b0,bb0,rfl,rfl,k0,ho⟩:=aNO.inv ho
 obtain ⟨rfl,rfl⟩:=ho
 have e0:=k0.bool
 exact ⟨he.trans (congrArg (fun l=>Ending.returned (bHP l)) (congr (congrArg List.cons e0) rfl)),bel⟩
end Go.Proofs.YtabamggdmdednaaGreat
