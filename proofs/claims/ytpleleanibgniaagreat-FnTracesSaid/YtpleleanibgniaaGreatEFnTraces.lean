/- EFnTraces: lemmas. No conditions. -/
import Derived.Test.YtpleleanibgniaaGreatLawTr
import Derived.Test.YtpleleanibgniaaGreatCe
namespace Go.Proofs.YtpleleanibgniaaGreat
open Go.ChangeShapes Go.WideShapes Go.ChangeAt Go.RowKit Go.Deep
set_option linter.unusedVariables false
set_option linter.unusedSimpArgs false
theorem fnTraces_walk (w:World) (p0:Option Addr) (len0 cap0:Nat) (l0:List (Ty.D (.int .u8))) (h0:sC (Ty.n (.int .u8)) (rd (.int .u8) w) w p0 len0 cap0 l0) :
  Calls Tryz.prog 3 #[.slice p0 len0 cap0] w fun e w'=>e = .returned (.bool true)∧Below w.heap.size w w':=by
 have hA:mJ w eV.ams [.slice p0 len0 cap0] (cT (eV.ams.map (·.mv.t)) (SV.as _ ⟨eV.argTy,l0⟩)):=by
  have e:SV.as (cD (eV.ams.map (·.mv.t))) ⟨eV.argTy,l0⟩=l0:=SV.as_self _ _
  rw[e]
  exact (mJ.cons rfl rfl (sC.toRd (e:=5) h0) mJ.nil)
 have hg:=h_w_FnTraces.givesL rfl (x:=l0) trivial (eK.okD (eK.of_rd (sC.toRd (e:=5) h0))) hA rfl (aOJ _)
 have e:SV.as (cD (eV.rms.map (·.t))) ⟨eV.resTy,eV.fn l0⟩=true:=SV.as_self _ _
 rw[e] at hg
 refine hg.mono fun e w' hh=>?_
 clear hg
 obtain ⟨rs,bl,he,ho,hn,hb,bel⟩:=hh
 obtain ⟨r0,rs0,b0,bb0,rfl,rfl,k0,ho⟩:=aGM.inv ho
 obtain ⟨rfl,rfl⟩:=ho
 have e0:=k0.bool
 exact ⟨he.trans (congrArg (fun l=>Ending.returned (aYF l)) (congr (congrArg List.cons e0) rfl)),bel⟩
end Go.Proofs.YtpleleanibgniaaGreat
