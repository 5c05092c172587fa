/- EFnMoments: lemmas. No conditions. -/
import Derived.Test.YtpafjioccjpmfaaGreatLawMo
import Derived.Test.YtpafjioccjpmfaaGreatCe
namespace Go.Proofs.YtpafjioccjpmfaaGreat
open Go.ChangeShapes Go.WideShapes Go.ChangeAt Go.RowKit Go.Deep
set_option linter.unusedVariables false
set_option linter.unusedSimpArgs false
theorem fnMoments_walk (w:World) (p0:Option Addr) (len0 cap0:Nat) (l0:List (Ty.D (.int .u8))) (h0:rK (Ty.n (.int .u8)) (rd (.int .u8) w) w p0 len0 cap0 l0) :
  Calls Tryz.prog 4 #[.slice p0 len0 cap0] w fun e w'=>e = .returned (.bool true)∧Below w.heap.size w w':=by
 have hA:mH w c_w_FnMoments.ams [.slice p0 len0 cap0] (dE (c_w_FnMoments.ams.map (·.mv.t)) (SV.as _ ⟨c_w_FnMoments.argTy,l0⟩)):=by
  have e:SV.as (cL (c_w_FnMoments.ams.map (·.mv.t))) ⟨c_w_FnMoments.argTy,l0⟩=l0:=SV.as_self _ _
  rw[e]
  exact (mH.cons rfl rfl (rK.toRd (e:=5) h0) mH.nil)
 have hg:=h_w_FnMoments.givesL rfl (x:=l0) trivial (fM.okD (fM.of_rd (rK.toRd (e:=5) h0))) hA rfl (aKO _)
 have e:SV.as (cL (c_w_FnMoments.rms.map (·.t))) ⟨c_w_FnMoments.resTy,c_w_FnMoments.fn l0⟩=true:=SV.as_self _ _
 rw[e] at hg
 refine hg.mono fun e w' hh=>?_
 clear hg
 obtain ⟨rs,bl,he,ho,hn,hb,bel⟩:=hh
 obtain ⟨r0,rs0,b0,bb0,rfl,rfl,k0,ho⟩:=aIB.inv ho
 obtain ⟨rfl,rfl⟩:=ho
 have e0:=k0.bool
 exact ⟨he.trans (congrArg (fun l=>Ending.returned (aY0 l)) (congr (congrArg List.cons e0) rfl)),bel⟩
end Go.Proofs.YtpafjioccjpmfaaGreat
