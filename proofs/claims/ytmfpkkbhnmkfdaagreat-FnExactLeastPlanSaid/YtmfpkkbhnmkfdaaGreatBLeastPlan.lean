/- BLeastPlan: lemmas. No conditions. -/
import Derived.Test.YtmfpkkbhnmkfdaaGreatRunS
import Derived.Test.YtmfpkkbhnmkfdaaGreatCe
import Derived.Test.YtmfpkkbhnmkfdaaGreatTConfig
import Derived.Test.YtmfpkkbhnmkfdaaGreatTPair
namespace Go.Proofs.YtmfpkkbhnmkfdaaGreat
open Go.ChangeShapes Go.WideShapes Go.ChangeAt Go.RowKit Go.Deep
set_option linter.unusedVariables false
set_option linter.unusedSimpArgs false
theorem aLY (d0:Ty.D aC) (l1:List (Ty.D aI)) (hz0:((aY aC d0:Nat):Int)≤(1048576:Int)) (hz1:((aY (.slice 126 aI) l1:Nat):Int)≤(1048576:Int) - (aY aC d0:Nat)) :
  ∃ (R0:Int),(∀ (cs0:Array Value) (p1:Option Addr) (c1:Nat) (w:World),rd aC w cs0.toList d0→dY (Ty.n aI) (rd aI w) w p1 (List.length l1) c1 l1→Calls Tryz.prog 44 #[.agg cs0,.slice p1 (List.length l1) c1] w (fun e w'=>e = .returned (.int .i64 R0)∧Below w.heap.size w w')) ∧
   (∀ (cs0:Array Value) (p1:Option Addr) (c1:Nat) (w:World),rd aC w cs0.toList d0→dY (Ty.n aI) (rd aI w) w p1 (List.length l1) c1 l1→Calls Tryz.prog 45 #[.agg cs0,.slice p1 (List.length l1) c1] w (fun e w'=>e = .returned (.int .i64 R0)∧Below w.heap.size w w')):=by
 obtain ⟨hpS,hpI⟩:=aXP d0 l1 hz0 hz1
 refine ⟨(aYP (d0,l1)),fun cs0 p1 c1 w r0 r1=>?_,fun cs0 p1 c1 w r0 r1=>?_⟩
 ·have hA:eA w fE.ams [.agg cs0,.slice p1 (List.length l1) c1] (cW (fE.ams.map (·.mv.t)) (SV.as _ ⟨fE.argTy,(d0,l1)⟩)):=by
   have e:SV.as (cB (fE.ams.map (·.mv.t))) ⟨fE.argTy,(d0,l1)⟩=(d0,l1):=SV.as_self _ _
   rw[e]
   exact (eA.cons rfl (by simp[uT,Value.cells]) r0 (eA.cons rfl rfl (dY.toRd (e:=126) r1) eA.nil))
  have hg:=aOA.givesL rfl (x:=(d0,l1)) hpS ⟨eJ.okD (eJ.of_rd r0),eJ.okD (eJ.of_rd (dY.toRd (e:=126) r1))⟩ hA
  have e:SV.as (cB (fE.rms.map (·.t))) ⟨fE.resTy,fE.fn (d0,l1)⟩=aYP (d0,l1):=SV.as_self _ _
  rw[e] at hg
  refine hg.mono fun e w' hh=>?_
  clear hg
  obtain ⟨rs,bl,he,ho,hn,hb,bel⟩:=hh
  obtain ⟨r0,rs0,b0,bb0,rfl,rfl,k0,ho⟩:=aA3.inv ho
  obtain ⟨rfl,rfl⟩:=ho
  have e0:=k0.int
  exact ⟨he.trans (congrArg (fun l=>Ending.returned (aMK l)) (congr (congrArg List.cons e0) rfl)),bel⟩
 ·have hA:eA w fC.ams [.agg cs0,.slice p1 (List.length l1) c1] (cW (fC.ams.map (·.mv.t)) (SV.as _ ⟨fC.argTy,(d0,l1)⟩)):=by
   have e:SV.as (cB (fC.ams.map (·.mv.t))) ⟨fC.argTy,(d0,l1)⟩=(d0,l1):=SV.as_self _ _
   rw[e]
   exact (eA.cons rfl (by simp[uT,Value.cells]) r0 (eA.cons rfl rfl (dY.toRd (e:=126) r1) eA.nil))
  have hg:=aOD.givesL rfl (x:=(d0,l1)) hpI ⟨eJ.okD (eJ.of_rd r0),eJ.okD (eJ.of_rd (dY.toRd (e:=126) r1))⟩ hA
  have e:SV.as (cB (fC.rms.map (·.t))) ⟨fC.resTy,fC.fn (d0,l1)⟩=aYP (d0,l1):=SV.as_self _ _
  rw[e] at hg
  refine hg.mono fun e w' hh=>?_
  clear hg
  obtain ⟨rs,bl,he,ho,hn,hb,bel⟩:=hh
  obtain ⟨r0,rs0,b0,bb0,rfl,rfl,k0,ho⟩:=aA3.inv ho
  obtain ⟨rfl,rfl⟩:=ho
  have e0:=k0.int
  exact ⟨he.trans (congrArg (fun l=>Ending.returned (aMK l)) (congr (congrArg List.cons e0) rfl)),bel⟩
end Go.Proofs.YtmfpkkbhnmkfdaaGreat
