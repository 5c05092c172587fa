/- BSimulate: lemmas. No conditions. -/
import Derived.Test.YtmfpkkbhnmkfdaaGreatRunS0
import Derived.Test.YtmfpkkbhnmkfdaaGreatCe
import Derived.Test.YtmfpkkbhnmkfdaaGreatTConfig
import Derived.Test.YtmfpkkbhnmkfdaaGreatTPair
import Derived.Test.YtmfpkkbhnmkfdaaGreatTSim
namespace Go.Proofs.YtmfpkkbhnmkfdaaGreat
open Go.ChangeShapes Go.WideShapes Go.ChangeAt Go.RowKit Go.Deep
set_option linter.unusedVariables false
set_option linter.unusedSimpArgs false
theorem aO0 (d0:Ty.D aC) (l1:List (Ty.D aI)) (hz0:((aY aC d0:Nat):Int)≤(1048576:Int)) (hz1:((aY (.slice 126 aI) l1:Nat):Int)≤(1048576:Int) - (aY aC d0:Nat)) :
  ∃ (R0:Ty.D pG),(∀ (cs0:Array Value) (p1:Option Addr) (c1:Nat) (w:World),rd aC w cs0.toList d0→dY (Ty.n aI) (rd aI w) w p1 (List.length l1) c1 l1→Calls Tryz.prog 36 #[.agg cs0,.slice p1 (List.length l1) c1] w (fun e w'=>∃ (rs0:Array Value),e = .returned (.agg rs0)∧FrR pG w.heap.size w'.heap.size w' rs0.toList R0∧Below w.heap.size w w')) ∧
   (∀ (cs0:Array Value) (p1:Option Addr) (c1:Nat) (w:World),rd aC w cs0.toList d0→dY (Ty.n aI) (rd aI w) w p1 (List.length l1) c1 l1→Calls Tryz.prog 37 #[.agg cs0,.slice p1 (List.length l1) c1] w (fun e w'=>∃ (rs0:Array Value),e = .returned (.agg rs0)∧vP pG w.heap.size w'.heap.size w' rs0.toList R0∧Below w.heap.size w w'))∧(jX pG R0:Int)≤1000000000:=by
 obtain ⟨hpS,hpI⟩:=aFS d0 l1 hz0 hz1
 refine ⟨(bIX (d0,l1)),fun cs0 p1 c1 w r0 r1=>?_,fun cs0 p1 c1 w r0 r1=>?_,aY5 d0 l1 hz0 hz1⟩
 ·have hA:eA w dB.ams [.agg cs0,.slice p1 (List.length l1) c1] (cW (dB.ams.map (·.mv.t)) (SV.as _ ⟨dB.argTy,(d0,l1)⟩)):=by
   have e:SV.as (cB (dB.ams.map (·.mv.t))) ⟨dB.argTy,(d0,l1)⟩=(d0,l1):=SV.as_self _ _
   rw[e]
   exact (eA.cons rfl (by simp[uT,Value.cells]) r0 (eA.cons rfl rfl (dY.toRd (e:=126) r1) eA.nil))
  have hg:=zA.givesL rfl (x:=(d0,l1)) hpS ⟨eJ.okD (eJ.of_rd r0),eJ.okD (eJ.of_rd (dY.toRd (e:=126) r1))⟩ hA
  have e:SV.as (cB (dB.rms.map (·.t))) ⟨dB.resTy,dB.fn (d0,l1)⟩=bIX (d0,l1):=SV.as_self _ _
  rw[e] at hg
  refine hg.mono fun e w' hh=>?_
  clear hg
  obtain ⟨rs,bl,he,ho,hn,hb,bel⟩:=hh
  obtain ⟨r0,rs0,b0,bb0,rfl,rfl,k0,ho⟩:=aA3.inv ho
  obtain ⟨rfl,rfl⟩:=ho
  obtain ⟨e0,f0⟩:=k0.agR
  exact ⟨_,he.trans (congrArg (fun l=>Ending.returned (aMK l)) (congr (congrArg List.cons e0) rfl)),f0,bel⟩
 ·have hA:eA w dC.ams [.agg cs0,.slice p1 (List.length l1) c1] (cW (dC.ams.map (·.mv.t)) (SV.as _ ⟨dC.argTy,(d0,l1)⟩)):=by
   have e:SV.as (cB (dC.ams.map (·.mv.t))) ⟨dC.argTy,(d0,l1)⟩=(d0,l1):=SV.as_self _ _
   rw[e]
   exact (eA.cons rfl (by simp[uT,Value.cells]) r0 (eA.cons rfl rfl (dY.toRd (e:=126) r1) eA.nil))
  have hg:=yK.givesL rfl (x:=(d0,l1)) hpI ⟨eJ.okD (eJ.of_rd r0),eJ.okD (eJ.of_rd (dY.toRd (e:=126) r1))⟩ hA
  have e:SV.as (cB (dC.rms.map (·.t))) ⟨dC.resTy,dC.fn (d0,l1)⟩=bIX (d0,l1):=SV.as_self _ _
  rw[e] at hg
  refine hg.mono fun e w' hh=>?_
  clear hg
  obtain ⟨rs,bl,he,ho,hn,hb,bel⟩:=hh
  obtain ⟨r0,rs0,b0,bb0,rfl,rfl,k0,ho⟩:=aA3.inv ho
  obtain ⟨rfl,rfl⟩:=ho
  obtain ⟨e0,f0⟩:=k0.agA rfl (hn.sublist (List.sublist_append_left _ _)) (fun b h=>hb b ((List.sublist_append_left _ _).subset h))
  exact ⟨_,he.trans (congrArg (fun l=>Ending.returned (aMK l)) (congr (congrArg List.cons e0) rfl)),f0,bel⟩
end Go.Proofs.YtmfpkkbhnmkfdaaGreat
