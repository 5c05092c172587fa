/- TraceOf: what both tell. -/
import Derived.Test.YtmfpkkbhnmkfdaaGreatTraceS
import Derived.Test.YtmfpkkbhnmkfdaaGreatCe
import Derived.Test.YtmfpkkbhnmkfdaaGreatTPipe
import Derived.Test.YtmfpkkbhnmkfdaaGreatTAct
namespace Go.Proofs.YtmfpkkbhnmkfdaaGreat
open Go.ChangeShapes Go.WideShapes Go.ChangeAt Go.RowKit Go.Deep
set_option linter.unusedVariables false
set_option linter.unusedSimpArgs false
theorem aJY (d0:Ty.D aF) (l1:List (Ty.D cP)) (hz0:((aW aF d0:Nat):Int)≤(1048576:Int)) (hz1:((aW aB l1:Nat):Int)≤(1048576:Int)) :
  ∃ (R0:List (Ty.D cZ)),(∀ (cs0:Array Value) (p1:Option Addr) (c1:Nat) (w:World),rd aF w cs0.toList d0→cM (Ty.n cP) (rd cP w) w p1 (List.length l1) c1 l1→Calls Tryz.prog 12 #[.agg cs0,.slice p1 (List.length l1) c1] w (fun e w'=>∃ p0 c0,e = .returned (.slice p0 (List.length R0) c0)∧yT (.slice 99 cZ) w.heap.size w'.heap.size w' [.slice p0 (List.length R0) c0] R0∧Below w.heap.size w w')) ∧
   (∀ (cs0:Array Value) (p1:Option Addr) (c1:Nat) (w:World),rd aF w cs0.toList d0→cM (Ty.n cP) (rd cP w) w p1 (List.length l1) c1 l1→Calls Tryz.prog 15 #[.agg cs0,.slice p1 (List.length l1) c1] w (fun e w'=>∃ p0 c0,e = .returned (.slice p0 (List.length R0) c0)∧tB (.slice 99 cZ) w.heap.size w'.heap.size w' [.slice p0 (List.length R0) c0] R0∧Below w.heap.size w w'))∧(bK (.slice 99 cZ) R0:Int)≤1000000000:=by
 obtain ⟨hpS,hpI⟩:=aX0 d0 l1 hz0 hz1
 refine ⟨(aEX (d0,l1)),fun cs0 p1 c1 w r0 r1=>?_,fun cs0 p1 c1 w r0 r1=>?_,aWV d0 l1 hz0 hz1⟩
 ·have hA:jJ w gA.ams [.agg cs0,.slice p1 (List.length l1) c1] (cS (gA.ams.map (·.mv.t)) (SV.as _ ⟨gA.argTy,(d0,l1)⟩)):=by
   have e:SV.as (cB (gA.ams.map (·.mv.t))) ⟨gA.argTy,(d0,l1)⟩=(d0,l1):=SV.as_self _ _
   rw[e]
   exact (jJ.cons rfl (by simp[tM,Value.cells]) r0 (jJ.cons rfl rfl (cM.toRd (e:=3) r1) jJ.nil))
  have hg:=aNZ.givesL rfl (x:=(d0,l1)) hpS ⟨eR.okD (eR.of_rd r0),eR.okD (eR.of_rd (cM.toRd (e:=3) r1))⟩ hA
  have e:SV.as (cB (gA.rms.map (·.t))) ⟨gA.resTy,gA.fn (d0,l1)⟩=aEX (d0,l1):=SV.as_self _ _
  rw[e] at hg
  refine hg.mono fun e w' hh=>?_
  clear hg
  obtain ⟨rs,bl,he,ho,hn,hb,bel⟩:=hh
  obtain ⟨r0,rs0,b0,bb0,rfl,rfl,k0,ho⟩:=aDS.inv ho
  obtain ⟨rfl,rfl⟩:=ho
  obtain ⟨q0,qc0,e0,f0⟩:=k0.slR
  exact ⟨q0,qc0,he.trans (congrArg (fun l=>Ending.returned (aQR l)) (congr (congrArg List.cons e0) rfl)),f0,bel⟩
 ·have hA:jJ w gB.ams [.agg cs0,.slice p1 (List.length l1) c1] (cS (gB.ams.map (·.mv.t)) (SV.as _ ⟨gB.argTy,(d0,l1)⟩)):=by
   have e:SV.as (cB (gB.ams.map (·.mv.t))) ⟨gB.argTy,(d0,l1)⟩=(d0,l1):=SV.as_self _ _
   rw[e]
   exact (jJ.cons rfl (by simp[tM,Value.cells]) r0 (jJ.cons rfl rfl (cM.toRd (e:=3) r1) jJ.nil))
  have hg:=aO9.givesL rfl (x:=(d0,l1)) hpI ⟨eR.okD (eR.of_rd r0),eR.okD (eR.of_rd (cM.toRd (e:=3) r1))⟩ hA
  have e:SV.as (cB (gB.rms.map (·.t))) ⟨gB.resTy,gB.fn (d0,l1)⟩=aEX (d0,l1):=SV.as_self _ _
  rw[e] at hg
  refine hg.mono fun e w' hh=>?_
  clear hg
  obtain ⟨rs,bl,he,ho,hn,hb,bel⟩:=hh
  obtain ⟨r0,rs0,b0,bb0,rfl,rfl,k0,ho⟩:=aDS.inv ho
  obtain ⟨rfl,rfl⟩:=ho
  obtain ⟨q0,qc0,e0,f0⟩:=k0.slA rfl (hn.sublist (List.sublist_append_left _ _)) (fun b h=>hb b ((List.sublist_append_left _ _).subset h))
  exact ⟨q0,qc0,he.trans (congrArg (fun l=>Ending.returned (aQR l)) (congr (congrArg List.cons e0) rfl)),f0,bel⟩
end Go.Proofs.YtmfpkkbhnmkfdaaGreat
