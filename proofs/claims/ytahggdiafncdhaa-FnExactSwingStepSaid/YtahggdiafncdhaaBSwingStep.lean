/- SwingStep: what both tell. -/
import Derived.Test.YtahggdiafncdhaaSwing3
import Derived.Test.YtahggdiafncdhaaCe
import Derived.Test.YtahggdiafncdhaaFrU
import Derived.Test.YtahggdiafncdhaaTModel
import Derived.Test.YtahggdiafncdhaaTSwing
import Derived.Test.YtahggdiafncdhaaTGrads
namespace Go.Proofs.Ytahggdiafncdhaa
open Go.ChangeShapes Go.WideShapes Go.ChangeAt Go.RowKit Go.Deep
set_option linter.unusedVariables false
set_option linter.unusedSimpArgs false
theorem swingStep_both (d0:Ty.D tModel) (d1:Ty.D tSwing) (d2:Ty.D tGrads) (x3:Int) (h3:(Lit.int .i64 x3).wf=true) (x4:Int) (h4:(Lit.int .i64 x4).wf=true) (hz0:((szT tModel d0:Nat):Int)≤(1048576:Int)) (hz1:((szT tSwing d1:Nat):Int)≤(1048576:Int) - (szT tModel d0:Nat)) (hz2:((szT tGrads d2:Nat):Int)≤(1048576:Int) - (szT tModel d0:Nat) - (szT tSwing d1:Nat)) :
  ∃ (R0:Ty.D tModel) (R1:Ty.D tSwing) (R2:Bool),(∀ (cs0:Array Value) (cs1:Array Value) (cs2:Array Value) (w:World),rd tModel w cs0.toList d0→rd tSwing w cs1.toList d1→rd tGrads w cs2.toList d2→Calls Try.prog 32 #[.agg cs0,.agg cs1,.agg cs2,.int .i64 x3,.int .i64 x4] w (fun e w'=>∃ (rs0:Array Value) (rs1:Array Value),e = .returned (.tuple #[.agg rs0,.agg rs1,.bool R2])∧FrR tModel w.heap.size w'.heap.size w' rs0.toList R0∧FrR tSwing w.heap.size w'.heap.size w' rs1.toList R1∧Below w.heap.size w w')) ∧
   (∀ (cs0:Array Value) (cs1:Array Value) (cs2:Array Value) (w:World),rd tModel w cs0.toList d0→rd tSwing w cs1.toList d1→rd tGrads w cs2.toList d2→Calls Try.prog 36 #[.agg cs0,.agg cs1,.agg cs2,.int .i64 x3,.int .i64 x4] w (fun e w'=>∃ (rs0:Array Value) (rs1:Array Value) (y0:List Nat) (y1:List Nat),e = .returned (.tuple #[.agg rs0,.agg rs1,.bool R2])∧FrU tModel y0 w.heap.size w'.heap.size w' rs0.toList R0∧FrU tSwing y1 w.heap.size w'.heap.size w' rs1.toList R1∧(∀ b∈y0,b ∉ y1)∧Below w.heap.size w w'))∧(cntt tModel R0:Int)≤1000000000∧(cntt tSwing R1:Int)≤1000000000:=by
 obtain ⟨hpS,hpI⟩:=p_SwingStep d0 d1 d2 x3 x4 hz0 hz1 hz2
 refine ⟨(swingP (d0,d1,d2,x3,x4)).1,(swingP (d0,d1,d2,x3,x4)).2.1,(swingP (d0,d1,d2,x3,x4)).2.2,fun cs0 cs1 cs2 w r0 r1 r2=>?_,fun cs0 cs1 cs2 w r0 r1 r2=>?_,q_SwingStep d0 d1 d2 x3 x4 hz0 hz1 hz2⟩
 ·have hA:argsRd w c_s_SwingStep.ams [.agg cs0,.agg cs1,.agg cs2,.int .i64 x3,.int .i64 x4] (parts (c_s_SwingStep.ams.map (·.mv.t)) (SV.as _ ⟨c_s_SwingStep.argTy,(d0,d1,d2,x3,x4)⟩)):=by
   have e:SV.as (packTy (c_s_SwingStep.ams.map (·.mv.t))) ⟨c_s_SwingStep.argTy,(d0,d1,d2,x3,x4)⟩=(d0,d1,d2,x3,x4):=SV.as_self _ _
   rw[e]
   exact (argsRd.cons rfl (by simp[mkV,Value.cells]) r0 (argsRd.cons rfl (by simp[mkV,Value.cells]) r1 (argsRd.cons rfl (by simp[mkV,Value.cells]) r2 (argsRd.cons rfl rfl (show rd (.int .i64) w [.int .i64 x3] x3 from ⟨rfl,h3⟩) (argsRd.cons rfl rfl (show rd (.int .i64) w [.int .i64 x4] x4 from ⟨rfl,h4⟩) argsRd.nil)))))
  have hg:=h_s_SwingStep.givesL rfl (x:=(d0,d1,d2,x3,x4)) hpS ⟨RdG.okD (RdG.of_rd r0),RdG.okD (RdG.of_rd r1),RdG.okD (RdG.of_rd r2),RdG.okD (RdG.of_rd (show rd (.int .i64) w [.int .i64 x3] x3 from ⟨rfl,h3⟩)),RdG.okD (RdG.of_rd (show rd (.int .i64) w [.int .i64 x4] x4 from ⟨rfl,h4⟩))⟩ hA
  have e:SV.as (packTy (c_s_SwingStep.rms.map (·.t))) ⟨c_s_SwingStep.resTy,c_s_SwingStep.fn (d0,d1,d2,x3,x4)⟩=swingP (d0,d1,d2,x3,x4):=SV.as_self _ _
  rw[e] at hg
  refine hg.mono fun e w' hh=>?_
  clear hg
  obtain ⟨rs,bl,he,ho,hn,hb,bel⟩:=hh
  obtain ⟨r0,rs0,b0,bb0,rfl,rfl,k0,ho⟩:=OutsV.inv ho
  obtain ⟨r1,rs1,b1,bb1,rfl,rfl,k1,ho⟩:=OutsV.inv ho
  obtain ⟨r2,rs2,b2,bb2,rfl,rfl,k2,ho⟩:=OutsV.inv ho
  obtain ⟨rfl,rfl⟩:=ho
  obtain ⟨e0,f0⟩:=k0.agR
  obtain ⟨e1,f1⟩:=k1.agR
  have e2:=k2.bool
  exact ⟨_,_,he.trans (congrArg (fun l=>Ending.returned (retV l)) (congr (congrArg List.cons e0) (congr (congrArg List.cons e1) (congr (congrArg List.cons e2) rfl)))),f0,f1,bel⟩
 ·have hA:argsRd w c_i_SwingStep.ams [.agg cs0,.agg cs1,.agg cs2,.int .i64 x3,.int .i64 x4] (parts (c_i_SwingStep.ams.map (·.mv.t)) (SV.as _ ⟨c_i_SwingStep.argTy,(d0,d1,d2,x3,x4)⟩)):=by
   have e:SV.as (packTy (c_i_SwingStep.ams.map (·.mv.t))) ⟨c_i_SwingStep.argTy,(d0,d1,d2,x3,x4)⟩=(d0,d1,d2,x3,x4):=SV.as_self _ _
   rw[e]
   exact (argsRd.cons rfl (by simp[mkV,Value.cells]) r0 (argsRd.cons rfl (by simp[mkV,Value.cells]) r1 (argsRd.cons rfl (by simp[mkV,Value.cells]) r2 (argsRd.cons rfl rfl (show rd (.int .i64) w [.int .i64 x3] x3 from ⟨rfl,h3⟩) (argsRd.cons rfl rfl (show rd (.int .i64) w [.int .i64 x4] x4 from ⟨rfl,h4⟩) argsRd.nil)))))
  have hg:=h_i_SwingStep.givesL rfl (x:=(d0,d1,d2,x3,x4)) hpI ⟨RdG.okD (RdG.of_rd r0),RdG.okD (RdG.of_rd r1),RdG.okD (RdG.of_rd r2),RdG.okD (RdG.of_rd (show rd (.int .i64) w [.int .i64 x3] x3 from ⟨rfl,h3⟩)),RdG.okD (RdG.of_rd (show rd (.int .i64) w [.int .i64 x4] x4 from ⟨rfl,h4⟩))⟩ hA
  have e:SV.as (packTy (c_i_SwingStep.rms.map (·.t))) ⟨c_i_SwingStep.resTy,c_i_SwingStep.fn (d0,d1,d2,x3,x4)⟩=swingP (d0,d1,d2,x3,x4):=SV.as_self _ _
  rw[e] at hg
  refine hg.mono fun e w' hh=>?_
  clear hg
  obtain ⟨rs,bl,he,ho,hn,hb,bel⟩:=hh
  obtain ⟨r0,rs0,b0,bb0,rfl,rfl,k0,ho⟩:=OutsV.inv ho
  obtain ⟨r1,rs1,b1,bb1,rfl,rfl,k1,ho⟩:=OutsV.inv ho
  obtain ⟨r2,rs2,b2,bb2,rfl,rfl,k2,ho⟩:=OutsV.inv ho
  obtain ⟨rfl,rfl⟩:=ho
  obtain ⟨e0,-⟩:=k0.agR
  have f0:=FrU.of (k0.2.2 rfl) (hn.sublist (List.sublist_append_left _ _)) (fun b h=>hb b ((List.sublist_append_left _ _).subset h)) (Nat.le_refl _)
  obtain ⟨e1,-⟩:=k1.agR
  have f1:=FrU.of (k1.2.2 rfl) (hn.sublist ((List.sublist_append_left _ _).trans (List.sublist_append_right _ _))) (fun b h=>hb b (((List.sublist_append_left _ _).trans (List.sublist_append_right _ _)).subset h)) (Nat.le_refl _)
  have e2:=k2.bool
  exact ⟨_,_,b0,b1,he.trans (congrArg (fun l=>Ending.returned (retV l)) (congr (congrArg List.cons e0) (congr (congrArg List.cons e1) (congr (congrArg List.cons e2) rfl)))),f0,f1,(fun b h h2=>(List.nodup_append.1 hn).2.2 b h b (List.mem_append_left _ h2) rfl),bel⟩
end Go.Proofs.Ytahggdiafncdhaa
