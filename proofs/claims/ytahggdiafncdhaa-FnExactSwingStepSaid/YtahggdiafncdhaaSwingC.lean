/- Swing: what calls do. No program in sight but the calls. -/
import Derived.Test.YtahggdiafncdhaaSwing2
import Derived.Test.YtahggdiafncdhaaLearn3
import Derived.Test.YtahggdiafncdhaaFSwing
import Derived.Test.YtahggdiafncdhaaCutKit
namespace Go.Proofs.Ytahggdiafncdhaa
open Go.ChangeShapes Go.WideShapes Go.ChangeAt Go.RowKit Go.Deep
set_option linter.unusedVariables false
set_option linter.unusedSimpArgs false
theorem copyRows_c (p0:Option Addr) (c0:Nat) (l0:List (Ty.D tRow)) (w:World) (r0:SlRd (Ty.n tRow) (rd tRow w) w p0 (List.length l0) c0 l0) (hp:c_i_copyRows.pre l0) :
  Calls Try.prog 90 #[.slice p0 (List.length l0) c0] w (fun e w'=>∃ q0 qc0,e = .returned (.slice q0 (List.length ((l0):List (Ty.D tRow))) qc0)∧FrA (.slice 92 tRow) w.heap.size w'.heap.size w' [.slice q0 (List.length ((l0):List (Ty.D tRow))) qc0] ((l0):List (Ty.D tRow))∧Below w.heap.size w w'):=by
 have hA:argsRd w c_i_copyRows.ams [.slice p0 (List.length l0) c0] (parts (c_i_copyRows.ams.map (·.mv.t)) (SV.as _ ⟨c_i_copyRows.argTy,l0⟩)):=by
  have e:SV.as (packTy (c_i_copyRows.ams.map (·.mv.t))) ⟨c_i_copyRows.argTy,l0⟩=l0:=SV.as_self _ _
  rw[e]
  exact (argsRd.cons rfl rfl (SlRd.toRd (e:=92) r0) argsRd.nil)
 have hg:=h_i_copyRows.givesL rfl (x:=l0) hp (RdG.okD (RdG.of_rd (SlRd.toRd (e:=92) r0))) hA
 have e:SV.as (packTy (c_i_copyRows.rms.map (·.t))) ⟨c_i_copyRows.resTy,c_i_copyRows.fn l0⟩=(l0):=SV.as_self _ _
 rw[e] at hg
 refine hg.mono fun e w' hh=>?_
 clear hg
 obtain ⟨rs,bl,he,ho,hn,hb,bel⟩:=hh
 obtain ⟨r0,rs0,b0,bb0,rfl,rfl,k0,ho⟩:=OutsV.inv ho
 obtain ⟨rfl,rfl⟩:=ho
 obtain ⟨q0,qc0,e0,f0⟩:=k0.slA rfl (hn.sublist (List.sublist_append_left _ _)) (fun b h=>hb b ((List.sublist_append_left _ _).subset h))
 exact ⟨q0,qc0,he.trans (congrArg (fun l=>Ending.returned (retV l)) (congr (congrArg List.cons e0) rfl)),f0,bel⟩
theorem swingOk_c (cs0:Array Value) (d0:Ty.D tModel) (cs1:Array Value) (d1:Ty.D tSwing) (w:World) (r0:rd tModel w cs0.toList d0) (r1:rd tSwing w cs1.toList d1) (hp:c_i_SwingOk.pre (d0,d1)) :
  Calls Try.prog 54 #[.agg cs0,.agg cs1] w (fun e w'=>e = .returned (.bool ((swingB d0 d1):Bool))∧Below w.heap.size w w'):=by
 have hA:argsRd w c_i_SwingOk.ams [.agg cs0,.agg cs1] (parts (c_i_SwingOk.ams.map (·.mv.t)) (SV.as _ ⟨c_i_SwingOk.argTy,(d0,d1)⟩)):=by
  have e:SV.as (packTy (c_i_SwingOk.ams.map (·.mv.t))) ⟨c_i_SwingOk.argTy,(d0,d1)⟩=(d0,d1):=SV.as_self _ _
  rw[e]
  exact (argsRd.cons rfl (by simp[mkV,Value.cells]) r0 (argsRd.cons rfl (by simp[mkV,Value.cells]) r1 argsRd.nil))
 have hg:=h_i_SwingOk.givesL rfl (x:=(d0,d1)) hp ⟨RdG.okD (RdG.of_rd r0),RdG.okD (RdG.of_rd r1)⟩ hA
 have e:SV.as (packTy (c_i_SwingOk.rms.map (·.t))) ⟨c_i_SwingOk.resTy,c_i_SwingOk.fn (d0,d1)⟩=(swingB d0 d1):=SV.as_self _ _
 rw[e] at hg
 refine hg.mono fun e w' hh=>?_
 clear hg
 obtain ⟨rs,bl,he,ho,hn,hb,bel⟩:=hh
 obtain ⟨r0,rs0,b0,bb0,rfl,rfl,k0,ho⟩:=OutsV.inv ho
 obtain ⟨rfl,rfl⟩:=ho
 have e0:=k0.bool
 exact ⟨he.trans (congrArg (fun l=>Ending.returned (retV l)) (congr (congrArg List.cons e0) rfl)),bel⟩
theorem fixAdd_c (x0:Int) (x1:Int) (w:World) (r0:(Lit.int .i64 x0).wf=true) (r1:(Lit.int .i64 x1).wf=true) (hp:c_i_FixAdd.pre (x0,x1)) :
  Calls Try.prog 91 #[.int .i64 x0,.int .i64 x1] w (fun e w'=>e = .returned (.tuple #[.int .i64 ((fixAdd x0 x1).1:Int),.bool ((fixAdd x0 x1).2:Bool)])∧Below w.heap.size w w'):=by
 have hA:argsRd w c_i_FixAdd.ams [.int .i64 x0,.int .i64 x1] (parts (c_i_FixAdd.ams.map (·.mv.t)) (SV.as _ ⟨c_i_FixAdd.argTy,(x0,x1)⟩)):=by
  have e:SV.as (packTy (c_i_FixAdd.ams.map (·.mv.t))) ⟨c_i_FixAdd.argTy,(x0,x1)⟩=(x0,x1):=SV.as_self _ _
  rw[e]
  exact (argsRd.cons rfl rfl (show rd (.int .i64) w [.int .i64 x0] x0 from ⟨rfl,r0⟩) (argsRd.cons rfl rfl (show rd (.int .i64) w [.int .i64 x1] x1 from ⟨rfl,r1⟩) argsRd.nil))
 have hg:=h_i_FixAdd.givesL rfl (x:=(x0,x1)) hp ⟨RdG.okD (RdG.of_rd (show rd (.int .i64) w [.int .i64 x0] x0 from ⟨rfl,r0⟩)),RdG.okD (RdG.of_rd (show rd (.int .i64) w [.int .i64 x1] x1 from ⟨rfl,r1⟩))⟩ hA
 have e:SV.as (packTy (c_i_FixAdd.rms.map (·.t))) ⟨c_i_FixAdd.resTy,c_i_FixAdd.fn (x0,x1)⟩=(fixAdd x0 x1):=SV.as_self _ _
 rw[e] at hg
 refine hg.mono fun e w' hh=>?_
 clear hg
 obtain ⟨rs,bl,he,ho,hn,hb,bel⟩:=hh
 obtain ⟨r0,rs0,b0,bb0,rfl,rfl,k0,ho⟩:=OutsV.inv ho
 obtain ⟨r1,rs1,b1,bb1,rfl,rfl,k1,ho⟩:=OutsV.inv ho
 obtain ⟨rfl,rfl⟩:=ho
 have e0:=k0.int
 have e1:=k1.bool
 exact ⟨he.trans (congrArg (fun l=>Ending.returned (retV l)) (congr (congrArg List.cons e0) (congr (congrArg List.cons e1) rfl))),bel⟩
theorem learn_c (cs0:Array Value) (d0:Ty.D tModel) (cs1:Array Value) (d1:Ty.D tGrads) (x2:Int) (w:World) (r0:rd tModel w cs0.toList d0) (r1:rd tGrads w cs1.toList d1) (r2:(Lit.int .i64 x2).wf=true) (hp:c_i_Learn.pre (d0,d1,x2)) :
  Calls Try.prog 26 #[.agg cs0,.agg cs1,.int .i64 x2] w (fun e w'=>∃ (rs0:Array Value),e = .returned (.tuple #[.agg rs0,.bool ((learnF d0 d1 x2).2:Bool)])∧FrA tModel w.heap.size w'.heap.size w' rs0.toList ((learnF d0 d1 x2).1:Ty.D tModel)∧Below w.heap.size w w'):=by
 have hA:argsRd w c_i_Learn.ams [.agg cs0,.agg cs1,.int .i64 x2] (parts (c_i_Learn.ams.map (·.mv.t)) (SV.as _ ⟨c_i_Learn.argTy,(d0,d1,x2)⟩)):=by
  have e:SV.as (packTy (c_i_Learn.ams.map (·.mv.t))) ⟨c_i_Learn.argTy,(d0,d1,x2)⟩=(d0,d1,x2):=SV.as_self _ _
  rw[e]
  exact (argsRd.cons rfl (by simp[mkV,Value.cells]) r0 (argsRd.cons rfl (by simp[mkV,Value.cells]) r1 (argsRd.cons rfl rfl (show rd (.int .i64) w [.int .i64 x2] x2 from ⟨rfl,r2⟩) argsRd.nil)))
 have hg:=h_i_Learn.givesL rfl (x:=(d0,d1,x2)) hp ⟨RdG.okD (RdG.of_rd r0),RdG.okD (RdG.of_rd r1),RdG.okD (RdG.of_rd (show rd (.int .i64) w [.int .i64 x2] x2 from ⟨rfl,r2⟩))⟩ hA
 have e:SV.as (packTy (c_i_Learn.rms.map (·.t))) ⟨c_i_Learn.resTy,c_i_Learn.fn (d0,d1,x2)⟩=(learnF d0 d1 x2):=SV.as_self _ _
 rw[e] at hg
 refine hg.mono fun e w' hh=>?_
 clear hg
 obtain ⟨rs,bl,he,ho,hn,hb,bel⟩:=hh
 obtain ⟨r0,rs0,b0,bb0,rfl,rfl,k0,ho⟩:=OutsV.inv ho
 obtain ⟨r1,rs1,b1,bb1,rfl,rfl,k1,ho⟩:=OutsV.inv ho
 obtain ⟨rfl,rfl⟩:=ho
 obtain ⟨e0,f0⟩:=k0.agA rfl (hn.sublist (List.sublist_append_left _ _)) (fun b h=>hb b ((List.sublist_append_left _ _).subset h))
 have e1:=k1.bool
 exact ⟨_,he.trans (congrArg (fun l=>Ending.returned (retV l)) (congr (congrArg List.cons e0) (congr (congrArg List.cons e1) rfl))),f0,bel⟩
end Go.Proofs.Ytahggdiafncdhaa
