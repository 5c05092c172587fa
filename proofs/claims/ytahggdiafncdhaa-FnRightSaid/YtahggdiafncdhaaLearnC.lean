/- Learning: what calls do; a walk by hand. No program in sight but the calls. -/
import Derived.Test.YtahggdiafncdhaaLearn2
import Derived.Test.YtahggdiafncdhaaFModel
import Derived.Test.YtahggdiafncdhaaFGrads
import Derived.Test.YtahggdiafncdhaaFRow
import Derived.Test.YtahggdiafncdhaaUPath
import Derived.Test.YtahggdiafncdhaaCe
import Derived.IntWalk
namespace Go.Proofs.Ytahggdiafncdhaa
open Go.ChangeShapes Go.WideShapes Go.ChangeAt Go.RowKit Go.Deep
set_option linter.unusedVariables false
set_option linter.unusedSimpArgs false
theorem copyModel_c (cs0:Array Value) (d0:Ty.D tModel) (w:World) (r0:rd tModel w cs0.toList d0) (hp:c_i_copyModel.pre d0) :
  Calls Try.prog 72 #[.agg cs0] w (fun e w'=>∃ (rs0:Array Value),e = .returned (.agg rs0)∧FrA tModel w.heap.size w'.heap.size w' rs0.toList ((d0):Ty.D tModel)∧Below w.heap.size w w'):=by
 have hA:argsRd w c_i_copyModel.ams [.agg cs0] (parts (c_i_copyModel.ams.map (·.mv.t)) (SV.as _ ⟨c_i_copyModel.argTy,d0⟩)):=by
  have e:SV.as (packTy (c_i_copyModel.ams.map (·.mv.t))) ⟨c_i_copyModel.argTy,d0⟩=d0:=SV.as_self _ _
  rw[e]
  exact (argsRd.cons rfl (by simp[mkV,Value.cells]) r0 argsRd.nil)
 have hg:=h_i_copyModel.givesL rfl (x:=d0) hp (RdG.okD (RdG.of_rd r0)) hA
 have e:SV.as (packTy (c_i_copyModel.rms.map (·.t))) ⟨c_i_copyModel.resTy,c_i_copyModel.fn d0⟩=(d0):=SV.as_self _ _
 rw[e] at hg
 refine hg.mono fun e w' hh=>?_
 clear hg
 obtain ⟨rs,bl,he,ho,hn,hb,bel⟩:=hh
 obtain ⟨r0,rs0,b0,bb0,rfl,rfl,k0,ho⟩:=OutsV.inv ho
 obtain ⟨rfl,rfl⟩:=ho
 obtain ⟨e0,f0⟩:=k0.agA rfl (hn.sublist (List.sublist_append_left _ _)) (fun b h=>hb b ((List.sublist_append_left _ _).subset h))
 exact ⟨_,he.trans (congrArg (fun l=>Ending.returned (retV l)) (congr (congrArg List.cons e0) rfl)),f0,bel⟩
theorem modelOk_c (cs0:Array Value) (d0:Ty.D tModel) (w:World) (r0:rd tModel w cs0.toList d0) (hp:c_i_ModelOk.pre d0) :
  Calls Try.prog 73 #[.agg cs0] w (fun e w'=>e = .returned (.bool ((modelB d0):Bool))∧Below w.heap.size w w'):=by
 have hA:argsRd w c_i_ModelOk.ams [.agg cs0] (parts (c_i_ModelOk.ams.map (·.mv.t)) (SV.as _ ⟨c_i_ModelOk.argTy,d0⟩)):=by
  have e:SV.as (packTy (c_i_ModelOk.ams.map (·.mv.t))) ⟨c_i_ModelOk.argTy,d0⟩=d0:=SV.as_self _ _
  rw[e]
  exact (argsRd.cons rfl (by simp[mkV,Value.cells]) r0 argsRd.nil)
 have hg:=h_i_ModelOk.givesL rfl (x:=d0) hp (RdG.okD (RdG.of_rd r0)) hA
 have e:SV.as (packTy (c_i_ModelOk.rms.map (·.t))) ⟨c_i_ModelOk.resTy,c_i_ModelOk.fn d0⟩=(modelB d0):=SV.as_self _ _
 rw[e] at hg
 refine hg.mono fun e w' hh=>?_
 clear hg
 obtain ⟨rs,bl,he,ho,hn,hb,bel⟩:=hh
 obtain ⟨r0,rs0,b0,bb0,rfl,rfl,k0,ho⟩:=OutsV.inv ho
 obtain ⟨rfl,rfl⟩:=ho
 have e0:=k0.bool
 exact ⟨he.trans (congrArg (fun l=>Ending.returned (retV l)) (congr (congrArg List.cons e0) rfl)),bel⟩
theorem fixOk_c (x0:Int) (w:World) (r0:(Lit.int .i64 x0).wf=true) (hp:c_i_FixOk.pre x0) :
  Calls Try.prog 74 #[.int .i64 x0] w (fun e w'=>e = .returned (.bool ((fixB x0):Bool))∧Below w.heap.size w w'):=by
 have hA:argsRd w c_i_FixOk.ams [.int .i64 x0] (parts (c_i_FixOk.ams.map (·.mv.t)) (SV.as _ ⟨c_i_FixOk.argTy,x0⟩)):=by
  have e:SV.as (packTy (c_i_FixOk.ams.map (·.mv.t))) ⟨c_i_FixOk.argTy,x0⟩=x0:=SV.as_self _ _
  rw[e]
  exact (argsRd.cons rfl rfl (show rd (.int .i64) w [.int .i64 x0] x0 from ⟨rfl,r0⟩) argsRd.nil)
 have hg:=h_i_FixOk.givesL rfl (x:=x0) hp (RdG.okD (RdG.of_rd (show rd (.int .i64) w [.int .i64 x0] x0 from ⟨rfl,r0⟩))) hA
 have e:SV.as (packTy (c_i_FixOk.rms.map (·.t))) ⟨c_i_FixOk.resTy,c_i_FixOk.fn x0⟩=(fixB x0):=SV.as_self _ _
 rw[e] at hg
 refine hg.mono fun e w' hh=>?_
 clear hg
 obtain ⟨rs,bl,he,ho,hn,hb,bel⟩:=hh
 obtain ⟨r0,rs0,b0,bb0,rfl,rfl,k0,ho⟩:=OutsV.inv ho
 obtain ⟨rfl,rfl⟩:=ho
 have e0:=k0.bool
 exact ⟨he.trans (congrArg (fun l=>Ending.returned (retV l)) (congr (congrArg List.cons e0) rfl)),bel⟩
theorem fits_c (cs0:Array Value) (d0:Ty.D tModel) (p1:Option Addr) (c1:Nat) (l1:List (Ty.D tRow)) (w:World) (r0:rd tModel w cs0.toList d0) (r1:SlRd (Ty.n tRow) (rd tRow w) w p1 (List.length l1) c1 l1) (hp:c_i_gradsFit.pre (d0,l1)) :
  Calls Try.prog 75 #[.agg cs0,.slice p1 (List.length l1) c1] w (fun e w'=>e = .returned (.bool ((fitB d0 l1):Bool))∧Below w.heap.size w w'):=by
 have hA:argsRd w c_i_gradsFit.ams [.agg cs0,.slice p1 (List.length l1) c1] (parts (c_i_gradsFit.ams.map (·.mv.t)) (SV.as _ ⟨c_i_gradsFit.argTy,(d0,l1)⟩)):=by
  have e:SV.as (packTy (c_i_gradsFit.ams.map (·.mv.t))) ⟨c_i_gradsFit.argTy,(d0,l1)⟩=(d0,l1):=SV.as_self _ _
  rw[e]
  exact (argsRd.cons rfl (by simp[mkV,Value.cells]) r0 (argsRd.cons rfl rfl (SlRd.toRd (e:=92) r1) argsRd.nil))
 have hg:=h_i_gradsFit.givesL rfl (x:=(d0,l1)) hp ⟨RdG.okD (RdG.of_rd r0),RdG.okD (RdG.of_rd (SlRd.toRd (e:=92) r1))⟩ hA
 have e:SV.as (packTy (c_i_gradsFit.rms.map (·.t))) ⟨c_i_gradsFit.resTy,c_i_gradsFit.fn (d0,l1)⟩=(fitB d0 l1):=SV.as_self _ _
 rw[e] at hg
 refine hg.mono fun e w' hh=>?_
 clear hg
 obtain ⟨rs,bl,he,ho,hn,hb,bel⟩:=hh
 obtain ⟨r0,rs0,b0,bb0,rfl,rfl,k0,ho⟩:=OutsV.inv ho
 obtain ⟨rfl,rfl⟩:=ho
 have e0:=k0.bool
 exact ⟨he.trans (congrArg (fun l=>Ending.returned (retV l)) (congr (congrArg List.cons e0) rfl)),bel⟩
theorem fixMul_c (x0:Int) (x1:Int) (w:World) (r0:(Lit.int .i64 x0).wf=true) (r1:(Lit.int .i64 x1).wf=true) (hp:c_i_FixMul.pre (x0,x1)) :
  Calls Try.prog 76 #[.int .i64 x0,.int .i64 x1] w (fun e w'=>e = .returned (.tuple #[.int .i64 ((fixMul x0 x1).1:Int),.bool ((fixMul x0 x1).2:Bool)])∧Below w.heap.size w w'):=by
 have hA:argsRd w c_i_FixMul.ams [.int .i64 x0,.int .i64 x1] (parts (c_i_FixMul.ams.map (·.mv.t)) (SV.as _ ⟨c_i_FixMul.argTy,(x0,x1)⟩)):=by
  have e:SV.as (packTy (c_i_FixMul.ams.map (·.mv.t))) ⟨c_i_FixMul.argTy,(x0,x1)⟩=(x0,x1):=SV.as_self _ _
  rw[e]
  exact (argsRd.cons rfl rfl (show rd (.int .i64) w [.int .i64 x0] x0 from ⟨rfl,r0⟩) (argsRd.cons rfl rfl (show rd (.int .i64) w [.int .i64 x1] x1 from ⟨rfl,r1⟩) argsRd.nil))
 have hg:=h_i_FixMul.givesL rfl (x:=(x0,x1)) hp ⟨RdG.okD (RdG.of_rd (show rd (.int .i64) w [.int .i64 x0] x0 from ⟨rfl,r0⟩)),RdG.okD (RdG.of_rd (show rd (.int .i64) w [.int .i64 x1] x1 from ⟨rfl,r1⟩))⟩ hA
 have e:SV.as (packTy (c_i_FixMul.rms.map (·.t))) ⟨c_i_FixMul.resTy,c_i_FixMul.fn (x0,x1)⟩=(fixMul x0 x1):=SV.as_self _ _
 rw[e] at hg
 refine hg.mono fun e w' hh=>?_
 clear hg
 obtain ⟨rs,bl,he,ho,hn,hb,bel⟩:=hh
 obtain ⟨r0,rs0,b0,bb0,rfl,rfl,k0,ho⟩:=OutsV.inv ho
 obtain ⟨r1,rs1,b1,bb1,rfl,rfl,k1,ho⟩:=OutsV.inv ho
 obtain ⟨rfl,rfl⟩:=ho
 have e0:=k0.int
 have e1:=k1.bool
 exact ⟨he.trans (congrArg (fun l=>Ending.returned (retV l)) (congr (congrArg List.cons e0) (congr (congrArg List.cons e1) rfl))),bel⟩
theorem fixSub_c (x0:Int) (x1:Int) (w:World) (r0:(Lit.int .i64 x0).wf=true) (r1:(Lit.int .i64 x1).wf=true) (hp:c_i_FixSub.pre (x0,x1)) :
  Calls Try.prog 77 #[.int .i64 x0,.int .i64 x1] w (fun e w'=>e = .returned (.tuple #[.int .i64 ((fixSub x0 x1).1:Int),.bool ((fixSub x0 x1).2:Bool)])∧Below w.heap.size w w'):=by
 have hA:argsRd w c_i_FixSub.ams [.int .i64 x0,.int .i64 x1] (parts (c_i_FixSub.ams.map (·.mv.t)) (SV.as _ ⟨c_i_FixSub.argTy,(x0,x1)⟩)):=by
  have e:SV.as (packTy (c_i_FixSub.ams.map (·.mv.t))) ⟨c_i_FixSub.argTy,(x0,x1)⟩=(x0,x1):=SV.as_self _ _
  rw[e]
  exact (argsRd.cons rfl rfl (show rd (.int .i64) w [.int .i64 x0] x0 from ⟨rfl,r0⟩) (argsRd.cons rfl rfl (show rd (.int .i64) w [.int .i64 x1] x1 from ⟨rfl,r1⟩) argsRd.nil))
 have hg:=h_i_FixSub.givesL rfl (x:=(x0,x1)) hp ⟨RdG.okD (RdG.of_rd (show rd (.int .i64) w [.int .i64 x0] x0 from ⟨rfl,r0⟩)),RdG.okD (RdG.of_rd (show rd (.int .i64) w [.int .i64 x1] x1 from ⟨rfl,r1⟩))⟩ hA
 have e:SV.as (packTy (c_i_FixSub.rms.map (·.t))) ⟨c_i_FixSub.resTy,c_i_FixSub.fn (x0,x1)⟩=(fixSub x0 x1):=SV.as_self _ _
 rw[e] at hg
 refine hg.mono fun e w' hh=>?_
 clear hg
 obtain ⟨rs,bl,he,ho,hn,hb,bel⟩:=hh
 obtain ⟨r0,rs0,b0,bb0,rfl,rfl,k0,ho⟩:=OutsV.inv ho
 obtain ⟨r1,rs1,b1,bb1,rfl,rfl,k1,ho⟩:=OutsV.inv ho
 obtain ⟨rfl,rfl⟩:=ho
 have e0:=k0.int
 have e1:=k1.bool
 exact ⟨he.trans (congrArg (fun l=>Ending.returned (retV l)) (congr (congrArg List.cons e0) (congr (congrArg List.cons e1) rfl))),bel⟩
def RetLearn (w:World) (R:tModel.D × Bool) (e:Ending) (w':World):Prop:=∃ cs':Array Value,e = .returned (.tuple #[.agg cs',.bool R.2])∧FrA tModel w.heap.size w'.heap.size w' cs'.toList R.1∧Below w.heap.size w w'
end Go.Proofs.Ytahggdiafncdhaa
