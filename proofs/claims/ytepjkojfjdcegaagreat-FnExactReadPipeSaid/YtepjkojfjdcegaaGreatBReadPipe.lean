/- ReadPipe: what both tell. -/
import Derived.Test.YtepjkojfjdcegaaGreatReadPS
import Derived.Test.YtepjkojfjdcegaaGreatCe
import Derived.Test.YtepjkojfjdcegaaGreatTPipe
namespace Go.Proofs.YtepjkojfjdcegaaGreat
open Go.ChangeShapes Go.WideShapes Go.ChangeAt Go.RowKit Go.Deep
set_option linter.unusedVariables false
set_option linter.unusedSimpArgs false
theorem readPipe_both (x0:ByteArray) (h0:x0.size≤maxLen) (hz0:(x0.size:Int)≤1048576) :
  ∃ (R0:Ty.D tPipe) (R1:Bool),(∀ (w:World),Calls Tryz.prog 31 #[.string x0] w (fun e w'=>∃ (rs0:Array Value),e = .returned (.tuple #[.agg rs0,.bool R1])∧FrR tPipe w.heap.size w'.heap.size w' rs0.toList R0∧Below w.heap.size w w')) ∧
   (∀ (w:World),Calls Tryz.prog 32 #[.string x0] w (fun e w'=>∃ (rs0:Array Value),e = .returned (.tuple #[.agg rs0,.bool R1])∧FrA tPipe w.heap.size w'.heap.size w' rs0.toList R0∧Below w.heap.size w w'))∧(cntt tPipe R0:Int)≤1000000000:=by
 obtain ⟨hpS,hpI⟩:=p_ReadPipe x0 hz0
 refine ⟨(rdPI x0).1,(rdPI x0).2,fun w=>?_,fun w=>?_,q_ReadPipe x0 hz0⟩
 ·have hA:argsRd w c_s_ReadPipe.ams [.string x0] (parts (c_s_ReadPipe.ams.map (·.mv.t)) (SV.as _ ⟨c_s_ReadPipe.argTy,x0⟩)):=by
   have e:SV.as (packTy (c_s_ReadPipe.ams.map (·.mv.t))) ⟨c_s_ReadPipe.argTy,x0⟩ = x0:=SV.as_self _ _
   rw [e]
   exact (argsRd.cons rfl rfl (show rd .str w [.string x0] x0 from ⟨rfl,h0⟩) argsRd.nil)
  have hg:=h_s_ReadPipe.givesL rfl (x:=x0) hpS (RdG.okD (RdG.of_rd (show rd .str w [.string x0] x0 from ⟨rfl,h0⟩))) hA
  have ef:c_s_ReadPipe.fn x0 = rdPI x0:=by dsimp only [c_s_ReadPipe];exact (rdP_eq x0).symm
  have e:SV.as (packTy (c_s_ReadPipe.rms.map (·.t))) ⟨c_s_ReadPipe.resTy,c_s_ReadPipe.fn x0⟩ = rdPI x0:=(SV.as_self _ _).trans ef
  rw [e] at hg
  refine hg.mono fun e w' hh=>?_
  clear hg
  obtain ⟨rs,bl,he,ho,hn,hb,bel⟩:=hh
  obtain ⟨r0,rs0,b0,bb0,rfl,rfl,k0,ho⟩:=OutsV.inv ho
  obtain ⟨r1,rs1,b1,bb1,rfl,rfl,k1,ho⟩:=OutsV.inv ho
  obtain ⟨rfl,rfl⟩:=ho
  obtain ⟨e0,f0⟩:=k0.agR
  have e1:=k1.bool
  exact ⟨_,he.trans (congrArg (fun l=>Ending.returned (retV l)) (congr (congrArg List.cons e0) (congr (congrArg List.cons e1) rfl))),f0,bel⟩
 ·have hA:argsRd w c_i_ReadPipe.ams [.string x0] (parts (c_i_ReadPipe.ams.map (·.mv.t)) (SV.as _ ⟨c_i_ReadPipe.argTy,x0⟩)):=by
   have e:SV.as (packTy (c_i_ReadPipe.ams.map (·.mv.t))) ⟨c_i_ReadPipe.argTy,x0⟩ = x0:=SV.as_self _ _
   rw [e]
   exact (argsRd.cons rfl rfl (show rd .str w [.string x0] x0 from ⟨rfl,h0⟩) argsRd.nil)
  have hg:=h_i_ReadPipe.givesL rfl (x:=x0) hpI (RdG.okD (RdG.of_rd (show rd .str w [.string x0] x0 from ⟨rfl,h0⟩))) hA
  have ef:c_i_ReadPipe.fn x0 = rdPI x0:=by dsimp only [c_i_ReadPipe]
  have e:SV.as (packTy (c_i_ReadPipe.rms.map (·.t))) ⟨c_i_ReadPipe.resTy,c_i_ReadPipe.fn x0⟩ = rdPI x0:=(SV.as_self _ _).trans ef
  rw [e] at hg
  refine hg.mono fun e w' hh=>?_
  clear hg
  obtain ⟨rs,bl,he,ho,hn,hb,bel⟩:=hh
  obtain ⟨r0,rs0,b0,bb0,rfl,rfl,k0,ho⟩:=OutsV.inv ho
  obtain ⟨r1,rs1,b1,bb1,rfl,rfl,k1,ho⟩:=OutsV.inv ho
  obtain ⟨rfl,rfl⟩:=ho
  obtain ⟨e0,f0⟩:=k0.agA rfl (hn.sublist (List.sublist_append_left _ _)) (fun b h=>hb b ((List.sublist_append_left _ _).subset h))
  have e1:=k1.bool
  exact ⟨_,he.trans (congrArg (fun l=>Ending.returned (retV l)) (congr (congrArg List.cons e0) (congr (congrArg List.cons e1) rfl))),f0,bel⟩
end Go.Proofs.YtepjkojfjdcegaaGreat
