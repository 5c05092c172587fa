/- BLastKept: lemmas. No conditions. -/
import Derived.Test.YtlabadaccldkaaaGreatLKS
import Derived.Test.YtlabadaccldkaaaGreatCe
import Derived.Test.YtlabadaccldkaaaGreatTPipe
namespace Go.Proofs.YtlabadaccldkaaaGreat
open Go.ChangeShapes Go.WideShapes Go.ChangeAt Go.RowKit Go.Deep
set_option linter.unusedVariables false
set_option linter.unusedSimpArgs false
theorem aEW (l0:List (Ty.D .str)) (hz0:((zU l0:Nat):Int)≤(1048576:Int)) :
  ∃ (R0:Ty.D aH) (R1:Bool),(∀ (p0:Option Addr) (c0:Nat) (w:World),bY (Ty.n .str) (rd .str w) w p0 (List.length l0) c0 l0→Calls Tryz.prog 5 #[.slice p0 (List.length l0) c0] w (fun e w'=>∃ (rs0:Array Value),e = .returned (.tuple #[.agg rs0,.bool R1])∧vN aH w.heap.size w'.heap.size w' rs0.toList R0∧Below w.heap.size w w')) ∧
   (∀ (p0:Option Addr) (c0:Nat) (w:World),bY (Ty.n .str) (rd .str w) w p0 (List.length l0) c0 l0→Calls Tryz.prog 7 #[.slice p0 (List.length l0) c0] w (fun e w'=>∃ (rs0:Array Value),e = .returned (.tuple #[.agg rs0,.bool R1])∧sN aH w.heap.size w'.heap.size w' rs0.toList R0∧Below w.heap.size w w'))∧(nI aH R0:Int)≤1000000000:=by
 obtain ⟨hpS,hpI⟩:=aND l0 hz0
 refine ⟨(qD l0).1,(qD l0).2,fun p0 c0 w r0=>?_,fun p0 c0 w r0=>?_,aLY l0 hz0⟩
 ·have hA:hX w eJ.ams [.slice p0 (List.length l0) c0] (cI (eJ.ams.map (·.mv.t)) (SV.as _ ⟨eJ.argTy,l0⟩)):=by
   have e:SV.as (bR (eJ.ams.map (·.mv.t))) ⟨eJ.argTy,l0⟩=l0:=SV.as_self _ _
   rw[e]
   exact (hX.cons rfl rfl (bY.toRd (e:=9) r0) hX.nil)
  have hg:=aI6.givesL rfl (x:=l0) hpS (eC.okD (eC.of_rd (bY.toRd (e:=9) r0))) hA
  have e:SV.as (bR (eJ.rms.map (·.t))) ⟨eJ.resTy,eJ.fn l0⟩=qD l0:=SV.as_self _ _
  rw[e] at hg
  refine hg.mono fun e w' hh=>?_
  clear hg
  obtain ⟨rs,bl,he,ho,hn,hb,bel⟩:=hh
  obtain ⟨r0,rs0,b0,bb0,rfl,rfl,k0,ho⟩:=tP.inv ho
  obtain ⟨r1,rs1,b1,bb1,rfl,rfl,k1,ho⟩:=tP.inv ho
  obtain ⟨rfl,rfl⟩:=ho
  obtain ⟨e0,f0⟩:=k0.agR
  have e1:=k1.bool
  exact ⟨_,he.trans (congrArg (fun l=>Ending.returned (aKQ l)) (congr (congrArg List.cons e0) (congr (congrArg List.cons e1) rfl))),f0,bel⟩
 ·have hA:hX w eM.ams [.slice p0 (List.length l0) c0] (cI (eM.ams.map (·.mv.t)) (SV.as _ ⟨eM.argTy,l0⟩)):=by
   have e:SV.as (bR (eM.ams.map (·.mv.t))) ⟨eM.argTy,l0⟩=l0:=SV.as_self _ _
   rw[e]
   exact (hX.cons rfl rfl (bY.toRd (e:=9) r0) hX.nil)
  have hg:=aHX.givesL rfl (x:=l0) hpI (eC.okD (eC.of_rd (bY.toRd (e:=9) r0))) hA
  have e:SV.as (bR (eM.rms.map (·.t))) ⟨eM.resTy,eM.fn l0⟩=qD l0:=SV.as_self _ _
  rw[e] at hg
  refine hg.mono fun e w' hh=>?_
  clear hg
  obtain ⟨rs,bl,he,ho,hn,hb,bel⟩:=hh
  obtain ⟨r0,rs0,b0,bb0,rfl,rfl,k0,ho⟩:=tP.inv ho
  obtain ⟨r1,rs1,b1,bb1,rfl,rfl,k1,ho⟩:=tP.inv ho
  obtain ⟨rfl,rfl⟩:=ho
  obtain ⟨e0,f0⟩:=k0.agA rfl (hn.sublist (List.sublist_append_left _ _)) (fun b h=>hb b ((List.sublist_append_left _ _).subset h))
  have e1:=k1.bool
  exact ⟨_,he.trans (congrArg (fun l=>Ending.returned (aKQ l)) (congr (congrArg List.cons e0) (congr (congrArg List.cons e1) rfl))),f0,bel⟩
end Go.Proofs.YtlabadaccldkaaaGreat
