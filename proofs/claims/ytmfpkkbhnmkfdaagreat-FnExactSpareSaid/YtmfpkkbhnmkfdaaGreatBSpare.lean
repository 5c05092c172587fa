/- BSpare: lemmas. No conditions. -/
import Derived.Test.YtmfpkkbhnmkfdaaGreatRunS
import Derived.Test.YtmfpkkbhnmkfdaaGreatCe
import Derived.Test.YtmfpkkbhnmkfdaaGreatTConfig
import Derived.Test.YtmfpkkbhnmkfdaaGreatTPair
namespace Go.Proofs.YtmfpkkbhnmkfdaaGreat
open Go.ChangeShapes Go.WideShapes Go.ChangeAt Go.RowKit Go.Deep
set_option linter.unusedVariables false
set_option linter.unusedSimpArgs false
theorem bBO (d0:Ty.D aC) (l1:List (Ty.D aI)) (hz0:((aY aC d0:Nat):Int)≤(1048576:Int)) (hz1:((aY (.slice 126 aI) l1:Nat):Int)≤(1048576:Int) - (aY aC d0:Nat)) :
  ∃ (R0:List (Ty.D fG)),(∀ (cs0:Array Value) (p1:Option Addr) (c1:Nat) (w:World),rd aC w cs0.toList d0→dY (Ty.n aI) (rd aI w) w p1 (List.length l1) c1 l1→Calls Tryz.prog 41 #[.agg cs0,.slice p1 (List.length l1) c1] w (fun e w'=>∃ p0 c0,e = .returned (.slice p0 (List.length R0) c0)∧FrR aB w.heap.size w'.heap.size w' [.slice p0 (List.length R0) c0] R0∧Below w.heap.size w w')) ∧
   (∀ (cs0:Array Value) (p1:Option Addr) (c1:Nat) (w:World),rd aC w cs0.toList d0→dY (Ty.n aI) (rd aI w) w p1 (List.length l1) c1 l1→Calls Tryz.prog 42 #[.agg cs0,.slice p1 (List.length l1) c1] w (fun e w'=>∃ p0 c0,e = .returned (.slice p0 (List.length R0) c0)∧vP aB w.heap.size w'.heap.size w' [.slice p0 (List.length R0) c0] R0∧Below w.heap.size w w'))∧(jD aB R0:Int)≤1000000000:=by
 obtain ⟨hpS,hpI⟩:=bMV d0 l1 hz0 hz1
 refine ⟨(aIB (d0,l1)),fun cs0 p1 c1 w r0 r1=>?_,fun cs0 p1 c1 w r0 r1=>?_,bN4 d0 l1 hz0 hz1⟩
 ·have hA:eA w lA.ams [.agg cs0,.slice p1 (List.length l1) c1] (cW (lA.ams.map (·.mv.t)) (SV.as _ ⟨lA.argTy,(d0,l1)⟩)):=by
   have e:SV.as (cB (lA.ams.map (·.mv.t))) ⟨lA.argTy,(d0,l1)⟩=(d0,l1):=SV.as_self _ _
   rw[e]
   exact (eA.cons rfl (by simp[uT,Value.cells]) r0 (eA.cons rfl rfl (dY.toRd (e:=126) r1) eA.nil))
  have hg:=bFF.givesL rfl (x:=(d0,l1)) hpS ⟨eJ.okD (eJ.of_rd r0),eJ.okD (eJ.of_rd (dY.toRd (e:=126) r1))⟩ hA
  have e:SV.as (cB (lA.rms.map (·.t))) ⟨lA.resTy,lA.fn (d0,l1)⟩=aIB (d0,l1):=SV.as_self _ _
  rw[e] at hg
  refine hg.mono fun e w' hh=>?_
  clear hg
  obtain ⟨rs,bl,he,ho,hn,hb,bel⟩:=hh
  obtain ⟨r0,rs0,b0,bb0,rfl,rfl,k0,ho⟩:=aA3.inv ho
  obtain ⟨rfl,rfl⟩:=ho
  obtain ⟨q0,qc0,e0,f0⟩:=k0.slR
  exact ⟨q0,qc0,he.trans (congrArg (fun l=>Ending.returned (aMK l)) (congr (congrArg List.cons e0) rfl)),f0,bel⟩
 ·have hA:eA w kY.ams [.agg cs0,.slice p1 (List.length l1) c1] (cW (kY.ams.map (·.mv.t)) (SV.as _ ⟨kY.argTy,(d0,l1)⟩)):=by
   have e:SV.as (cB (kY.ams.map (·.mv.t))) ⟨kY.argTy,(d0,l1)⟩=(d0,l1):=SV.as_self _ _
   rw[e]
   exact (eA.cons rfl (by simp[uT,Value.cells]) r0 (eA.cons rfl rfl (dY.toRd (e:=126) r1) eA.nil))
  have hg:=bF0.givesL rfl (x:=(d0,l1)) hpI ⟨eJ.okD (eJ.of_rd r0),eJ.okD (eJ.of_rd (dY.toRd (e:=126) r1))⟩ hA
  have e:SV.as (cB (kY.rms.map (·.t))) ⟨kY.resTy,kY.fn (d0,l1)⟩=aIB (d0,l1):=SV.as_self _ _
  rw[e] at hg
  refine hg.mono fun e w' hh=>?_
  clear hg
  obtain ⟨rs,bl,he,ho,hn,hb,bel⟩:=hh
  obtain ⟨r0,rs0,b0,bb0,rfl,rfl,k0,ho⟩:=aA3.inv ho
  obtain ⟨rfl,rfl⟩:=ho
  obtain ⟨q0,qc0,e0,f0⟩:=k0.slA rfl (hn.sublist (List.sublist_append_left _ _)) (fun b h=>hb b ((List.sublist_append_left _ _).subset h))
  exact ⟨q0,qc0,he.trans (congrArg (fun l=>Ending.returned (aMK l)) (congr (congrArg List.cons e0) rfl)),f0,bel⟩
end Go.Proofs.YtmfpkkbhnmkfdaaGreat
