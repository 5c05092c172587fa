/- BOver: lemmas. No conditions. -/
import Derived.Test.YtiihghfoeinbbaaGreatRunS
import Derived.Test.YtiihghfoeinbbaaGreatCe
import Derived.Test.YtiihghfoeinbbaaGreatTConfig
import Derived.Test.YtiihghfoeinbbaaGreatTPair
import Derived.Test.YtiihghfoeinbbaaGreatTMoment
namespace Go.Proofs.YtiihghfoeinbbaaGreat
open Go.ChangeShapes Go.WideShapes Go.ChangeAt Go.RowKit Go.Deep
set_option linter.unusedVariables false
set_option linter.unusedSimpArgs false
theorem bC2 (d0:Ty.D aC) (l1:List (Ty.D aI)) (l2:List (Ty.D fP)) (hz0:((bD aC d0:Nat):Int)≤(1048576:Int)) (hz1:((bD (.slice 130 aI) l1:Nat):Int)≤(1048576:Int) - (bD aC d0:Nat)) (hz2:((bD aB l2:Nat):Int)≤(1048576:Int)) :
  ∃ (R0:List (Ty.D bK)),(∀ (cs0:Array Value) (p1:Option Addr) (c1:Nat) (p2:Option Addr) (c2:Nat) (w:World),rd aC w cs0.toList d0→eN (Ty.n aI) (rd aI w) w p1 (List.length l1) c1 l1→eN (Ty.n fP) (rd fP w) w p2 (List.length l2) c2 l2→Calls Tryz.prog 33 #[.agg cs0,.slice p1 (List.length l1) c1,.slice p2 (List.length l2) c2] w (fun e w'=>∃ p0 c0,e = .returned (.slice p0 (List.length R0) c0)∧FrR (.slice 128 bK) w.heap.size w'.heap.size w' [.slice p0 (List.length R0) c0] R0∧Below w.heap.size w w')) ∧
   (∀ (cs0:Array Value) (p1:Option Addr) (c1:Nat) (p2:Option Addr) (c2:Nat) (w:World),rd aC w cs0.toList d0→eN (Ty.n aI) (rd aI w) w p1 (List.length l1) c1 l1→eN (Ty.n fP) (rd fP w) w p2 (List.length l2) c2 l2→Calls Tryz.prog 37 #[.agg cs0,.slice p1 (List.length l1) c1,.slice p2 (List.length l2) c2] w (fun e w'=>∃ p0 c0,e = .returned (.slice p0 (List.length R0) c0)∧wL (.slice 128 bK) w.heap.size w'.heap.size w' [.slice p0 (List.length R0) c0] R0∧Below w.heap.size w w'))∧(iP (.slice 128 bK) R0:Int)≤1000000000:=by
 obtain ⟨hpS,hpI⟩:=bLO d0 l1 l2 hz0 hz1 hz2
 refine ⟨(aNO (d0,l1,l2)),fun cs0 p1 c1 p2 c2 w r0 r1 r2=>?_,fun cs0 p1 c1 p2 c2 w r0 r1 r2=>?_,bLD d0 l1 l2 hz0 hz1 hz2⟩
 ·have hA:jG w mJ.ams [.agg cs0,.slice p1 (List.length l1) c1,.slice p2 (List.length l2) c2] (cX (mJ.ams.map (·.mv.t)) (SV.as _ ⟨mJ.argTy,(d0,l1,l2)⟩)):=by
   have e:SV.as (cG (mJ.ams.map (·.mv.t))) ⟨mJ.argTy,(d0,l1,l2)⟩=(d0,l1,l2):=SV.as_self _ _
   rw[e]
   exact (jG.cons rfl (by simp[xC,Value.cells]) r0 (jG.cons rfl rfl (eN.toRd (e:=130) r1) (jG.cons rfl rfl (eN.toRd (e:=3) r2) jG.nil)))
  have hg:=bI9.givesL rfl (x:=(d0,l1,l2)) hpS ⟨eR.okD (eR.of_rd r0),eR.okD (eR.of_rd (eN.toRd (e:=130) r1)),eR.okD (eR.of_rd (eN.toRd (e:=3) r2))⟩ hA
  have e:SV.as (cG (mJ.rms.map (·.t))) ⟨mJ.resTy,mJ.fn (d0,l1,l2)⟩=aNO (d0,l1,l2):=SV.as_self _ _
  rw[e] at hg
  refine hg.mono fun e w' hh=>?_
  clear hg
  obtain ⟨rs,bl,he,ho,hn,hb,bel⟩:=hh
  obtain ⟨r0,rs0,b0,bb0,rfl,rfl,k0,ho⟩:=aHD.inv ho
  obtain ⟨rfl,rfl⟩:=ho
  obtain ⟨q0,qc0,e0,f0⟩:=k0.slR
  exact ⟨q0,qc0,he.trans (congrArg (fun l=>Ending.returned (aZ3 l)) (congr (congrArg List.cons e0) rfl)),f0,bel⟩
 ·have hA:jG w mH.ams [.agg cs0,.slice p1 (List.length l1) c1,.slice p2 (List.length l2) c2] (cX (mH.ams.map (·.mv.t)) (SV.as _ ⟨mH.argTy,(d0,l1,l2)⟩)):=by
   have e:SV.as (cG (mH.ams.map (·.mv.t))) ⟨mH.argTy,(d0,l1,l2)⟩=(d0,l1,l2):=SV.as_self _ _
   rw[e]
   exact (jG.cons rfl (by simp[xC,Value.cells]) r0 (jG.cons rfl rfl (eN.toRd (e:=130) r1) (jG.cons rfl rfl (eN.toRd (e:=3) r2) jG.nil)))
  have hg:=bGJ.givesL rfl (x:=(d0,l1,l2)) hpI ⟨eR.okD (eR.of_rd r0),eR.okD (eR.of_rd (eN.toRd (e:=130) r1)),eR.okD (eR.of_rd (eN.toRd (e:=3) r2))⟩ hA
  have e:SV.as (cG (mH.rms.map (·.t))) ⟨mH.resTy,mH.fn (d0,l1,l2)⟩=aNO (d0,l1,l2):=SV.as_self _ _
  rw[e] at hg
  refine hg.mono fun e w' hh=>?_
  clear hg
  obtain ⟨rs,bl,he,ho,hn,hb,bel⟩:=hh
  obtain ⟨r0,rs0,b0,bb0,rfl,rfl,k0,ho⟩:=aHD.inv ho
  obtain ⟨rfl,rfl⟩:=ho
  obtain ⟨q0,qc0,e0,f0⟩:=k0.slA rfl (hn.sublist (List.sublist_append_left _ _)) (fun b h=>hb b ((List.sublist_append_left _ _).subset h))
  exact ⟨q0,qc0,he.trans (congrArg (fun l=>Ending.returned (aZ3 l)) (congr (congrArg List.cons e0) rfl)),f0,bel⟩
end Go.Proofs.YtiihghfoeinbbaaGreat
