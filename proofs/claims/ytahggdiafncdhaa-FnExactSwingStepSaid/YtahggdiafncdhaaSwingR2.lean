/- SwingStep's law: the second region that lays two boxes beside four calls. -/
import Derived.Test.YtahggdiafncdhaaSwingR
namespace Go.Proofs.Ytahggdiafncdhaa
open Go.ChangeShapes Go.WideShapes Go.ChangeAt Go.RowKit Go.Deep
set_option linter.unusedVariables false
set_option linter.unusedSimpArgs false
set_option maxRecDepth 100000
theorem FrU.toR {t:Ty} {bl:List Nat} {lo hi:Nat} {w:World} {cs:List Value} {d:t.D} (h:FrU t bl lo hi w cs d):FrR t lo hi w cs d:=⟨(Un.rdg _ _ _ _ h.1).mono h.2.2.1 (fun _ _=>rfl),h.2.2.2⟩
noncomputable section
section
variable (d0:Ty.D tModel) (d1:Ty.D tSwing) (d2:Ty.D tGrads) (x3 x4:Int) (R0:Ty.D tModel) (R1:Ty.D tSwing) (R2:Bool)
def conSSI:Con:=⟨36,tSA,tSR,[.val ⟨true,tModel,[]⟩,.val ⟨true,tSwing,[]⟩,.val ⟨true,tGrads,[]⟩,.val ⟨false,tI,[]⟩,.val ⟨false,tI,[]⟩],[⟨true,tModel,[]⟩,⟨true,tSwing,[]⟩,⟨false,.bool,[]⟩],false,none,fun x=>x=(d0,(d1,(d2,(x3,x4)))),fun _=>(R0,(R1,R2))⟩
def csSWI:List Con:=[conOne 33 tModel d0,conOne 34 tSwing d1,conOne 35 tGrads d2,conSSI d0 d1 d2 x3 x4 R0 R1 R2]
end
noncomputable def opsSWI:Array Oper:=opsR Try.prog 7 42
section
variable (d0:Ty.D tModel) (d1:Ty.D tSwing) (d2:Ty.D tGrads) (x3 x4:Int) (R0:Ty.D tModel) (R1:Ty.D tSwing) (R2:Bool)
noncomputable def exSWI:Except Err RT:=exOps Try.prog (csSWI d0 d1 d2 x3 x4 R0 R1 R2) false [] opsSWI (ordOf opsSWI true) stSW (drOf opsSWI true [])
noncomputable def sfSWI:St:=rtLeaf (okRT (exSWI d0 d1 d2 x3 x4 R0 R1 R2))
theorem exSW_eqI:exSWI d0 d1 d2 x3 x4 R0 R1 R2 = .ok (.emit (.call 0 k0) (.emit (.call 1 k1) (.emit (.call 2 k2) (.emit (.call 3 kA) (.leaf (sfSWI d0 d1 d2 x3 x4 R0 R1 R2)))))):=by kernel_rfl
theorem drSWI:drawOK opsSWI (Region.before opsSWI) (ordOf opsSWI true)=true:=by kernel_rfl
theorem sf12I:(sfSWI d0 d1 d2 x3 x4 R0 R1 R2).at' 24 = .pbox 1 0:=by kernel_rfl
theorem sf13I:(sfSWI d0 d1 d2 x3 x4 R0 R1 R2).at' 25 = .pbox 3 0:=by kernel_rfl
theorem sf14I:(sfSWI d0 d1 d2 x3 x4 R0 R1 R2).at' 26 = .one (.d kR2 .bool true 0):=by kernel_rfl
theorem sfb1I:look (sfSWI d0 d1 d2 x3 x4 R0 R1 R2).es 1=some (.box 53 [.d kR0 tModel true 0]):=by kernel_rfl
theorem sfb3I:look (sfSWI d0 d1 d2 x3 x4 R0 R1 R2).es 3=some (.box 74 [.d (.p1 tRows tI kR1) tRows true 0,.d (.p2 tRows tI kR1) tI true 0]):=by kernel_rfl
end

theorem dsSWI:opsSWI.toList.filterMap (·.dst)=[149,150,151,152,153,154,155,156,157,148,158,159,160,24,25,26]:=by kernel_rfl
theorem sw_regionI {w:World} {a:Act} {id:Nat} {ops:Array Oper} (hops:ops=opsSWI) {d0:Ty.D tModel} {d1:Ty.D tSwing} {d2:Ty.D tGrads} {x3 x4:Int} {R0:Ty.D tModel} {R1:Ty.D tSwing} {R2:Bool}
  (HS:∀ (cs0 cs1 cs2:Array Value) (w:World),rd tModel w cs0.toList d0→rd tSwing w cs1.toList d1→rd tGrads w cs2.toList d2→Calls Try.prog 36 #[.agg cs0,.agg cs1,.agg cs2,.int .i64 x3,.int .i64 x4] w (fun e w'=>∃ (rs0:Array Value) (rs1:Array Value),e = .returned (.tuple #[.agg rs0,.agg rs1,.bool R2])∧FrR tModel w.heap.size w'.heap.size w' rs0.toList R0∧FrR tSwing w.heap.size w'.heap.size w' rs1.toList R1∧Below w.heap.size w w'))
  (hz0:szT tModel d0≤1048576) (hz1:szT tSwing d1≤1048576) (hz2:szT tGrads d2≤1048576) (h3:(Lit.int .i64 x3).wf=true) (h4:(Lit.int .i64 x4).wf=true)
  (hsz:a.tmps.size=189) (hdf:a.defers=[]) {b5 b6 b7:Nat} {cs0 cs1 cs2:List Value} (r0:rd tModel w cs0 d0) (r1:rd tSwing w cs1 d1) (r2:rd tGrads w cs2 d2)
  (t3:a.tmps.getD 3 undef = .int .i64 x3) (t4:a.tmps.getD 4 undef = .int .i64 x4) (t5:a.tmps.getD 5 undef = .pointer (some ⟨b5,0,none⟩)) (t6:a.tmps.getD 6 undef = .pointer (some ⟨b6,0,none⟩)) (t7:a.tmps.getD 7 undef = .pointer (some ⟨b7,0,none⟩))
  (c5:∀ j x,cs0[j]?=some x→w.cell? ⟨b5,j,none⟩=some x) (c6:∀ j x,cs1[j]?=some x→w.cell? ⟨b6,j,none⟩=some x) (c7:∀ j x,cs2[j]?=some x→w.cell? ⟨b7,j,none⟩=some x) (l5:b5<w.heap.size) (l6:b6<w.heap.size) (l7:b7<w.heap.size) :
  (Code.region id ops true).wp Try.prog (fun ex a' w'=>ex = .normal∧Kept [149,150,151,152,153,154,155,156,157,148,158,159,160,24,25,26] a a'∧a'.defers=[]∧SwR w R0 R1 R2 (a'.tmps.getD 24 undef) (a'.tmps.getD 25 undef) (a'.tmps.getD 26 undef) w') a w:=by
 subst hops
 have ok0:=szR_ok r0
 have ok1:=szR_ok r1
 have ok2:=szR_ok r2
 have okR:okD tSR (R0,(R1,R2)):=by
  obtain ⟨_,w',_,⟨rs0,rs1,_,f0,f1,_⟩,_⟩:=HS cs0.toArray cs1.toArray cs2.toArray w (by simpa using r0) (by simpa using r1) (by simpa using r2) []
  exact ⟨f0.1.okD,f1.1.okD,trivial⟩
 have hC:∀ (c:Nat) (C:Con),(csSWI d0 d1 d2 x3 x4 R0 R1 R2)[c]?=some C→Con.Holds Try.prog C:=by
  refine consAt (conOne_ok ok0 rfl ⟨Try.f33,Try.func33,by kernel_rfl,by kernel_rfl⟩ fun cs w h=>toModel_any cs d0 w h hz0) (consAt (conOne_ok ok1 rfl ⟨Try.f34,Try.func34,by kernel_rfl,by kernel_rfl⟩ fun cs w h=>toSwing_any cs d1 w h hz1) (consAt (conOne_ok ok2 rfl ⟨Try.f35,Try.func35,by kernel_rfl,by kernel_rfl⟩ fun cs w h=>toGrads_any cs d2 w h hz2) (consAt ?_ consNil)))
  refine Con.holds_walk rfl rfl rfl rfl (fun x hp hx=>okR) ⟨Try.f36,Try.func36,by kernel_rfl,by kernel_rfl⟩ fun w vs x ht hp hx ha=>?_
  have hp':(x:Ty.D tSA)=(d0,(d1,(d2,(x3,x4)))):=hp
  have e:SV.as (packTy ((conSSI d0 d1 d2 x3 x4 R0 R1 R2).ams.map (·.mv.t))) ⟨(conSSI d0 d1 d2 x3 x4 R0 R1 R2).argTy,x⟩=(d0,(d1,(d2,(x3,x4)))):=(SV.as_self _ _).trans hp'
  rw[e] at ha
  obtain ⟨v0,vs,rfl,hv0,hr0,ha⟩:=argsRd.inv' (m:=⟨true,tModel,[]⟩) (y:=d0) ha
  obtain ⟨v1,vs,rfl,hv1,hr1,ha⟩:=argsRd.inv' (m:=⟨true,tSwing,[]⟩) (y:=d1) ha
  obtain ⟨v2,vs,rfl,hv2,hr2,ha⟩:=argsRd.inv' (m:=⟨true,tGrads,[]⟩) (y:=d2) ha
  obtain ⟨v3,vs,rfl,hv3,hr3,ha⟩:=argsRd.inv' (m:=⟨false,tI,[]⟩) (y:=x3) ha
  obtain ⟨v4,vs,rfl,hv4,hr4,rfl,-⟩:=argsRd.inv' (m:=⟨false,tI,[]⟩) (y:=x4) ha
  obtain ⟨q3,w3⟩:=hr3
  obtain ⟨q4,w4⟩:=hr4
  rw[q3] at hv3
  rw[q4] at hv4
  rw[hv0,hv1,hv2,hv3,hv4]
  refine Calls.mono (HS v0.cells v1.cells v2.cells w hr0 hr1 hr2) ?_
  rintro e w' ⟨rs0,rs1,rfl,f0,f1,hB⟩
  have e2:SV.as (packTy ((conSSI d0 d1 d2 x3 x4 R0 R1 R2).rms.map (·.t))) ⟨(conSSI d0 d1 d2 x3 x4 R0 R1 R2).resTy,(conSSI d0 d1 d2 x3 x4 R0 R1 R2).fn x⟩=(R0,(R1,R2)):=SV.as_self _ _
  rw[e2]
  exact ⟨[.agg rs0,.agg rs1,.bool R2],[]++([]++([]++[])),rfl,OutsV.mk' (m:=⟨true,tModel,[]⟩) ⟨by simp[mkV,Value.cells],f0,fun h=>by cases h⟩ (OutsV.mk' (m:=⟨true,tSwing,[]⟩) ⟨by simp[mkV,Value.cells],f1,fun h=>by cases h⟩ (OutsV.mk' (m:=⟨false,.bool,[]⟩) ⟨rfl,⟨rfl,Nat.le_refl _⟩,fun _=>⟨rfl,rfl⟩⟩ ⟨rfl,rfl⟩)),by simp,by simp,hB⟩
 have hp:RTPath (csSWI d0 d1 d2 x3 x4 R0 R1 R2) (.emit (.call 0 k0) (.emit (.call 1 k1) (.emit (.call 2 k2) (.emit (.call 3 kA) (.leaf (sfSWI d0 d1 d2 x3 x4 R0 R1 R2)))))) [⟨tSA,(d0,(d1,(d2,(x3,x4))))⟩] (sfSWI d0 d1 d2 x3 x4 R0 R1 R2) (eSW d0 d1 d2 x3 x4 R0 R1 R2) :=
  .call 0 _ _ _ _ _ _ rfl rfl rfl ok0 (.call 1 _ _ _ _ _ _ rfl rfl rfl ok1 (.call 2 _ _ _ _ _ _ rfl rfl rfl ok2 (.call 3 _ _ _ _ _ _ rfl rfl rfl okR (.leaf _ _))))
 have ht:tabP.p w:=tab_triv _
 have hst:StOK (cx0 w ht) (fun _=>none) (fun _=>none) (fun _=>[]) (eSW d0 d1 d2 x3 x4 R0 R1 R2) w stSW a:=by
  refine stOK_start ht hsz.symm hdf ?_
  intro p hp
  simp only[tmSW,List.mem_cons,List.not_mem_nil,or_false] at hp
  rcases hp with rfl|rfl|rfl|rfl|rfl
  ·rw[t3];exact num_start (d:=x3) ⟨rfl,h3⟩ rfl rfl
  ·rw[t4];exact num_start (d:=x4) ⟨rfl,h4⟩ rfl rfl
  ·rw[t5];exact pro_start l5 c5 r0 rfl rfl
  ·rw[t6];exact pro_start l6 c6 r1 rfl rfl
  ·rw[t7];exact pro_start l7 c7 r2 rfl rfl
 refine wp_mono (region_cut mixedP hC drSWI (exSW_eqI d0 d1 d2 x3 x4 R0 R1 R2) hp rfl hst) ?_
 rintro ex a' w' ⟨rfl,⟨γ,β,h⟩,hk⟩
 obtain ⟨g0,c0,u0,u1,u2,u3,u4⟩:=h.box (sf12I ..) (sfb1I ..)
 obtain ⟨g1,c1,y0,y1,y2,y3,y4⟩:=h.box (sf13I ..) (sfb3I ..)
 have u5:=h.one (sf14I ..)
 obtain ⟨v0,_,e0,L0,rfl⟩:=u4
 obtain ⟨v1,_,e1,L1,z1,_,rfl,L2,rfl⟩:=y4
 have F0:=leaf_fr L0
 have F1:=leaf_fr L1
 have F2:=leaf_fr L2
 have F5:=leaf_fr u5
 have m0:(kR0.val (eSW d0 d1 d2 x3 x4 R0 R1 R2)).as tModel=R0:=rfl
 have m1:((Ar.p1 tRows tI kR1).val (eSW d0 d1 d2 x3 x4 R0 R1 R2)).as tRows=R1.1:=rfl
 have m2:((Ar.p2 tRows tI kR1).val (eSW d0 d1 d2 x3 x4 R0 R1 R2)).as tI=R1.2:=rfl
 have m5:(kR2.val (eSW d0 d1 d2 x3 x4 R0 R1 R2)).as .bool=R2:=rfl
 rw[m0] at F0
 rw[m1] at F1
 rw[m2] at F2
 rw[m5] at F5
 obtain ⟨p0,n0,q0,hv0,hs0⟩:=F0.rd
 obtain ⟨p1,n1,q1,hv1,hs1⟩:=F1.rd
 obtain rfl:v0 = .slice p0 n0 q0:=by simpa using hv0
 obtain rfl:v1 = .slice p1 n1 q1:=by simpa using hv1
 have hz:z1 = .int .i64 R1.2:=by have:=F2.1.1;simpa using this
 subst hz
 have h5:a'.tmps.getD 26 undef = .bool R2:=by have:=F5.1;simpa using (show [a'.tmps.getD 26 undef]=[Value.bool R2] from this)
 rw[dsSWI] at hk
 refine ⟨rfl,hk,h.nodef,g0,g1,p0,n0,q0,p1,n1,q1,u0,y0,h5,cell_of u3 (by rw[e0];rfl),cell_of y3 (by rw[e1];rfl),cell_of y3 (by rw[e1];rfl),h.below,u1,u2,y1,y2,⟨_,_,Nat.le_refl _,F0⟩,⟨_,_,Nat.le_refl _,⟨[_],[_],rfl,F1.1,F2.1⟩,F1.2⟩⟩
end
end Go.Proofs.Ytahggdiafncdhaa
