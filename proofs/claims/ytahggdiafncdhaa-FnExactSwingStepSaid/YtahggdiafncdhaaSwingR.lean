/- SwingStep's law: the region that lays two boxes beside four calls. -/
import Derived.Test.YtahggdiafncdhaaBSwingStep
import Derived.Test.YtahggdiafncdhaaCutReg
namespace Go.Proofs.Ytahggdiafncdhaa
open Go.ChangeShapes Go.WideShapes Go.ChangeAt Go.RowKit Go.Deep
set_option linter.unusedVariables false
set_option linter.unusedSimpArgs false
set_option maxRecDepth 100000
noncomputable section
theorem argsRd.inv' {w:World} {m:MV} {ms:List AM} {vs:List Value} {y:m.t.D} {ds:List SV} (h:argsRd w (.val m :: ms) vs (⟨m.t,y⟩ :: ds)):∃ v vs',vs=v :: vs'∧v=mkV m.ag v.cells.toList∧rd m.t w v.cells.toList y∧argsRd w ms vs' ds:=by
 obtain ⟨v,vs',d,ds',rfl,hd,_,hv,hr,h⟩:=h
 obtain ⟨rfl,rfl⟩:=List.cons.inj hd
 rw[SV.as_self] at hr
 exact ⟨v,vs',rfl,hv,hr,h⟩
theorem OutsV.mk' {w w':World} {m:MV} {ms:List MV} {r:Value} {rs:List Value} {y:m.t.D} {ds:List SV} {b1 b2:List Nat} (h:OutV w w' m r y b1) (hs:OutsV w w' ms rs ds b2):OutsV w w' (m :: ms) (r :: rs) (⟨m.t,y⟩ :: ds) (b1++b2) :=
 ⟨r,rs,b1,b2,rfl,rfl,by rw[SV.as_self];exact h,hs⟩
def rgOf (id:Nat):Code→Option (Array Oper)
 | .region i ops _=>if Nat.beq i id then some ops else none
 | .seq x y=>(rgOf id x).or (rgOf id y)
 | .block _ c=>rgOf id c
 | .loop c=>rgOf id c
 | .cond _ x y=>(rgOf id x).or (rgOf id y)
 | _=>none
/-- The operations of a function's region. -/
def opsR (P:Program) (f id:Nat):Array Oper:=(((P.funcs[f]?).bind (·.body)).bind (rgOf id)).getD #[]
def okRT:Except Err RT→RT
 | .ok r=>r
 | _=>.leaf { tm:=[],n:=0,es:=[],facts:=[],nx:=0,nr:=0,cr:=[] }
def rtLeaf:RT→St
 | .leaf σ=>σ
 | .emit _ k=>rtLeaf k
 | .ite _ _ k=>rtLeaf k

/-- A contract for one argument alone. -/
def conOne (f:Nat) (t:Ty) (d:t.D):Con:=⟨f,t,t,[.val ⟨true,t,[]⟩],[⟨true,t,[]⟩],false,none,fun x=>x=d,fun _=>d⟩
theorem conOne_ok {P:Program} {f:Nat} {t:Ty} {d:t.D} (hok:okD t d) (hfl:allFl t []=false) (hf:∃ g,P.funcs[f]?=some g∧(g.name == "runtime.NumGoroutine")=false∧g.body.isNone=false)
  (hr:∀ (cs:Array Value) (w:World),rd t w cs.toList d→Calls P f #[.agg cs] w (RetAg t w d)):Con.Holds P (conOne f t d):=by
 refine Con.holds_walk rfl rfl rfl (by simp[conOne,oneOrRo]) (fun x hp hx=>hok) hf fun w vs x ht hp hx ha=>?_
 have e:SV.as (packTy ((conOne f t d).ams.map (·.mv.t))) ⟨(conOne f t d).argTy,x⟩=x:=SV.as_self _ _
 rw[e] at ha
 obtain ⟨v0,vs,rfl,hv0,hr0,rfl,-⟩:=argsRd.inv' (m:=⟨true,t,[]⟩) (y:=x) ha
 rw[hv0]
 have hr1:rd t w v0.cells.toList d:=by
  have h:(x:t.D)=d:=hp
  rw[← h];exact hr0
 refine Calls.mono (hr v0.cells w hr1) ?_
 rintro e w' ⟨cs',rfl,hf,hB⟩
 have e2:SV.as (packTy ((conOne f t d).rms.map (·.t))) ⟨(conOne f t d).resTy,(conOne f t d).fn x⟩=d:=SV.as_self _ _
 rw[e2]
 exact ⟨[.agg cs'],[]++[],rfl,OutsV.mk' (m:=⟨true,t,[]⟩) ⟨by simp[mkV,Value.cells],⟨RdG.of_fr hf,Nat.le_refl _⟩,fun h=>by rw[hfl] at h;cases h⟩ ⟨rfl,rfl⟩,by simp,by simp,hB⟩

abbrev tS3:Ty:=.pair tI tI
abbrev tS2:Ty:=.pair tGrads tS3
abbrev tS1:Ty:=.pair tSwing tS2
abbrev tSA:Ty:=.pair tModel tS1
abbrev tSR:Ty:=.pair tModel (.pair tSwing .bool)
section
variable (d0:Ty.D tModel) (d1:Ty.D tSwing) (d2:Ty.D tGrads) (x3 x4:Int) (R0:Ty.D tModel) (R1:Ty.D tSwing) (R2:Bool)
def conSS:Con:=⟨32,tSA,tSR,[.val ⟨true,tModel,[]⟩,.val ⟨true,tSwing,[]⟩,.val ⟨true,tGrads,[]⟩,.val ⟨false,tI,[]⟩,.val ⟨false,tI,[]⟩],[⟨true,tModel,[]⟩,⟨true,tSwing,[]⟩,⟨false,.bool,[]⟩],false,none,fun x=>x=(d0,(d1,(d2,(x3,x4)))),fun _=>(R0,(R1,R2))⟩
def csSW:List Con:=[conOne 33 tModel d0,conOne 34 tSwing d1,conOne 35 tGrads d2,conSS d0 d1 d2 x3 x4 R0 R1 R2]
def eSW:List SV:=[⟨tSA,(d0,(d1,(d2,(x3,x4))))⟩,⟨tModel,d0⟩,⟨tSwing,d1⟩,⟨tGrads,d2⟩,⟨tSR,(R0,(R1,R2))⟩]
end
def k0:Ar:=.p1 tModel tS1 (.vr 0)
def k1:Ar:=.p1 tSwing tS2 (.p2 tModel tS1 (.vr 0))
def k2:Ar:=.p1 tGrads tS3 (.p2 tSwing tS2 (.p2 tModel tS1 (.vr 0)))
def k34:Ar:=.p2 tGrads tS3 (.p2 tSwing tS2 (.p2 tModel tS1 (.vr 0)))
def k3:Ar:=.p1 tI tI k34
def k4:Ar:=.p2 tI tI k34
def kA:Ar:=.mk2 tModel tS1 (.vr 1) (.mk2 tSwing tS2 (.vr 2) (.mk2 tGrads tS3 (.vr 3) k34))
def kR0:Ar:=.p1 tModel (.pair tSwing .bool) (.vr 4)
def kR1:Ar:=.p1 tSwing .bool (.p2 tModel (.pair tSwing .bool) (.vr 4))
def kR2:Ar:=.p2 tSwing .bool (.p2 tModel (.pair tSwing .bool) (.vr 4))
noncomputable def tmSW:Tm:=[(3,.one (.d k3 tI false 0)),(4,.one (.d k4 tI false 0)),(5,.pro (explode tModel k0 false)),(6,.pro (explode tSwing k1 false)),(7,.pro (explode tGrads k2 false))]
noncomputable def stSW:St:={ tm:=tmSW,n:=189,es:=[],facts:=[],nx:=1,nr:=1,cr:=[] }
noncomputable def opsSW:Array Oper:=opsR Try.prog 7 11
section
variable (d0:Ty.D tModel) (d1:Ty.D tSwing) (d2:Ty.D tGrads) (x3 x4:Int) (R0:Ty.D tModel) (R1:Ty.D tSwing) (R2:Bool)
noncomputable def exSW:Except Err RT:=exOps Try.prog (csSW d0 d1 d2 x3 x4 R0 R1 R2) false [] opsSW (ordOf opsSW true) stSW (drOf opsSW true [])
noncomputable def sfSW:St:=rtLeaf (okRT (exSW d0 d1 d2 x3 x4 R0 R1 R2))
theorem exSW_eq:exSW d0 d1 d2 x3 x4 R0 R1 R2 = .ok (.emit (.call 0 k0) (.emit (.call 1 k1) (.emit (.call 2 k2) (.emit (.call 3 kA) (.leaf (sfSW d0 d1 d2 x3 x4 R0 R1 R2)))))):=by kernel_rfl
theorem drSW:drawOK opsSW (Region.before opsSW) (ordOf opsSW true)=true:=by kernel_rfl
theorem sf12:(sfSW d0 d1 d2 x3 x4 R0 R1 R2).at' 12 = .pbox 1 0:=by kernel_rfl
theorem sf13:(sfSW d0 d1 d2 x3 x4 R0 R1 R2).at' 13 = .pbox 3 0:=by kernel_rfl
theorem sf14:(sfSW d0 d1 d2 x3 x4 R0 R1 R2).at' 14 = .one (.d kR2 .bool true 0):=by kernel_rfl
theorem sfb1:look (sfSW d0 d1 d2 x3 x4 R0 R1 R2).es 1=some (.box 53 [.d kR0 tModel true 0]):=by kernel_rfl
theorem sfb3:look (sfSW d0 d1 d2 x3 x4 R0 R1 R2).es 3=some (.box 74 [.d (.p1 tRows tI kR1) tRows true 0,.d (.p2 tRows tI kR1) tI true 0]):=by kernel_rfl
end

theorem dsSW:opsSW.toList.filterMap (·.dst)=[43,44,45,46,47,48,49,50,51,42,52,53,54,12,13,14]:=by kernel_rfl
theorem szR_ok {t:Ty} {d:t.D} {w:World} {cs:List Value} (h:rd t w cs d):okD t d:=RdG.okD (RdG.of_rd h)
/-- THE REGION: two boxes beside four calls. -/
def SwR (w:World) (R0:Ty.D tModel) (R1:Ty.D tSwing) (R2:Bool) (s12 s13 s14:Value) (wx:World):Prop :=
 ∃ (w0rg0:Nat) (w0rg1:Nat) (w0r0dp0:Option Addr) (w0r0dn0:Nat) (w0r0dq0:Nat) (w0r1dp0:Option Addr) (w0r1dn0:Nat) (w0r1dq0:Nat),s12 = .pointer (some ⟨w0rg0,0,none⟩)∧s13 = .pointer (some ⟨w0rg1,0,none⟩)∧s14 = .bool R2∧wx.cell? ⟨w0rg0,0,none⟩=some (.slice w0r0dp0 w0r0dn0 w0r0dq0)∧wx.cell? ⟨w0rg1,0,none⟩=some (.slice w0r1dp0 w0r1dn0 w0r1dq0)∧wx.cell? ⟨w0rg1,1,none⟩=some (.int .i64 R1.2)∧Below w.heap.size w wx∧w.heap.size≤w0rg0∧w0rg0<wx.heap.size∧w.heap.size≤w0rg1∧w0rg1<wx.heap.size∧(∃ lo hi,w.heap.size≤lo∧FrR tModel lo hi wx [.slice w0r0dp0 w0r0dn0 w0r0dq0] R0)∧(∃ lo hi,w.heap.size≤lo∧FrR tSwing lo hi wx [.slice w0r1dp0 w0r1dn0 w0r1dq0,.int .i64 R1.2] R1)
theorem cell_of {w:World} {b:Nat} {c:Array Value} {T:TypeId} {j:Nat} {x:Value} (h:w.heap[b]?=some (.cells c T (0,0))) (hx:c.toList[j]?=some x):w.cell? ⟨b,j,none⟩=some x:=by
 have:c[j]?=some x:=by simpa using hx
 simp[World.cell?,h,this]

theorem sw_region {w:World} {a:Act} {id:Nat} {ops:Array Oper} (hops:ops=opsSW) {d0:Ty.D tModel} {d1:Ty.D tSwing} {d2:Ty.D tGrads} {x3 x4:Int} {R0:Ty.D tModel} {R1:Ty.D tSwing} {R2:Bool}
  (HS:∀ (cs0 cs1 cs2:Array Value) (w:World),rd tModel w cs0.toList d0→rd tSwing w cs1.toList d1→rd tGrads w cs2.toList d2→Calls Try.prog 32 #[.agg cs0,.agg cs1,.agg cs2,.int .i64 x3,.int .i64 x4] w (fun e w'=>∃ (rs0:Array Value) (rs1:Array Value),e = .returned (.tuple #[.agg rs0,.agg rs1,.bool R2])∧FrR tModel w.heap.size w'.heap.size w' rs0.toList R0∧FrR tSwing w.heap.size w'.heap.size w' rs1.toList R1∧Below w.heap.size w w'))
  (hz0:szT tModel d0≤1048576) (hz1:szT tSwing d1≤1048576) (hz2:szT tGrads d2≤1048576) (h3:(Lit.int .i64 x3).wf=true) (h4:(Lit.int .i64 x4).wf=true)
  (hsz:a.tmps.size=189) (hdf:a.defers=[]) {b5 b6 b7:Nat} {cs0 cs1 cs2:List Value} (r0:rd tModel w cs0 d0) (r1:rd tSwing w cs1 d1) (r2:rd tGrads w cs2 d2)
  (t3:a.tmps.getD 3 undef = .int .i64 x3) (t4:a.tmps.getD 4 undef = .int .i64 x4) (t5:a.tmps.getD 5 undef = .pointer (some ⟨b5,0,none⟩)) (t6:a.tmps.getD 6 undef = .pointer (some ⟨b6,0,none⟩)) (t7:a.tmps.getD 7 undef = .pointer (some ⟨b7,0,none⟩))
  (c5:∀ j x,cs0[j]?=some x→w.cell? ⟨b5,j,none⟩=some x) (c6:∀ j x,cs1[j]?=some x→w.cell? ⟨b6,j,none⟩=some x) (c7:∀ j x,cs2[j]?=some x→w.cell? ⟨b7,j,none⟩=some x) (l5:b5<w.heap.size) (l6:b6<w.heap.size) (l7:b7<w.heap.size) :
  (Code.region id ops true).wp Try.prog (fun ex a' w'=>ex = .normal∧Kept [43,44,45,46,47,48,49,50,51,42,52,53,54,12,13,14] a a'∧a'.defers=[]∧SwR w R0 R1 R2 (a'.tmps.getD 12 undef) (a'.tmps.getD 13 undef) (a'.tmps.getD 14 undef) w') a w:=by
 subst hops
 have ok0:=szR_ok r0
 have ok1:=szR_ok r1
 have ok2:=szR_ok r2
 have okR:okD tSR (R0,(R1,R2)):=by
  obtain ⟨_,w',_,⟨rs0,rs1,_,f0,f1,_⟩,_⟩:=HS cs0.toArray cs1.toArray cs2.toArray w (by simpa using r0) (by simpa using r1) (by simpa using r2) []
  exact ⟨f0.1.okD,f1.1.okD,trivial⟩
 have hC:∀ (c:Nat) (C:Con),(csSW d0 d1 d2 x3 x4 R0 R1 R2)[c]?=some C→Con.Holds Try.prog C:=by
  refine consAt (conOne_ok ok0 rfl ⟨Try.f33,Try.func33,by kernel_rfl,by kernel_rfl⟩ fun cs w h=>toModel_any cs d0 w h hz0) (consAt (conOne_ok ok1 rfl ⟨Try.f34,Try.func34,by kernel_rfl,by kernel_rfl⟩ fun cs w h=>toSwing_any cs d1 w h hz1) (consAt (conOne_ok ok2 rfl ⟨Try.f35,Try.func35,by kernel_rfl,by kernel_rfl⟩ fun cs w h=>toGrads_any cs d2 w h hz2) (consAt ?_ consNil)))
  refine Con.holds_walk rfl rfl rfl rfl (fun x hp hx=>okR) ⟨Try.f32,Try.func32,by kernel_rfl,by kernel_rfl⟩ fun w vs x ht hp hx ha=>?_
  have hp':(x:Ty.D tSA)=(d0,(d1,(d2,(x3,x4)))):=hp
  have e:SV.as (packTy ((conSS d0 d1 d2 x3 x4 R0 R1 R2).ams.map (·.mv.t))) ⟨(conSS d0 d1 d2 x3 x4 R0 R1 R2).argTy,x⟩=(d0,(d1,(d2,(x3,x4)))):=(SV.as_self _ _).trans hp'
  rw[e] at ha
  obtain ⟨v0,vs,rfl,hv0,hr0,ha⟩:=argsRd.inv' (m:=⟨true,tModel,[]⟩) (y:=d0) ha
  obtain ⟨v1,vs,rfl,hv1,hr1,ha⟩:=argsRd.inv' (m:=⟨true,tSwing,[]⟩) (y:=d1) ha
  obtain ⟨v2,vs,rfl,hv2,hr2,ha⟩:=argsRd.inv' (m:=⟨true,tGrads,[]⟩) (y:=d2) ha
  obtain ⟨v3,vs,rfl,hv3,hr3,ha⟩:=argsRd.inv' (m:=⟨false,tI,[]⟩) (y:=x3) ha
  obtain ⟨v4,vs,rfl,hv4,hr4,rfl,-⟩:=argsRd.inv' (m:=⟨false,tI,[]⟩) (y:=x4) ha
  obtain ⟨q3,w3⟩:=hr3
  obtain ⟨q4,w4⟩:=hr4
  rw[q3] at hv3
  rw[q4] at hv4
  rw[hv0,hv1,hv2,hv3,hv4]
  refine Calls.mono (HS v0.cells v1.cells v2.cells w hr0 hr1 hr2) ?_
  rintro e w' ⟨rs0,rs1,rfl,f0,f1,hB⟩
  have e2:SV.as (packTy ((conSS d0 d1 d2 x3 x4 R0 R1 R2).rms.map (·.t))) ⟨(conSS d0 d1 d2 x3 x4 R0 R1 R2).resTy,(conSS d0 d1 d2 x3 x4 R0 R1 R2).fn x⟩=(R0,(R1,R2)):=SV.as_self _ _
  rw[e2]
  exact ⟨[.agg rs0,.agg rs1,.bool R2],[]++([]++([]++[])),rfl,OutsV.mk' (m:=⟨true,tModel,[]⟩) ⟨by simp[mkV,Value.cells],f0,fun h=>by cases h⟩ (OutsV.mk' (m:=⟨true,tSwing,[]⟩) ⟨by simp[mkV,Value.cells],f1,fun h=>by cases h⟩ (OutsV.mk' (m:=⟨false,.bool,[]⟩) ⟨rfl,⟨rfl,Nat.le_refl _⟩,fun _=>⟨rfl,rfl⟩⟩ ⟨rfl,rfl⟩)),by simp,by simp,hB⟩
 have hp:RTPath (csSW d0 d1 d2 x3 x4 R0 R1 R2) (.emit (.call 0 k0) (.emit (.call 1 k1) (.emit (.call 2 k2) (.emit (.call 3 kA) (.leaf (sfSW d0 d1 d2 x3 x4 R0 R1 R2)))))) [⟨tSA,(d0,(d1,(d2,(x3,x4))))⟩] (sfSW d0 d1 d2 x3 x4 R0 R1 R2) (eSW d0 d1 d2 x3 x4 R0 R1 R2) :=
  .call 0 _ _ _ _ _ _ rfl rfl rfl ok0 (.call 1 _ _ _ _ _ _ rfl rfl rfl ok1 (.call 2 _ _ _ _ _ _ rfl rfl rfl ok2 (.call 3 _ _ _ _ _ _ rfl rfl rfl okR (.leaf _ _))))
 have ht:tabP.p w:=tab_triv _
 have hst:StOK (cx0 w ht) (fun _=>none) (fun _=>none) (fun _=>[]) (eSW d0 d1 d2 x3 x4 R0 R1 R2) w stSW a:=by
  refine stOK_start ht hsz.symm hdf ?_
  intro p hp
  simp only[tmSW,List.mem_cons,List.not_mem_nil,or_false] at hp
  rcases hp with rfl|rfl|rfl|rfl|rfl
  ·rw[t3];exact num_start (d:=x3) ⟨rfl,h3⟩ rfl rfl
  ·rw[t4];exact num_start (d:=x4) ⟨rfl,h4⟩ rfl rfl
  ·rw[t5];exact pro_start l5 c5 r0 rfl rfl
  ·rw[t6];exact pro_start l6 c6 r1 rfl rfl
  ·rw[t7];exact pro_start l7 c7 r2 rfl rfl
 refine wp_mono (region_cut mixedP hC drSW (exSW_eq d0 d1 d2 x3 x4 R0 R1 R2) hp rfl hst) ?_
 rintro ex a' w' ⟨rfl,⟨γ,β,h⟩,hk⟩
 obtain ⟨g0,c0,u0,u1,u2,u3,u4⟩:=h.box (sf12 ..) (sfb1 ..)
 obtain ⟨g1,c1,y0,y1,y2,y3,y4⟩:=h.box (sf13 ..) (sfb3 ..)
 have u5:=h.one (sf14 ..)
 obtain ⟨v0,_,e0,L0,rfl⟩:=u4
 obtain ⟨v1,_,e1,L1,z1,_,rfl,L2,rfl⟩:=y4
 have F0:=leaf_fr L0
 have F1:=leaf_fr L1
 have F2:=leaf_fr L2
 have F5:=leaf_fr u5
 have m0:(kR0.val (eSW d0 d1 d2 x3 x4 R0 R1 R2)).as tModel=R0:=rfl
 have m1:((Ar.p1 tRows tI kR1).val (eSW d0 d1 d2 x3 x4 R0 R1 R2)).as tRows=R1.1:=rfl
 have m2:((Ar.p2 tRows tI kR1).val (eSW d0 d1 d2 x3 x4 R0 R1 R2)).as tI=R1.2:=rfl
 have m5:(kR2.val (eSW d0 d1 d2 x3 x4 R0 R1 R2)).as .bool=R2:=rfl
 rw[m0] at F0
 rw[m1] at F1
 rw[m2] at F2
 rw[m5] at F5
 obtain ⟨p0,n0,q0,hv0,hs0⟩:=F0.rd
 obtain ⟨p1,n1,q1,hv1,hs1⟩:=F1.rd
 obtain rfl:v0 = .slice p0 n0 q0:=by simpa using hv0
 obtain rfl:v1 = .slice p1 n1 q1:=by simpa using hv1
 have hz:z1 = .int .i64 R1.2:=by have:=F2.1.1;simpa using this
 subst hz
 have h5:a'.tmps.getD 14 undef = .bool R2:=by have:=F5.1;simpa using (show [a'.tmps.getD 14 undef]=[Value.bool R2] from this)
 rw[dsSW] at hk
 refine ⟨rfl,hk,h.nodef,g0,g1,p0,n0,q0,p1,n1,q1,u0,y0,h5,cell_of u3 (by rw[e0];rfl),cell_of y3 (by rw[e1];rfl),cell_of y3 (by rw[e1];rfl),h.below,u1,u2,y1,y2,⟨_,_,Nat.le_refl _,F0⟩,⟨_,_,Nat.le_refl _,⟨[_],[_],rfl,F1.1,F2.1⟩,F1.2⟩⟩
end
end Go.Proofs.Ytahggdiafncdhaa
