/- Swing: the contract of impl.SwingStep; what is asked ahead, what comes back. -/
import Derived.Test.YtahggdiafncdhaaSwingW
import Derived.Test.YtahggdiafncdhaaLearnS
import Derived.Test.YtahggdiafncdhaaTSwing
namespace Go.Proofs.Ytahggdiafncdhaa
open Go.ChangeShapes Go.WideShapes Go.ChangeAt Go.RowKit Go.Deep
set_option linter.unusedVariables false
set_option linter.unusedSimpArgs false
noncomputable def c_i_SwingStep:Con:=⟨36,(.pair tModel (.pair tSwing (.pair tGrads (.pair tI tI)))),(.pair tModel (.pair tSwing .bool)),[.val ⟨true,tModel,[]⟩,.val ⟨true,tSwing,[]⟩,.val ⟨true,tGrads,[]⟩,.val ⟨false,tI,[]⟩,.val ⟨false,tI,[]⟩],[⟨true,tModel,[1]⟩,⟨true,tSwing,[1,0]⟩,⟨false,.bool,[0]⟩],false,none,
 ((fun x=>SwingP x):ModelD × (SwingD × (GradsD × (Int × Int)))→Prop),
 ((fun x=>swgF x.1 x.2.1 x.2.2.1 x.2.2.2.1 x.2.2.2.2):ModelD × (SwingD × (GradsD × (Int × Int)))→ModelD × (SwingD × Bool))⟩
theorem h_i_SwingStep:Con.Holds Try.prog c_i_SwingStep:=by
 refine Con.holds_walk rfl rfl rfl rfl (fun x hp hx=>h_s_SwingStep.ok x hp hx) ⟨Try.f36,Try.func36,by kernel_rfl,by kernel_rfl⟩ fun w vs x _ hp hx ha=>?_
 obtain ⟨m,s,g,rate,kp⟩:=x
 have e:SV.as (packTy (c_i_SwingStep.ams.map (·.mv.t))) ⟨c_i_SwingStep.argTy,(m,s,g,rate,kp)⟩=(m,s,g,rate,kp):=SV.as_self _ _
 rw[e] at ha
 obtain ⟨v0,vs,rfl,hv0,hr0,ha⟩:=argsRd.inv ha
 obtain ⟨v1,vs,rfl,hv1,hr1,ha⟩:=argsRd.inv ha
 obtain ⟨v2,vs,rfl,hv2,hr2,ha⟩:=argsRd.inv ha
 obtain ⟨v3,vs,rfl,hv3,hr3,ha⟩:=argsRd.inv ha
 obtain ⟨v4,vs,rfl,hv4,hr4,rfl,-⟩:=argsRd.inv ha
 obtain ⟨c3,w3⟩:=hr3
 obtain ⟨c4,w4⟩:=hr4
 rw[c3] at hv3
 rw[c4] at hv4
 rw[hv0,hv1,hv2,hv3,hv4]
 refine (swing_walk v0.cells v1.cells v2.cells m s g rate kp w hr0 hr1 hr2 w3 w4 hp.1 hp.2.1 hp.2.2).mono ?_
 rintro e w' ⟨a,b,b0,b1,rfl,u0,u1,nd,rng,hB⟩
 have e2:SV.as (packTy (c_i_SwingStep.rms.map (·.t))) ⟨c_i_SwingStep.resTy,c_i_SwingStep.fn (m,s,g,rate,kp)⟩=swgF m s g rate kp:=SV.as_self _ _
 rw[e2]
 exact ⟨[.agg a,.agg b,.bool (swgF m s g rate kp).2.2],b0++(b1++([]++[])),rfl,OutsV.mk (outA u0 fun q hq=>rng q (by simp[hq])) (OutsV.mk (outA u1 fun q hq=>rng q (by simp[hq])) (OutsV.mk outB ⟨rfl,rfl⟩)),by simpa using nd,by simpa using rng,hB⟩
theorem p_SwingStep (d:ModelD) (s:SwingD) (g:GradsD) (x y:Int) (hz0:((szT tModel d:Nat):Int)≤1048576) (hz1:((szT tSwing s:Nat):Int)≤1048576 - (szT tModel d:Nat)) (hz2:((szT tGrads g:Nat):Int)≤1048576 - (szT tModel d:Nat) - (szT tSwing s:Nat)):SwingP (d,s,g,x,y)∧SwingP (d,s,g,x,y) :=
 have h:SwingP (d,s,g,x,y):=⟨show szT tModel d≤1000000000 by omega,show szT tSwing s≤1000000000 by omega,show szT tGrads g≤1000000000 by omega⟩
 ⟨h,h⟩
def swingP (x:ModelD × (SwingD × (GradsD × (Int × Int)))):ModelD × (SwingD × Bool):=swgF x.1 x.2.1 x.2.2.1 x.2.2.2.1 x.2.2.2.2
theorem swgF_sz (d:ModelD) (s:SwingD) (g:GradsD) (x y:Int):szT tModel (swgF d s g x y).1=szT tModel d∧szT tSwing (swgF d s g x y).2.1=szT tSwing s:=by
 unfold swgF
 split
 ·rename_i h
  refine ⟨learnF_sz _ _ _,?_⟩
  have hl:=((fitB_iff _ _).1 ((swingB_iff _ _).1 h.1).2.2.1).1
  show szT tRows (swgR y s.1 g.1 d.length)+0=szT tRows s.1+0
  rw[← hl,swgR_sz]
 ·exact ⟨rfl,rfl⟩
theorem q_SwingStep (d:ModelD) (s:SwingD) (g:GradsD) (x y:Int) (hz0:((szT tModel d:Nat):Int)≤1048576) (hz1:((szT tSwing s:Nat):Int)≤1048576 - (szT tModel d:Nat)) (hz2:((szT tGrads g:Nat):Int)≤1048576 - (szT tModel d:Nat) - (szT tSwing s:Nat)):(cntt tModel (swingP (d,s,g,x,y)).1:Int)≤1000000000∧(cntt tSwing (swingP (d,s,g,x,y)).2.1:Int)≤1000000000:=by
 have h1:=cntt_le tModel (swingP (d,s,g,x,y)).1 (by decide)
 have h2:=cntt_le tSwing (swingP (d,s,g,x,y)).2.1 (by decide)
 obtain ⟨h3,h4⟩:szT tModel (swingP (d,s,g,x,y)).1=szT tModel d∧szT tSwing (swingP (d,s,g,x,y)).2.1=szT tSwing s:=swgF_sz d s g x y
 exact ⟨by omega,by omega⟩
end Go.Proofs.Ytahggdiafncdhaa
