/- Learning: the contract of impl.Learn. -/
import Derived.Test.YtahggdiafncdhaaLearnW
namespace Go.Proofs.Ytahggdiafncdhaa
open Go.ChangeShapes Go.WideShapes Go.ChangeAt Go.RowKit Go.Deep
set_option linter.unusedVariables false
set_option linter.unusedSimpArgs false
theorem argsRd.inv {w:World} {m:MV} {ms:List AM} {vs:List Value} {y:m.t.D} {ds:List SV} (h:argsRd w (.val m :: ms) vs (⟨m.t,y⟩ :: ds)):∃ v vs',vs=v :: vs'∧v=mkV m.ag v.cells.toList∧rd m.t w v.cells.toList y∧argsRd w ms vs' ds:=by
 obtain ⟨v,vs',d,ds',rfl,hd,_,hv,hr,h⟩:=h
 obtain ⟨rfl,rfl⟩:=List.cons.inj hd
 rw[SV.as_self] at hr
 exact ⟨v,vs',rfl,hv,hr,h⟩
theorem outA {w w':World} {cs:Array Value} {t:Ty} {fl:List Nat} {d:t.D} {bl:List Nat} (h:Un t w' cs.toList d bl) (hb:∀ b∈bl,w.heap.size≤b∧b<w'.heap.size):OutV w w' ⟨true,t,fl⟩ (.agg cs) d bl :=
 ⟨by simp[mkV,Value.cells],⟨(Un.rdg _ _ _ _ h).mono hb (fun _ _=>rfl),Nat.le_refl _⟩,fun _=>h⟩
theorem outB {w w':World} {fl:List Nat} {b:Bool}:OutV w w' ⟨false,.bool,fl⟩ (.bool b) b []:=⟨rfl,⟨rfl,Nat.le_refl _⟩,fun _=>⟨rfl,rfl⟩⟩
theorem OutsV.mk {w w':World} {m:MV} {ms:List MV} {r:Value} {rs:List Value} {y:m.t.D} {ds:List SV} {b1 b2:List Nat} (h:OutV w w' m r y b1) (hs:OutsV w w' ms rs ds b2):OutsV w w' (m :: ms) (r :: rs) (⟨m.t,y⟩ :: ds) (b1++b2) :=
 ⟨r,rs,b1,b2,rfl,rfl,by rw[SV.as_self];exact h,hs⟩
noncomputable def c_i_Learn:Con:=⟨26,(.pair tModel (.pair tGrads tI)),(.pair tModel .bool),[.val ⟨true,tModel,[]⟩,.val ⟨true,tGrads,[]⟩,.val ⟨false,tI,[]⟩],[⟨true,tModel,[1]⟩,⟨false,.bool,[0]⟩],false,none,
 ((fun x=>LearnP x):ModelD × (GradsD × Int)→Prop),
 ((fun x=>learnF x.1 x.2.1 x.2.2):ModelD × (GradsD × Int)→ModelD × Bool)⟩
theorem h_i_Learn:Con.Holds Try.prog c_i_Learn:=by
 refine Con.holds_walk rfl rfl rfl rfl (fun x hp hx=>h_s_Learn.ok x hp hx) ⟨Try.f26,Try.func26,by kernel_rfl,by kernel_rfl⟩ fun w vs x _ hp hx ha=>?_
 obtain ⟨m,g,rate⟩:=x
 have e:SV.as (packTy (c_i_Learn.ams.map (·.mv.t))) ⟨c_i_Learn.argTy,(m,g,rate)⟩=(m,g,rate):=SV.as_self _ _
 rw[e] at ha
 obtain ⟨v0,vs,rfl,hv0,hr0,ha⟩:=argsRd.inv ha
 obtain ⟨v1,vs,rfl,hv1,hr1,ha⟩:=argsRd.inv ha
 obtain ⟨v2,vs,rfl,hv2,hr2,rfl,-⟩:=argsRd.inv ha
 obtain ⟨c2,w2⟩:=hr2
 rw[c2] at hv2
 rw[hv0,hv1,hv2]
 refine (learn_walk v0.cells v1.cells m g rate w hr0 hr1 w2 hp.1 hp.2).mono ?_
 rintro e w' ⟨cs',rfl,⟨bl,un,nd,rng,hs⟩,hB⟩
 have e2:SV.as (packTy (c_i_Learn.rms.map (·.t))) ⟨c_i_Learn.resTy,c_i_Learn.fn (m,g,rate)⟩=learnF m g rate:=SV.as_self _ _
 rw[e2]
 exact ⟨[.agg cs',.bool (learnF m g rate).2],bl++([]++[]),rfl,OutsV.mk (outA un rng) (OutsV.mk outB ⟨rfl,rfl⟩),by simpa using nd,by simpa using rng,hB⟩
end Go.Proofs.Ytahggdiafncdhaa
