/- FnKeeps: for every input the law returns true and leaves its arguments as they were. No conditions. -/
import Derived.Test.YtfmfeplebgbpmaaGreatEFnKeeps
import Derived.ChangeOld
import Derived.Below
namespace Go.Proofs.YtfmfeplebgbpmaaGreat.fnKeeps
open Go.ChangeShapes Go.WideShapes Go.ChangeAt Go.RowKit
open Go.ChangeMaps (open_string shut_string)
set_option linter.unusedVariables false
theorem own:ownKnob Tryz.prog.godebug=none:=by kernel_rfl
theorem laidOut:laidOutB Tryz.prog=true:=by kernel_rfl
set_option maxRecDepth 100000 in
theorem lifted (os:Go.Os) (started:os.Started) (H:Type) (enc:TypeId×Value->H) :
  ReturnsInHanded {} Tryz.checked os 4 .any (Rows.fnKeepsSpec.pre6 enc Tryz.prog Tryz.f4 Rows.fnKeepsRow.domain false) (Rows.fnKeepsSpec.post enc Tryz.prog Tryz.f4 false true false false):=by
 refine returnsInHanded_of_change (C:=Tryz.checked) own started (by kernel_rfl) Tryz.func4
  (ChangeSpec.witness6 (enc:=enc) (C:=Tryz.checked) false ⟨#[],#[.slice none 0 0],[]⟩ 8 (by kernel_rfl) (by kernel_rfl) (by kernel_rfl) (by kernel_rfl)) ?_
 intro W base args ds gs before hval0 hW hcnd _
 have hval:∀(j:Nat) t v,Tryz.f4.params[j]?=some t->args[j]?=some v->Value.okWide Tryz.prog W .any base t v:=hval0
 have hW':=hW
 obtain⟨p,q,Au,hV,rfl,hfz,hnd⟩:=hW
 have hA:DataW.TrodAll enc Tryz.prog W 0 (fun _=>true) true Tryz.f4.params.toList args.toList ds p:=Au
 rw[Tryz.params4] at hA hval
 obtain⟨v0,vs0,d0,ds0,p0,q0,hargs,rfl,rfl,h0,r0⟩:=trodAll_cons hA
 obtain⟨rfl,rfl,rfl⟩:=trodAll_nil r0
 obtain rfl:args = #[v0]:=by cases args;simp_all
 obtain⟨rfl,rfl⟩:=trodVars_none hV
 have k0:=h0
 have lt0:∀x∈p0,x.block<W.heap.size:=by obtain⟨m,hm⟩:=k0;exact DataW.trod_lt m _ _ _ hm
 obtain⟨a0,len0,cap0,rfl⟩:=okWide_slice Tryz.underlying45 (hval 0 45 v0 rfl rfl)
 obtain⟨fuel0,An⟩:=h0
 obtain⟨l0,p0',len0',cap0',Fy,w0⟩:=aH7 16 45 (.slice 5 (.int .u8)) (by kernel_rfl) _ _ _ An
 simp only[Value.cells,List.cons.injEq,Value.slice.injEq,and_true] at Fy
 obtain⟨rfl,rfl,rfl⟩:=Fy
 clear Au hval0
 refine(Go.Proofs.YtfmfeplebgbpmaaGreat.fnKeeps_walk W a0 len0 cap0 l0 w0).mono fun e W' ⟨he,bel⟩=>?_
 subst he
 exact⟨_,rfl,_,_,_,[],_,[],hW',trodAll_mk1 (shut_bool Tryz.underlying4 _),(trodAll_cons_mk (Below.trod laidOut (by kernel_rfl) (of_decide_eq_true (by kernel_rfl)) k0 bel lt0) trodAll_mk0),rfl,bel.frame _,fun h=>by cases h⟩
theorem j0:(Rows.fnKeepsRow.inPlace==Tryz.pinned.checked.prog.inPlace 4)=true:=by kernel_rfl
theorem j1:(Rows.fnKeepsRow.unfollowed==Tryz.pinned.checked.prog.unfollowed 4)=true:=by kernel_rfl
theorem j2:(Rows.fnKeepsRow.recurses==Tryz.pinned.checked.prog.recurses 4)=true:=by kernel_rfl
theorem j3:(Rows.fnKeepsRow.named==Tryz.pinned.checked.prog.varsNamed 4)=true:=by kernel_rfl
theorem j4:Tryz.pinned.checked.prog.stopsHeard=true:=by kernel_rfl
theorem j5:Tryz.pinned.checked.prog.mayEnter=true:=by kernel_rfl
theorem j6:(Rows.fnKeepsRow.lifted==Tryz.pinned.checked.prog.liftsFinal)=true:=by kernel_rfl
theorem j7:(Tryz.pinned.checked.prog.make==some Rows.fnKeepsRow.make)=true:=by kernel_rfl
theorem j8:(Rows.fnKeepsRow.plainKeys==Tryz.pinned.checked.prog.plainKeys)=true:=by kernel_rfl
theorem j9:laidOutB Tryz.pinned.checked.prog=true:=by kernel_rfl
theorem j10:mapsRowed Tryz.pinned.checked.prog=true:=by kernel_rfl
theorem clo:joinedFacts Tryz.pinned.checked.prog 4 Tryz.f4 Rows.fnKeepsSpec Rows.fnKeepsRow=true:=by
 unfold joinedFacts;rw[j0,j1,j2,j3,j4,j5,j6,j7,j8,j9,j10];kernel_rfl
theorem over:Rows.fnKeepsRow.holds Tryz.pinned (OpenSpec.ofChange Rows.fnKeepsSpec) :=
 OpenClaim.holds_of_wide 4 Tryz.f4 rfl rfl rfl rfl rfl rfl rfl ⟨rfl,rfl,rfl,rfl,rfl⟩ rfl rfl rfl rfl rfl (by kernel_rfl) Tryz.func4 clo
  (of_decide_eq_true (by kernel_rfl)) (by unfold Func.isWrapper;first|(rw[if_pos (by decide +kernel)];kernel_rfl)|(rw[if_neg (by decide +kernel)];exact⟨rfl,rfl⟩))
  (fun os started H enc _=>lifted os started H enc)
theorem proved:Rows.FnKeepsSaid:=over
end Go.Proofs.YtfmfeplebgbpmaaGreat.fnKeeps
