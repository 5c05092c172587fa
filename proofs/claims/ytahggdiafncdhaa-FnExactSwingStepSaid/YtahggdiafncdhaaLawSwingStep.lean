/- FnExactSwingStep: for every input the law returns true and leaves its arguments as they were. No conditions. -/
import Derived.Test.YtahggdiafncdhaaESwingStep
import Derived.ChangeOld
import Derived.Below
namespace Go.Proofs.Ytahggdiafncdhaa.fnExactSwingStep
open Go.ChangeShapes Go.WideShapes Go.ChangeAt Go.RowKit
open Go.ChangeMaps (open_string shut_string)
set_option linter.unusedVariables false
theorem own:ownKnob Try.prog.godebug=none:=by kernel_rfl
theorem laidOut:laidOutB Try.prog=true:=by kernel_rfl
set_option maxRecDepth 100000 in
theorem lifted (os:Go.Os) (started:os.Started) (H:Type) (enc:TypeId × Value→H) :
  ReturnsInHanded {} Try.checked os 7 .any (Rows.fnExactSwingStepSpec.pre6 enc Try.prog Try.f7 Rows.fnExactSwingStepRow.domain false) (Rows.fnExactSwingStepSpec.post enc Try.prog Try.f7 false true false false):=by
 refine returnsInHanded_of_change (C:=Try.checked) own started (by kernel_rfl) Try.func7
  (ChangeSpec.witness6 (enc:=enc) (C:=Try.checked) false ⟨#[],#[Value.agg #[.slice none 0 0],Value.agg #[.slice none 0 0,.int .i64 0],Value.agg #[.slice none 0 0,.int .i64 0,.bool false],.int .i64 0,.int .i64 0],[]⟩ 8 (by kernel_rfl) (by kernel_rfl) (by kernel_rfl) (by kernel_rfl)) ?_
 intro W base args ds gs before hval0 hW hcnd _
 have hval:∀ (j:Nat) t v,Try.f7.params[j]?=some t→args[j]?=some v→Value.okWide Try.prog W .any base t v:=hval0
 have hW':=hW
 obtain ⟨p,q,hA0,hV,rfl,hfz,hnd⟩:=hW
 have hA:DataW.TrodAll enc Try.prog W 0 (fun _=>true) true Try.f7.params.toList args.toList ds p:=hA0
 rw[Try.params7] at hA hval
 obtain ⟨v0,vs0,d0,ds0,p0,q0,hargs,rfl,rfl,h0,r0⟩:=trodAll_cons hA
 obtain ⟨v1,vs1,d1,ds1,p1,q1,rfl,rfl,rfl,h1,r1⟩:=trodAll_cons r0
 obtain ⟨v2,vs2,d2,ds2,p2,q2,rfl,rfl,rfl,h2,r2⟩:=trodAll_cons r1
 obtain ⟨v3,vs3,d3,ds3,p3,q3,rfl,rfl,rfl,h3,r3⟩:=trodAll_cons r2
 obtain ⟨v4,vs4,d4,ds4,p4,q4,rfl,rfl,rfl,h4,r4⟩:=trodAll_cons r3
 obtain ⟨rfl,rfl,rfl⟩:=trodAll_nil r4
 obtain rfl:args = #[v0,v1,v2,v3,v4]:=by cases args;simp_all
 obtain ⟨rfl,rfl⟩:=trodVars_none hV
 have k0:=h0
 have lt0:∀ x∈p0,x.block<W.heap.size:=by obtain ⟨m,hm⟩:=k0;exact DataW.trod_lt m _ _ _ hm
 obtain ⟨cs0,rfl,_⟩:=okWide_struct Try.underlying64 (hval 0 64 v0 rfl rfl)
 obtain ⟨fuel0,hf0⟩:=h0
 obtain ⟨l0,w0⟩:=rd_of_trod 16 64 ((.slice 157 (.pair tInt (.pair tInt (.pair tInt tInts))))) (by kernel_rfl) _ _ _ hf0
 have k1:=h1
 have lt1:∀ x∈p1,x.block<W.heap.size:=by obtain ⟨m,hm⟩:=k1;exact DataW.trod_lt m _ _ _ hm
 obtain ⟨cs1,rfl,_⟩:=okWide_struct Try.underlying67 (hval 1 67 v1 rfl rfl)
 obtain ⟨fuel1,hf1⟩:=h1
 obtain ⟨l1,w1⟩:=rd_of_trod 16 67 (.pair (.slice 159 (tInts)) tInt) (by kernel_rfl) _ _ _ hf1
 have k2:=h2
 have lt2:∀ x∈p2,x.block<W.heap.size:=by obtain ⟨m,hm⟩:=k2;exact DataW.trod_lt m _ _ _ hm
 obtain ⟨cs2,rfl,_⟩:=okWide_struct Try.underlying69 (hval 2 69 v2 rfl rfl)
 obtain ⟨fuel2,hf2⟩:=h2
 obtain ⟨l2,w2⟩:=rd_of_trod 16 69 (.pair (.slice 159 (tInts)) (.pair tInt .bool)) (by kernel_rfl) _ _ _ hf2
 have k3:=h3
 have lt3:∀ x∈p3,x.block<W.heap.size:=by obtain ⟨m,hm⟩:=k3;exact DataW.trod_lt m _ _ _ hm
 obtain ⟨a3,rfl,rfl,rfl,w3⟩:=open_int Try.underlying3 (hval 3 3 v3 rfl rfl) h3
 have k4:=h4
 have lt4:∀ x∈p4,x.block<W.heap.size:=by obtain ⟨m,hm⟩:=k4;exact DataW.trod_lt m _ _ _ hm
 obtain ⟨a4,rfl,rfl,rfl,w4⟩:=open_int Try.underlying3 (hval 4 3 v4 rfl rfl) h4
 clear hA0 hval0
 refine (Go.Proofs.Ytahggdiafncdhaa.fnExactSwingStep_walk W cs0 l0 w0 cs1 l1 w1 cs2 l2 w2 a3 w3 a4 w4).mono fun e W' ⟨he,bel⟩=>?_
 subst he
 exact ⟨_,rfl,_,_,_,[],_,[],hW',trodAll_mk1 (shut_bool Try.underlying4 _),(trodAll_cons_mk (Below.trod laidOut (by kernel_rfl) (of_decide_eq_true (by kernel_rfl)) k0 bel lt0) (trodAll_cons_mk (Below.trod laidOut (by kernel_rfl) (of_decide_eq_true (by kernel_rfl)) k1 bel lt1) (trodAll_cons_mk (Below.trod laidOut (by kernel_rfl) (of_decide_eq_true (by kernel_rfl)) k2 bel lt2) (trodAll_cons_mk (Below.trod laidOut (by kernel_rfl) (of_decide_eq_true (by kernel_rfl)) k3 bel lt3) (trodAll_cons_mk (Below.trod laidOut (by kernel_rfl) (of_decide_eq_true (by kernel_rfl)) k4 bel lt4) trodAll_mk0))))),rfl,bel.frame _,fun h=>by cases h⟩
theorem j0:(Rows.fnExactSwingStepRow.inPlace==Try.pinned.checked.prog.inPlace 7)=true:=by kernel_rfl
theorem j1:(Rows.fnExactSwingStepRow.unfollowed==Try.pinned.checked.prog.unfollowed 7)=true:=by kernel_rfl
theorem j2:(Rows.fnExactSwingStepRow.recurses==Try.pinned.checked.prog.recurses 7)=true:=by kernel_rfl
theorem j3:(Rows.fnExactSwingStepRow.named==Try.pinned.checked.prog.varsNamed 7)=true:=by kernel_rfl
theorem j4:Try.pinned.checked.prog.stopsHeard=true:=by kernel_rfl
theorem j5:Try.pinned.checked.prog.mayEnter=true:=by kernel_rfl
theorem j6:(Rows.fnExactSwingStepRow.lifted==Try.pinned.checked.prog.liftsFinal)=true:=by kernel_rfl
theorem j7:(Try.pinned.checked.prog.make==some Rows.fnExactSwingStepRow.make)=true:=by kernel_rfl
theorem j8:(Rows.fnExactSwingStepRow.plainKeys==Try.pinned.checked.prog.plainKeys)=true:=by kernel_rfl
theorem j9:laidOutB Try.pinned.checked.prog=true:=by kernel_rfl
theorem j10:mapsRowed Try.pinned.checked.prog=true:=by kernel_rfl
theorem clo:joinedFacts Try.pinned.checked.prog 7 Try.f7 Rows.fnExactSwingStepSpec Rows.fnExactSwingStepRow=true:=by
 unfold joinedFacts;rw[j0,j1,j2,j3,j4,j5,j6,j7,j8,j9,j10];kernel_rfl
theorem over:Rows.fnExactSwingStepRow.holds Try.pinned (OpenSpec.ofChange Rows.fnExactSwingStepSpec) :=
 OpenClaim.holds_of_wide 7 Try.f7 rfl rfl rfl rfl rfl rfl rfl ⟨rfl,rfl,rfl,rfl,rfl⟩ rfl rfl rfl rfl rfl (by kernel_rfl) Try.func7 clo
  (of_decide_eq_true (by kernel_rfl)) (by unfold Func.isWrapper;first|(rw[if_pos (by decide +kernel)];kernel_rfl)|(rw[if_neg (by decide +kernel)];exact ⟨rfl,rfl⟩))
  (fun os started H enc _=>lifted os started H enc)
theorem proved:Rows.FnExactSwingStepSaid:=over
end Go.Proofs.Ytahggdiafncdhaa.fnExactSwingStep
