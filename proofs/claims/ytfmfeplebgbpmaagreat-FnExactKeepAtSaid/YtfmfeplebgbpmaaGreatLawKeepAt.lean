/- FnExactKeepAt: for every input the law returns true and leaves its arguments as they were. No conditions. -/
import Derived.Test.YtfmfeplebgbpmaaGreatEKeepAt
import Derived.ChangeOld
import Derived.Below
namespace Go.Proofs.YtfmfeplebgbpmaaGreat.fnExactKeepAt
open Go.ChangeShapes Go.WideShapes Go.ChangeAt Go.RowKit
open Go.ChangeMaps (open_string shut_string)
set_option linter.unusedVariables false
theorem own:ownKnob Tryz.prog.godebug=none:=by kernel_rfl
theorem laidOut:laidOutB Tryz.prog=true:=by kernel_rfl
set_option maxRecDepth 100000 in
theorem lifted (os:Go.Os) (started:os.Started) (H:Type) (enc:TypeId×Value->H) :
  ReturnsInHanded {} Tryz.checked os 7 .any (Rows.fnExactKeepAtSpec.pre6 enc Tryz.prog Tryz.f7 Rows.fnExactKeepAtRow.domain false) (Rows.fnExactKeepAtSpec.post enc Tryz.prog Tryz.f7 false true false false):=by
 refine returnsInHanded_of_change (C:=Tryz.checked) own started (by kernel_rfl) Tryz.func7
  (ChangeSpec.witness6 (enc:=enc) (C:=Tryz.checked) false ⟨#[],#[Value.agg #[.slice none 0 0,.slice none 0 0,.slice none 0 0,.slice none 0 0],.slice none 0 0,.int .i64 0],[]⟩ 8 (by kernel_rfl) (by kernel_rfl) (by kernel_rfl) (by kernel_rfl)) ?_
 intro W base args ds gs before hval0 hW hcnd _
 have hval:∀(j:Nat) t v,Tryz.f7.params[j]?=some t->args[j]?=some v->Value.okWide Tryz.prog W .any base t v:=hval0
 have hW':=hW
 obtain⟨p,q,Au,hV,rfl,hfz,hnd⟩:=hW
 have hA:DataW.TrodAll enc Tryz.prog W 0 (fun _=>true) true Tryz.f7.params.toList args.toList ds p:=Au
 rw[Tryz.params7] at hA hval
 obtain⟨v0,vs0,d0,ds0,p0,q0,hargs,rfl,rfl,h0,r0⟩:=trodAll_cons hA
 obtain⟨v1,vs1,d1,ds1,p1,q1,rfl,rfl,rfl,h1,r1⟩:=trodAll_cons r0
 obtain⟨v2,vs2,d2,ds2,p2,q2,rfl,rfl,rfl,h2,r2⟩:=trodAll_cons r1
 obtain⟨rfl,rfl,rfl⟩:=trodAll_nil r2
 obtain rfl:args = #[v0,v1,v2]:=by cases args;simp_all
 obtain⟨rfl,rfl⟩:=trodVars_none hV
 have k0:=h0
 have lt0:∀x∈p0,x.block<W.heap.size:=by obtain⟨m,hm⟩:=k0;exact DataW.trod_lt m _ _ _ hm
 obtain⟨cs0,rfl,_⟩:=okWide_struct Tryz.underlying26 (hval 0 26 v0 rfl rfl)
 obtain⟨fuel0,An⟩:=h0
 obtain⟨l0,w0⟩:=aH7 16 26 (.cMV (.slice 206 (.cMV aA aA)) (.cMV (.slice 224 (.cMV pN (.cMV (.slice 344 (.cMV pN pN)) (.cMV (.slice 329 (.cMV pN (.cMV pN (.cMV pN aA)))) (.cMV .bool (.cMV .bool (.cMV (.slice 335 (.cMV pN (.slice 337 (aA)))) (.cMV (.slice 337 (aA)) (.cMV aA (.cMV aA (.cMV aA (.cMV aA (.cMV (.slice 337 (aA)) (.cMV pN .bool)))))))))))))) (.cMV (.slice 228 (.cMV pN (.slice 339 (.cMV pN aA)))) (.slice 228 (.cMV pN (.slice 339 (.cMV pN aA))))))) (by kernel_rfl) _ _ _ An
 have k1:=h1
 have lt1:∀x∈p1,x.block<W.heap.size:=by obtain⟨m,hm⟩:=k1;exact DataW.trod_lt m _ _ _ hm
 obtain⟨a1,len1,cap1,rfl⟩:=okWide_slice Tryz.underlying53 (hval 1 53 v1 rfl rfl)
 obtain⟨fuel1,Ae⟩:=h1
 obtain⟨l1,p1',len1',cap1',Fx,w1⟩:=aH7 16 53 aA (by kernel_rfl) _ _ _ Ae
 simp only[Value.cells,List.cons.injEq,Value.slice.injEq,and_true] at Fx
 obtain⟨rfl,rfl,rfl⟩:=Fx
 have k2:=h2
 have lt2:∀x∈p2,x.block<W.heap.size:=by obtain⟨m,hm⟩:=k2;exact DataW.trod_lt m _ _ _ hm
 obtain⟨a2,rfl,rfl,rfl,w2⟩:=open_int Tryz.underlying3 (hval 2 3 v2 rfl rfl) h2
 clear Au hval0
 refine(Go.Proofs.YtfmfeplebgbpmaaGreat.fnExactKeepAt_walk W cs0 l0 w0 a1 len1 cap1 l1 w1 a2 w2).mono fun e W' ⟨he,bel⟩=>?_
 subst he
 exact⟨_,rfl,_,_,_,[],_,[],hW',trodAll_mk1 (shut_bool Tryz.underlying4 _),(trodAll_cons_mk (Below.trod laidOut (by kernel_rfl) (of_decide_eq_true (by kernel_rfl)) k0 bel lt0) (trodAll_cons_mk (Below.trod laidOut (by kernel_rfl) (of_decide_eq_true (by kernel_rfl)) k1 bel lt1) (trodAll_cons_mk (Below.trod laidOut (by kernel_rfl) (of_decide_eq_true (by kernel_rfl)) k2 bel lt2) trodAll_mk0))),rfl,bel.frame _,fun h=>by cases h⟩
theorem j0:(Rows.fnExactKeepAtRow.inPlace==Tryz.pinned.checked.prog.inPlace 7)=true:=by kernel_rfl
theorem j1:(Rows.fnExactKeepAtRow.unfollowed==Tryz.pinned.checked.prog.unfollowed 7)=true:=by kernel_rfl
theorem j2:(Rows.fnExactKeepAtRow.recurses==Tryz.pinned.checked.prog.recurses 7)=true:=by kernel_rfl
theorem j3:(Rows.fnExactKeepAtRow.named==Tryz.pinned.checked.prog.varsNamed 7)=true:=by kernel_rfl
theorem j4:Tryz.pinned.checked.prog.stopsHeard=true:=by kernel_rfl
theorem j5:Tryz.pinned.checked.prog.mayEnter=true:=by kernel_rfl
theorem j6:(Rows.fnExactKeepAtRow.lifted==Tryz.pinned.checked.prog.liftsFinal)=true:=by kernel_rfl
theorem j7:(Tryz.pinned.checked.prog.make==some Rows.fnExactKeepAtRow.make)=true:=by kernel_rfl
theorem j8:(Rows.fnExactKeepAtRow.plainKeys==Tryz.pinned.checked.prog.plainKeys)=true:=by kernel_rfl
theorem j9:laidOutB Tryz.pinned.checked.prog=true:=by kernel_rfl
theorem j10:mapsRowed Tryz.pinned.checked.prog=true:=by kernel_rfl
theorem clo:joinedFacts Tryz.pinned.checked.prog 7 Tryz.f7 Rows.fnExactKeepAtSpec Rows.fnExactKeepAtRow=true:=by
 unfold joinedFacts;rw[j0,j1,j2,j3,j4,j5,j6,j7,j8,j9,j10];kernel_rfl
theorem over:Rows.fnExactKeepAtRow.holds Tryz.pinned (OpenSpec.ofChange Rows.fnExactKeepAtSpec) :=
 OpenClaim.holds_of_wide 7 Tryz.f7 rfl rfl rfl rfl rfl rfl rfl ⟨rfl,rfl,rfl,rfl,rfl⟩ rfl rfl rfl rfl rfl (by kernel_rfl) Tryz.func7 clo
  (of_decide_eq_true (by kernel_rfl)) (by unfold Func.isWrapper;first|(rw[if_pos (by decide +kernel)];kernel_rfl)|(rw[if_neg (by decide +kernel)];exact⟨rfl,rfl⟩))
  (fun os started H enc _=>lifted os started H enc)
theorem proved:Rows.FnExactKeepAtSaid:=over
end Go.Proofs.YtfmfeplebgbpmaaGreat.fnExactKeepAt
