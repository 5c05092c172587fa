/- Pipe4: trees, and what they say. -/
import Derived.Test.YtepjkojfjdcegaaGreatStage3
namespace Go.Proofs.YtepjkojfjdcegaaGreat
open Go.ChangeShapes Go.WideShapes Go.ChangeAt Go.RowKit Go.Deep
set_option linter.unusedVariables false
set_option linter.unusedSimpArgs false
noncomputable def pB (P:Prop):Bool:=@decide P (Classical.propDecidable P)
theorem pB_iff {P:Prop}:pB P = true↔P:=by unfold pB;rw [@decide_eq_true_eq]
theorem pB_no {P:Prop}:pB P = false↔¬ P:=⟨fun h hp=>(by rw [pB_iff.2 hp] at h;cases h),fun h=>Bool.eq_false_iff.2 fun h2=>h (pB_iff.1 h2)⟩
theorem pF {P:Prop} (h:¬ P):false = pB P:=(pB_no.2 h).symm
theorem pT {P:Prop} (h:P):true = pB P:=(pB_iff.2 h).symm
theorem lastQ {k n:Nat}:((k:Int) == (n:Int) - 1) = decide (k + 1 = n):=by rw [Bool.eq_iff_iff,beq_iff_eq,decide_eq_true_eq];omega
theorem beqb_t {x y:Bool}:beqD .bool x y = true↔x = y:=by cases x <;> cases y <;> simp [beqD]
theorem beqb_f {x y:Bool}:beqD .bool x y = false↔¬ x = y:=by cases x <;> cases y <;> simp [beqD]
def itemB (x:ItemD):Bool:=vecB x.2 && decide (0≤x.1∧x.1 < 5)
theorem itemB_iff (x:ItemD):itemB x = true↔vecB x.2 = true∧0≤x.1∧x.1 < 5:=by unfold itemB;rw [Bool.and_eq_true,decide_eq_true_eq]
noncomputable def queueB (q:QueueD):Bool:=pB ((1≤q.1∧q.1≤5∧(q.2.length:Int)≤q.1)∧∀ i,i < q.2.length→itemB (q.2.getD i (zeroD tItem)) = true)
theorem nextA {P:Nat→Prop} {k:Nat} (h:∀ i,i < k→P i) (h2:P k):∀ i,i < k + 1→P i:=fun i hi=>by
 rcases Nat.lt_or_eq_of_le (Nat.le_of_lt_succ hi) with h' | rfl
 ·exact h i h'
 ·exact h2
def stageAt (p:PipeD) (i:Nat):Prop:=stageB (p.2.1.getD i (zeroD tStage)) = true∧(p.2.1.getD i (zeroD tStage)).2.2.2.1 = decide (i + 1 = p.2.1.length) ∧
 ∀ k,k < (p.2.1.getD i (zeroD tStage)).2.1.length→0≤((p.2.1.getD i (zeroD tStage)).2.1.getD k (zeroD tIns)).2∧((p.2.1.getD i (zeroD tStage)).2.1.getD k (zeroD tIns)).2 < (p.1.length:Int)
def pipeOk (p:PipeD):Prop:=(1≤p.2.1.length∧p.2.1.length≤4∧p.2.2.1.length + 1 = p.2.1.length∧p.2.2.2.length + 1 = p.2.1.length∧1≤p.1.length∧p.1.length≤5) ∧
 (∀ i,i < p.1.length→vecB (p.1.getD i (zeroD tPair)).1 = true∧vecB (p.1.getD i (zeroD tPair)).2 = true) ∧
 (∀ i,i < p.2.2.1.length→queueB (p.2.2.1.getD i (zeroD tQueue)) = true∧queueB (p.2.2.2.getD i (zeroD tQueue)) = true)∧∀ i,i < p.2.1.length→stageAt p i
noncomputable def pipeB (p:PipeD):Bool:=pB (pipeOk p)
noncomputable def c_i_itemOk:Con:=⟨207,tItem,.bool,[.val ⟨true,tItem,[]⟩],[⟨false,.bool,[0]⟩],false,none,
 ((fun _=>True):(ItemD)→Prop),
 ((fun x=>itemB x):(ItemD)→(Bool))⟩
def t_i_itemOk:T :=
 .call 0 (prA tItem 1 (.vr 0)) <|
 .ite (.vr 1) (
  .prim (.cmp .geq .i64) (.mk2 tI tI (.p1 tI tInts (.vr 0)) (.ci .i64 0)) <|
  .ite (.vr 2) (
   .prim (.cmp .lss .i64) (.mk2 tI tI (.p1 tI tInts (.vr 0)) (.ci .i64 5)) <|
   .ret (.vr 3)) (
   .ret (.cb false))) (
  .ret (.cb false))
set_option maxRecDepth 100000 in
theorem e_i_itemOk:exFn Tryz.prog [c_i_VecOk] c_i_itemOk false 3000 ⟨[],[]⟩ = .ok t_i_itemOk:=by kernel_rfl
theorem v_i_itemOk (x:ItemD) (hx:okD tItem x) (hp:(fun _=>True) x):t_i_itemOk.wp [c_i_VecOk] [⟨tItem,x⟩] [] (fun v=>v.as .bool = (fun x=>itemB x) x):=by
 delta t_i_itemOk c_i_VecOk;refine vcx ?_;try with_reducible exact True.intro
 (refine dcx ?_;try with_reducible exact True.intro)
 (repeat' first | intro _ | (with_reducible apply And.intro))
 all_goals first | (first | (refine (Bool.eq_false_iff.2 ?_).symm;rw [ne_eq,itemB_iff];intro hh;omega) | (refine (itemB_iff.2 ?_).symm;omega)) | (rw [Bool.eq_iff_iff,itemB_iff,decide_eq_true_eq];exact ⟨fun h=>⟨by assumption,by omega,h⟩,fun h=>h.2.2⟩) | (refine (Bool.eq_false_iff.2 fun h=>?_).symm;rw [itemB_iff] at h;simp_all)
theorem h_i_itemOk:Con.Holds Tryz.prog c_i_itemOk:=tree_ok mixedP (consAt h_i_VecOk consNil) e_i_itemOk fun x hx hp=>v_i_itemOk x hx hp
noncomputable def c_i_QueueOk:Con:=⟨184,tQueue,.bool,[.val ⟨true,tQueue,[]⟩],[⟨false,.bool,[0]⟩],false,none,
 ((fun _=>True):(QueueD)→Prop),
 ((fun x=>queueB x):(QueueD)→(Bool))⟩
def t_i_QueueOk:T :=
 .prim (.cmp .lss .i64) (.mk2 tI tI (.p1 tI (.slice 179 tItem) (.vr 0)) (.ci .i64 1)) <|
 .ite (.vr 1) (
  .ret (.cb false)) (
  .prim (.cmp .gtr .i64) (.mk2 tI tI (.p1 tI (.slice 179 tItem) (.vr 0)) (.ci .i64 5)) <|
  .ite (.vr 2) (
   .ret (.cb false)) (
   .prim (.llen 179 tItem) (prA tQueue 1 (.vr 0)) <|
   .prim (.cmp .gtr .i64) (.mk2 tI tI (.vr 3) (.p1 tI (.slice 179 tItem) (.vr 0))) <|
   .ite (.vr 4) (
    .ret (.cb false)) (
    .prim (.llen 179 tItem) (prA tQueue 1 (.vr 0)) <|
    .loop tI (.ci .i64 0) <|
     .prim (.cmp .lss .i64) (.mk2 tI tI (.vr 6) (.vr 5)) <|
     .ite (.vr 7) (
      .prim (.lidx 179 tItem) (.mk2 (.slice 179 tItem) tI (prA tQueue 1 (.vr 0)) (.vr 6)) <|
      .call 0 (.vr 8) <|
      .prim .not (.vr 9) <|
      .ite (.vr 10) (
       .ret (.cb false)) (
       .prim (.ar .add .i64) (.mk2 tI tI (.vr 6) (.ci .i64 1)) <|
       .again 0 (.vr 11))) (
      .ret (.cb true)))))
set_option maxRecDepth 100000 in
theorem e_i_QueueOk:exFn Tryz.prog [c_i_itemOk] c_i_QueueOk false 3000 ⟨[(2988,8006,drd 21 5 ++ [.dr 1,.dr 0,.tm 24 0])],[]⟩ = .ok t_i_QueueOk:=by kernel_rfl
theorem v_i_QueueOk (x:QueueD) (hx:okD tQueue x) (hp:(fun _=>True) x):t_i_QueueOk.wp [c_i_itemOk] [⟨tQueue,x⟩] [] (fun v=>v.as .bool = (fun x=>queueB x) x):=by
 have hm:List.length x.2≤9223372036854775807:=hx.2.1
 delta t_i_QueueOk c_i_itemOk;refine vcx ?_;try with_reducible exact True.intro
 (refine dcx ?_;try with_reducible exact True.intro)
 (repeat' first | intro _ | (with_reducible apply And.intro))
 all_goals first | omega | (exact pF fun h=>by have:=h.1;omega) | skip
 refine ⟨fun s=>∃ k:Nat,k≤x.2.length∧s = (k:Int)∧∀ i,i < k→itemB (x.2.getD i (zeroD tItem)) = true,fun s=>x.2.length - (s:Int).toNat,⟨0,by omega,rfl,by omega⟩,fun s _ hI=>?_⟩
 obtain ⟨k,hk,rfl,ha⟩:=hI
 (refine dcx ?_;try with_reducible exact True.intro)
 constructor
 ·intro hlt
  (repeat' first | intro _ | (with_reducible apply And.intro))
  all_goals first | omega | (exact pF fun h=>by have:=h.2 k (by omega);simp_all) | (exact ⟨k + 1,by omega,rfl,nextA ha (by assumption)⟩)
 ·intro hge
  exact pT ⟨⟨by omega,by omega,by omega⟩,fun i hi=>ha i (by omega)⟩
theorem h_i_QueueOk:Con.Holds Tryz.prog c_i_QueueOk:=tree_ok mixedP (consAt h_i_itemOk consNil) e_i_QueueOk fun x hx hp=>v_i_QueueOk x hx hp
noncomputable def c_s_QueueOk:Con:=⟨182,tQueue,.bool,[.val ⟨true,tQueue,[]⟩],[⟨false,.bool,[0]⟩],false,none,
 ((fun _=>True):(QueueD)→Prop),
 ((fun x=>queueB x):(QueueD)→(Bool))⟩
def t_s_QueueOk:T :=
 .loop tI (.ci .i64 0) <|
  .prim (.llen 179 tItem) (prA tQueue 1 (.vr 0)) <|
  .prim (.cmp .lss .i64) (.mk2 tI tI (.vr 1) (.vr 2)) <|
  .ite (.vr 3) (
   .prim (.lidx 179 tItem) (.mk2 (.slice 179 tItem) tI (prA tQueue 1 (.vr 0)) (.vr 1)) <|
   .call 0 (prA tItem 1 (.vr 4)) <|
   .prim .not (.vr 5) <|
   .ite (.vr 6) (
    .ret (.cb false)) (
    .prim (.lidx 179 tItem) (.mk2 (.slice 179 tItem) tI (prA tQueue 1 (.vr 0)) (.vr 1)) <|
    .call 1 (mkA (.pair tI tIns) [(.p1 tI tInts (.vr 7)),(.ci .i64 0),(.ci .i64 4)]) <|
    .prim .not (.vr 8) <|
    .ite (.vr 9) (
     .ret (.cb false)) (
     .prim (.ar .add .i64) (.mk2 tI tI (.vr 1) (.ci .i64 1)) <|
     .again 0 (.vr 10)))) (
   .call 1 (mkA (.pair tI tIns) [(.p1 tI (.slice 179 tItem) (.vr 0)),(.ci .i64 1),(.ci .i64 5)]) <|
   .ite (.vr 4) (
    .prim (.llen 179 tItem) (prA tQueue 1 (.vr 0)) <|
    .prim (.cmp .leq .i64) (.mk2 tI tI (.vr 5) (.p1 tI (.slice 179 tItem) (.vr 0))) <|
    .ret (.vr 6)) (
    .ret (.cb false)))
set_option maxRecDepth 100000 in
theorem e_s_QueueOk:exFn Tryz.prog [c_s_VecOk,c_s_l1In] c_s_QueueOk false 3000 ⟨[(2993,1001,[.dr 0,.tm 3 0])],[]⟩ = .ok t_s_QueueOk:=by kernel_rfl
theorem v_s_QueueOk (x:QueueD) (hx:okD tQueue x) (hp:(fun _=>True) x):t_s_QueueOk.wp [c_s_VecOk,c_s_l1In] [⟨tQueue,x⟩] [] (fun v=>v.as .bool = (fun x=>queueB x) x):=by
 have hm:List.length x.2≤9223372036854775807:=hx.2.1
 delta t_s_QueueOk c_s_VecOk c_s_l1In;refine vcx ?_;try with_reducible exact True.intro
 refine ⟨fun s=>∃ k:Nat,k≤x.2.length∧s = (k:Int)∧∀ i,i < k→itemB (x.2.getD i (zeroD tItem)) = true,fun s=>x.2.length - (s:Int).toNat,⟨0,by omega,rfl,by omega⟩,fun s _ hI=>?_⟩
 obtain ⟨k,hk,rfl,ha⟩:=hI
 (refine dcx ?_;try with_reducible exact True.intro)
 intro _
 have hi:=itemB_iff (x.2.getD k (zeroD tItem))
 constructor
 ·intro hlt
  (repeat' first | intro _ | (with_reducible apply And.intro))
  all_goals first | omega | (exact pF fun h=>by have h5:=hi.1 (h.2 k (by omega));first | omega | simp_all) | (exact ⟨k + 1,by omega,rfl,nextA ha (hi.2 ⟨by assumption,by omega,by omega⟩)⟩)
 ·intro hge
  (repeat' first | intro _ | (with_reducible apply And.intro))
  all_goals first | (exact pF fun h=>by have:=h.1;omega) | (unfold queueB;rw [Bool.eq_iff_iff,pB_iff,decide_eq_true_eq];exact ⟨fun h=>⟨⟨by omega,by omega,h⟩,fun i hi=>ha i (by omega)⟩,fun h=>h.1.2.2⟩)
theorem h_s_QueueOk:Con.Holds Tryz.prog c_s_QueueOk:=tree_ok mixedP (consAt h_s_VecOk (consAt h_s_l1In consNil)) e_s_QueueOk fun x hx hp=>v_s_QueueOk x hx hp
noncomputable def c_i_PipeOk:Con:=⟨136,tPipe,.bool,[.val ⟨true,tPipe,[]⟩],[⟨false,.bool,[0]⟩],false,none,
 ((fun _=>True):(PipeD)→Prop),
 ((fun x=>pipeB x):(PipeD)→(Bool))⟩
def t_i_PipeOk:T :=
 .prim (.llen 38 tStage) (pjA tPipe 1 (.vr 0)) <|
 .prim (.cmp .lss .i64) (.mk2 tI tI (.vr 1) (.ci .i64 1)) <|
 .ite (.vr 2) (
  .ret (.cb false)) (
  .prim (.cmp .gtr .i64) (.mk2 tI tI (.vr 1) (.ci .i64 4)) <|
  .ite (.vr 3) (
   .ret (.cb false)) (
   .prim (.llen 133 tQueue) (pjA tPipe 2 (.vr 0)) <|
   .prim (.ar .sub .i64) (.mk2 tI tI (.vr 1) (.ci .i64 1)) <|
   .prim (.cmp .neq .i64) (.mk2 tI tI (.vr 4) (.vr 5)) <|
   .ite (.vr 6) (
    .ret (.cb false)) (
    .prim (.llen 133 tQueue) (prA tPipe 3 (.vr 0)) <|
    .prim (.ar .sub .i64) (.mk2 tI tI (.vr 1) (.ci .i64 1)) <|
    .prim (.cmp .neq .i64) (.mk2 tI tI (.vr 7) (.vr 8)) <|
    .ite (.vr 9) (
     .ret (.cb false)) (
     .prim (.llen 128 tPair) (.p1 tBatch (.pair (.slice 38 tStage) (.pair tQueues tQueues)) (.vr 0)) <|
     .prim (.cmp .lss .i64) (.mk2 tI tI (.vr 10) (.ci .i64 1)) <|
     .ite (.vr 11) (
      .ret (.cb false)) (
      .prim (.llen 128 tPair) (.p1 tBatch (.pair (.slice 38 tStage) (.pair tQueues tQueues)) (.vr 0)) <|
      .prim (.cmp .gtr .i64) (.mk2 tI tI (.vr 12) (.ci .i64 5)) <|
      .ite (.vr 13) (
       .ret (.cb false)) (
       .prim (.llen 128 tPair) (.p1 tBatch (.pair (.slice 38 tStage) (.pair tQueues tQueues)) (.vr 0)) <|
       .loop tI (.ci .i64 0) <|
        .prim (.cmp .lss .i64) (.mk2 tI tI (.vr 15) (.vr 14)) <|
        .ite (.vr 16) (
         .prim (.lidx 128 tPair) (.mk2 tBatch tI (.p1 tBatch (.pair (.slice 38 tStage) (.pair tQueues tQueues)) (.vr 0)) (.vr 15)) <|
         .call 0 (.p1 tInts tInts (.vr 17)) <|
         .prim .not (.vr 18) <|
         .ite (.vr 19) (
          .ret (.cb false)) (
          .call 0 (prA tPair 1 (.vr 17)) <|
          .prim .not (.vr 20) <|
          .ite (.vr 21) (
           .ret (.cb false)) (
           .prim (.ar .add .i64) (.mk2 tI tI (.vr 15) (.ci .i64 1)) <|
           .again 0 (.vr 22)))) (
         .prim (.llen 133 tQueue) (pjA tPipe 2 (.vr 0)) <|
         .loop tI (.ci .i64 0) <|
          .prim (.cmp .lss .i64) (.mk2 tI tI (.vr 18) (.vr 17)) <|
          .ite (.vr 19) (
           .prim (.lidx 133 tQueue) (.mk2 tQueues tI (pjA tPipe 2 (.vr 0)) (.vr 18)) <|
           .call 1 (.vr 20) <|
           .prim .not (.vr 21) <|
           .ite (.vr 22) (
            .ret (.cb false)) (
            .prim (.lidx 133 tQueue) (.mk2 tQueues tI (prA tPipe 3 (.vr 0)) (.vr 18)) <|
            .call 1 (.vr 23) <|
            .prim .not (.vr 24) <|
            .ite (.vr 25) (
             .ret (.cb false)) (
             .prim (.ar .add .i64) (.mk2 tI tI (.vr 18) (.ci .i64 1)) <|
             .again 0 (.vr 26)))) (
           .prim (.llen 38 tStage) (pjA tPipe 1 (.vr 0)) <|
           .loop tI (.ci .i64 0) <|
            .prim (.cmp .lss .i64) (.mk2 tI tI (.vr 21) (.vr 20)) <|
            .ite (.vr 22) (
             .prim (.lidx 38 tStage) (.mk2 (.slice 38 tStage) tI (pjA tPipe 1 (.vr 0)) (.vr 21)) <|
             .call 2 (.vr 23) <|
             .prim .not (.vr 24) <|
             .ite (.vr 25) (
              .ret (.cb false)) (
              .prim (.ar .sub .i64) (.mk2 tI tI (.vr 1) (.ci .i64 1)) <|
              .prim (.cmp .eql .i64) (.mk2 tI tI (.vr 21) (.vr 26)) <|
              .prim (.eqv true .bool) (.mk2 .bool .bool (pjA tStage 3 (.vr 23)) (.vr 27)) <|
              .ite (.vr 28) (
               .ret (.cb false)) (
               .prim (.llen 94 tIns) (pjA tStage 1 (.vr 23)) <|
               .loop tI (.ci .i64 0) <|
                .prim (.cmp .lss .i64) (.mk2 tI tI (.vr 30) (.vr 29)) <|
                .ite (.vr 31) (
                 .prim (.lidx 94 tIns) (.mk2 tPlan tI (pjA tStage 1 (.vr 23)) (.vr 30)) <|
                 .prim (.cmp .lss .i64) (.mk2 tI tI (prA tIns 1 (.vr 32)) (.ci .i64 0)) <|
                 .ite (.vr 33) (
                  .ret (.cb false)) (
                  .prim (.llen 128 tPair) (.p1 tBatch (.pair (.slice 38 tStage) (.pair tQueues tQueues)) (.vr 0)) <|
                  .prim (.cmp .geq .i64) (.mk2 tI tI (prA tIns 1 (.vr 32)) (.vr 34)) <|
                  .ite (.vr 35) (
                   .ret (.cb false)) (
                   .prim (.ar .add .i64) (.mk2 tI tI (.vr 30) (.ci .i64 1)) <|
                   .again 0 (.vr 36)))) (
                 .prim (.ar .add .i64) (.mk2 tI tI (.vr 21) (.ci .i64 1)) <|
                 .again 1 (.vr 32))))) (
             .ret (.cb true))))))))))
set_option maxRecDepth 100000 in
theorem e_i_PipeOk:exFn Tryz.prog [c_i_VecOk,c_i_QueueOk,c_i_StageOk] c_i_PipeOk false 3000 ⟨[(2981,64015,drd 46 11 ++ [.dr 0,.tm 49 0]),(2971,128018,[.dr 65,.dr 64] ++ drd 50 47 ++ [.tm 67 0]),(2961,256021,[.dr 87] ++ drd 68 66 ++ [.tm 90 0]),(2943,2304030,[.tm 110 0])],[]⟩ = .ok t_i_PipeOk:=by kernel_rfl
theorem v_i_PipeOk (x:PipeD) (hx:okD tPipe x) (hp:(fun _=>True) x):t_i_PipeOk.wp [c_i_VecOk,c_i_QueueOk,c_i_StageOk] [⟨tPipe,x⟩] [] (fun v=>v.as .bool = (fun x=>pipeB x) x):=by
 obtain ⟨batch,stages,acts,backs⟩:=x
 have hm1:batch.length≤9223372036854775807:=hx.1.1
 have hm2:stages.length≤9223372036854775807:=hx.2.1.1
 have hm3:acts.length≤9223372036854775807:=hx.2.2.1.1
 have hm4:∀ k,k < stages.length→(stages.getD k (zeroD tStage)).2.1.length≤9223372036854775807:=fun k hk=>by rw [getD_at hk];exact (hx.2.1.2 _ (List.getElem_mem hk)).2.1.1
 delta t_i_PipeOk c_i_VecOk c_i_QueueOk c_i_StageOk;refine vcx ?_;try with_reducible exact True.intro
 (refine dcx ?_;try with_reducible exact True.intro)
 (repeat' first | intro _ | (with_reducible apply And.intro))
 all_goals first | omega | (exact pF fun h=>by have:=h.1;dsimp only at this;omega) | skip
 refine ⟨fun s=>∃ k:Nat,k≤batch.length∧s = (k:Int)∧∀ i,i < k→vecB (batch.getD i (zeroD tPair)).1 = true∧vecB (batch.getD i (zeroD tPair)).2 = true,fun s=>batch.length - (s:Int).toNat,⟨0,by omega,rfl,by omega⟩,fun s _ hI=>?_⟩
 obtain ⟨k,hk,rfl,ha⟩:=hI
 (refine dcx ?_;try with_reducible exact True.intro)
 constructor
 ·intro hlt
  (repeat' first | intro _ | (with_reducible apply And.intro))
  all_goals first | omega | (exact pF fun h=>by have:=h.2.1 k (by dsimp only;omega);dsimp only at this;simp_all) | (exact ⟨k + 1,by omega,rfl,nextA ha ⟨by assumption,by assumption⟩⟩)
 intro hge _
 have hb:∀ i,i < batch.length→vecB (batch.getD i (zeroD tPair)).1 = true∧vecB (batch.getD i (zeroD tPair)).2 = true:=fun i hi=>ha i (by omega)
 clear ha
 refine ⟨fun s=>∃ k:Nat,k≤acts.length∧s = (k:Int)∧∀ i,i < k→queueB (acts.getD i (zeroD tQueue)) = true∧queueB (backs.getD i (zeroD tQueue)) = true,fun s=>acts.length - (s:Int).toNat,⟨0,by omega,rfl,by omega⟩,fun s _ hI=>?_⟩
 obtain ⟨k2,hk2,rfl,ha⟩:=hI
 (refine dcx ?_;try with_reducible exact True.intro)
 constructor
 ·intro hlt
  (repeat' first | intro _ | (with_reducible apply And.intro))
  all_goals first | omega | (exact pF fun h=>by have:=h.2.2.1 k2 (by dsimp only;omega);dsimp only at this;simp_all) | (exact ⟨k2 + 1,by omega,rfl,nextA ha ⟨by assumption,by assumption⟩⟩)
 intro hge2 _
 have hq:∀ i,i < acts.length→queueB (acts.getD i (zeroD tQueue)) = true∧queueB (backs.getD i (zeroD tQueue)) = true:=fun i hi=>ha i (by omega)
 clear ha
 refine ⟨fun s=>∃ k:Nat,k≤stages.length∧s = (k:Int)∧∀ i,i < k→stageAt (batch,stages,acts,backs) i,fun s=>stages.length - (s:Int).toNat,⟨0,by omega,rfl,by omega⟩,fun s _ hI=>?_⟩
 obtain ⟨k3,hk3,rfl,ha⟩:=hI
 simp only [Int.toNat_natCast,Bool.not_eq_true',Bool.not_eq_false',Bool.and_eq_true,Bool.and_eq_false_iff,decide_eq_true_eq,decide_eq_false_iff_not,Int.not_lt,Int.not_le,ge_iff_le,gt_iff_lt,List.length_cons,List.length_nil,List.length_append,Nat.zero_add,List.nil_append,beq_iff_eq,beq_eq_false_iff_ne,bne_iff_ne,bne_eq_false_iff_eq,ne_eq,toNat_pred,toNat_succ,toNat_l0,toNat_l1,lastQ,beqb_t,beqb_f]
 have hm5:=hm4 k3
 constructor
 ·intro hlt
  have bad:¬ stageAt (batch,stages,acts,backs) k3→false = pipeB (batch,stages,acts,backs):=fun h=>pF fun hh=>h (hh.2.2.2 k3 (by dsimp only;omega))
  (repeat' first | intro _ | (with_reducible apply And.intro))
  all_goals first | omega | (exact bad fun h=>absurd h.2.1 (by assumption)) | (exact bad fun h=>Bool.noConfusion (h.1.symm.trans (by assumption:_ = false))) | skip
  refine ⟨fun s=>∃ k:Nat,k≤(stages.getD k3 (zeroD tStage)).2.1.length∧s = (k:Int)∧∀ i,i < k→0≤((stages.getD k3 (zeroD tStage)).2.1.getD i (zeroD tIns)).2∧((stages.getD k3 (zeroD tStage)).2.1.getD i (zeroD tIns)).2 < (batch.length:Int),fun s=>(stages.getD k3 (zeroD tStage)).2.1.length - (s:Int).toNat,⟨0,by omega,rfl,by omega⟩,fun s _ hI=>?_⟩
  obtain ⟨k4,hk4,rfl,hc⟩:=hI
  (refine dcx ?_;try with_reducible exact True.intro)
  (repeat' first | intro _ | (with_reducible apply And.intro))
  all_goals first | omega | (exact bad fun h=>by have h5:=h.2.2 k4 (by dsimp only;omega);dsimp only at h5;omega) | (exact ⟨k4 + 1,by omega,rfl,nextA hc ⟨by omega,by omega⟩⟩) | (exact ⟨k3 + 1,by omega,rfl,nextA ha ⟨by assumption,by assumption,fun i hi=>hc i (by dsimp only at hi;omega)⟩⟩)
 ·intro hge3
  exact pT ⟨⟨by dsimp only;omega,by dsimp only;omega,by dsimp only;omega,by dsimp only;omega,by dsimp only;omega,by dsimp only;omega⟩,hb,hq,fun i hi=>ha i (by dsimp only at hi;omega)⟩
theorem h_i_PipeOk:Con.Holds Tryz.prog c_i_PipeOk:=tree_ok mixedP (consAt h_i_VecOk (consAt h_i_QueueOk (consAt h_i_StageOk consNil))) e_i_PipeOk fun x hx hp=>v_i_PipeOk x hx hp
noncomputable def c_s_PipeOk:Con:=⟨134,tPipe,.bool,[.val ⟨true,tPipe,[]⟩],[⟨false,.bool,[0]⟩],false,none,
 ((fun _=>True):(PipeD)→Prop),
 ((fun x=>pipeB x):(PipeD)→(Bool))⟩
def t_s_PipeOk:T :=
 .prim (.llen 38 tStage) (pjA tPipe 1 (.vr 0)) <|
 .call 0 (mkA (.pair tI tIns) [(.vr 1),(.ci .i64 1),(.ci .i64 4)]) <|
 .prim .not (.vr 2) <|
 .ite (.vr 3) (
  .ret (.cb false)) (
  .prim (.llen 133 tQueue) (pjA tPipe 2 (.vr 0)) <|
  .prim (.ar .sub .i64) (.mk2 tI tI (.vr 1) (.ci .i64 1)) <|
  .prim (.cmp .neq .i64) (.mk2 tI tI (.vr 4) (.vr 5)) <|
  .ite (.vr 6) (
   .ret (.cb false)) (
   .prim (.llen 133 tQueue) (prA tPipe 3 (.vr 0)) <|
   .prim (.ar .sub .i64) (.mk2 tI tI (.vr 1) (.ci .i64 1)) <|
   .prim (.cmp .neq .i64) (.mk2 tI tI (.vr 7) (.vr 8)) <|
   .ite (.vr 9) (
    .ret (.cb false)) (
    .prim (.llen 128 tPair) (.p1 tBatch (.pair (.slice 38 tStage) (.pair tQueues tQueues)) (.vr 0)) <|
    .call 0 (mkA (.pair tI tIns) [(.vr 10),(.ci .i64 1),(.ci .i64 5)]) <|
    .prim .not (.vr 11) <|
    .ite (.vr 12) (
     .ret (.cb false)) (
     .loop tI (.ci .i64 0) <|
      .prim (.cmp .lss .i64) (.mk2 tI tI (.vr 13) (.vr 1)) <|
      .ite (.vr 14) (
       .prim (.lidx 38 tStage) (.mk2 (.slice 38 tStage) tI (pjA tPipe 1 (.vr 0)) (.vr 13)) <|
       .call 1 (.vr 15) <|
       .prim .not (.vr 16) <|
       .ite (.vr 17) (
        .ret (.cb false)) (
        .prim (.ar .sub .i64) (.mk2 tI tI (.vr 1) (.ci .i64 1)) <|
        .prim (.cmp .eql .i64) (.mk2 tI tI (.vr 13) (.vr 18)) <|
        .prim (.eqv true .bool) (.mk2 .bool .bool (pjA tStage 3 (.vr 15)) (.vr 19)) <|
        .ite (.vr 20) (
         .ret (.cb false)) (
         .loop tI (.ci .i64 0) <|
          .prim (.llen 94 tIns) (pjA tStage 1 (.vr 15)) <|
          .prim (.cmp .lss .i64) (.mk2 tI tI (.vr 21) (.vr 22)) <|
          .ite (.vr 23) (
           .prim (.lidx 94 tIns) (.mk2 tPlan tI (pjA tStage 1 (.vr 15)) (.vr 21)) <|
           .prim (.llen 128 tPair) (.p1 tBatch (.pair (.slice 38 tStage) (.pair tQueues tQueues)) (.vr 0)) <|
           .prim (.ar .sub .i64) (.mk2 tI tI (.vr 25) (.ci .i64 1)) <|
           .call 0 (mkA (.pair tI tIns) [(prA tIns 1 (.vr 24)),(.ci .i64 0),(.vr 26)]) <|
           .prim .not (.vr 27) <|
           .ite (.vr 28) (
            .ret (.cb false)) (
            .prim (.ar .add .i64) (.mk2 tI tI (.vr 21) (.ci .i64 1)) <|
            .again 0 (.vr 29))) (
           .prim (.cmp .gtr .i64) (.mk2 tI tI (.vr 13) (.ci .i64 0)) <|
           .ite (.vr 24) (
            .prim (.ar .sub .i64) (.mk2 tI tI (.vr 13) (.ci .i64 1)) <|
            .prim (.lidx 133 tQueue) (.mk2 tQueues tI (pjA tPipe 2 (.vr 0)) (.vr 25)) <|
            .call 2 (.vr 26) <|
            .prim .not (.vr 27) <|
            .ite (.vr 28) (
             .ret (.cb false)) (
             .prim (.ar .sub .i64) (.mk2 tI tI (.vr 13) (.ci .i64 1)) <|
             .prim (.lidx 133 tQueue) (.mk2 tQueues tI (prA tPipe 3 (.vr 0)) (.vr 29)) <|
             .call 2 (.vr 30) <|
             .prim .not (.vr 31) <|
             .ite (.vr 32) (
              .ret (.cb false)) (
              .prim (.ar .add .i64) (.mk2 tI tI (.vr 13) (.ci .i64 1)) <|
              .again 1 (.vr 33)))) (
            .prim (.ar .add .i64) (.mk2 tI tI (.vr 13) (.ci .i64 1)) <|
            .again 1 (.vr 25)))))) (
       .loop tI (.ci .i64 0) <|
        .prim (.llen 128 tPair) (.p1 tBatch (.pair (.slice 38 tStage) (.pair tQueues tQueues)) (.vr 0)) <|
        .prim (.cmp .lss .i64) (.mk2 tI tI (.vr 15) (.vr 16)) <|
        .ite (.vr 17) (
         .prim (.lidx 128 tPair) (.mk2 tBatch tI (.p1 tBatch (.pair (.slice 38 tStage) (.pair tQueues tQueues)) (.vr 0)) (.vr 15)) <|
         .call 3 (.p1 tInts tInts (.vr 18)) <|
         .prim .not (.vr 19) <|
         .ite (.vr 20) (
          .ret (.cb false)) (
          .prim (.lidx 128 tPair) (.mk2 tBatch tI (.p1 tBatch (.pair (.slice 38 tStage) (.pair tQueues tQueues)) (.vr 0)) (.vr 15)) <|
          .call 3 (prA tPair 1 (.vr 21)) <|
          .prim .not (.vr 22) <|
          .ite (.vr 23) (
           .ret (.cb false)) (
           .prim (.ar .add .i64) (.mk2 tI tI (.vr 15) (.ci .i64 1)) <|
           .again 0 (.vr 24)))) (
         .ret (.cb true)))))))
set_option maxRecDepth 100000 in
theorem e_s_PipeOk:exFn Tryz.prog [c_s_l1In,c_s_StageOk,c_s_QueueOk,c_s_VecOk] c_s_PipeOk false 3000 ⟨[(2986,16013,drd 36 8 ++ [.dr 0,.tm 4 0]),(2967,144021,[.tm 6 0]),(2976,32015,drd 39 37 ++ [.dr 4,.dr 3,.tm 7 0])],[]⟩ = .ok t_s_PipeOk:=by kernel_rfl
theorem v_s_PipeOk (x:PipeD) (hx:okD tPipe x) (hp:(fun _=>True) x):t_s_PipeOk.wp [c_s_l1In,c_s_StageOk,c_s_QueueOk,c_s_VecOk] [⟨tPipe,x⟩] [] (fun v=>v.as .bool = (fun x=>pipeB x) x):=by
 obtain ⟨batch,stages,acts,backs⟩:=x
 have hm1:batch.length≤9223372036854775807:=hx.1.1
 have hm2:stages.length≤9223372036854775807:=hx.2.1.1
 have hm3:acts.length≤9223372036854775807:=hx.2.2.1.1
 have hm4:∀ k,k < stages.length→(stages.getD k (zeroD tStage)).2.1.length≤9223372036854775807:=fun k hk=>by rw [getD_at hk];exact (hx.2.1.2 _ (List.getElem_mem hk)).2.1.1
 delta t_s_PipeOk c_s_l1In c_s_StageOk c_s_QueueOk c_s_VecOk;refine vcx ?_;try with_reducible exact True.intro
 (refine dcx ?_;try with_reducible exact True.intro)
 (repeat' first | intro _ | (with_reducible apply And.intro))
 all_goals first | omega | (exact pF fun h=>by have:=h.1;dsimp only at this;omega) | skip
 refine ⟨fun s=>∃ k:Nat,k≤stages.length∧s = (k:Int)∧∀ i,i < k→stageAt (batch,stages,acts,backs) i∧(0 < i→queueB (acts.getD (i - 1) (zeroD tQueue)) = true∧queueB (backs.getD (i - 1) (zeroD tQueue)) = true),fun s=>stages.length - (s:Int).toNat,⟨0,by omega,rfl,by omega⟩,fun s _ hI=>?_⟩
 obtain ⟨k3,hk3,rfl,ha⟩:=hI
 simp only [Int.toNat_natCast,Bool.not_eq_true',Bool.not_eq_false',Bool.and_eq_true,Bool.and_eq_false_iff,decide_eq_true_eq,decide_eq_false_iff_not,Int.not_lt,Int.not_le,ge_iff_le,gt_iff_lt,List.length_cons,List.length_nil,List.length_append,Nat.zero_add,List.nil_append,beq_iff_eq,beq_eq_false_iff_ne,bne_iff_ne,bne_eq_false_iff_eq,ne_eq,toNat_pred,toNat_succ,toNat_l0,toNat_l1,lastQ,beqb_t,beqb_f]
 have hm5:=hm4 k3
 constructor
 ·intro hlt
  have bad:¬ stageAt (batch,stages,acts,backs) k3→false = pipeB (batch,stages,acts,backs):=fun h=>pF fun hh=>h (hh.2.2.2 k3 (by dsimp only;omega))
  have bad2:0 < k3→¬ (queueB (acts.getD (k3 - 1) (zeroD tQueue)) = true∧queueB (backs.getD (k3 - 1) (zeroD tQueue)) = true)→false = pipeB (batch,stages,acts,backs):=fun h0 h=>pF fun hh=>h (hh.2.2.1 (k3 - 1) (by have:=hh.1;dsimp only at this ⊢;omega))
  (repeat' first | intro _ | (with_reducible apply And.intro))
  all_goals first | omega | (exact bad fun h=>absurd h.2.1 (by assumption)) | (exact bad fun h=>Bool.noConfusion (h.1.symm.trans (by assumption:_ = false))) | skip
  refine ⟨fun s=>∃ k:Nat,k≤(stages.getD k3 (zeroD tStage)).2.1.length∧s = (k:Int)∧∀ i,i < k→0≤((stages.getD k3 (zeroD tStage)).2.1.getD i (zeroD tIns)).2∧((stages.getD k3 (zeroD tStage)).2.1.getD i (zeroD tIns)).2 < (batch.length:Int),fun s=>(stages.getD k3 (zeroD tStage)).2.1.length - (s:Int).toNat,⟨0,by omega,rfl,by omega⟩,fun s _ hI=>?_⟩
  obtain ⟨k4,hk4,rfl,hc⟩:=hI
  (refine dcx ?_;try with_reducible exact True.intro)
  (repeat' first | intro _ | (with_reducible apply And.intro))
  all_goals first | omega | (exact bad fun h=>by have h5:=h.2.2 k4 (by dsimp only;omega);dsimp only at h5;omega) | (exact ⟨k4 + 1,by omega,rfl,nextA hc ⟨by omega,by omega⟩⟩) | (exact bad2 (by omega) fun h=>by simp_all;done) | (exact ⟨k3 + 1,by omega,rfl,nextA ha ⟨⟨by assumption,by assumption,fun i hi=>hc i (by dsimp only at hi;omega)⟩,fun _=>⟨by first | assumption | omega,by first | assumption | omega⟩⟩⟩)
 intro hge3
 have hs:∀ i,i < stages.length→stageAt (batch,stages,acts,backs) i:=fun i hi=>(ha i (by omega)).1
 have hq:∀ i,i < acts.length→queueB (acts.getD i (zeroD tQueue)) = true∧queueB (backs.getD i (zeroD tQueue)) = true:=fun i hi=>(ha (i + 1) (by omega)).2 (by omega)
 clear ha
 refine ⟨fun s=>∃ k:Nat,k≤batch.length∧s = (k:Int)∧∀ i,i < k→vecB (batch.getD i (zeroD tPair)).1 = true∧vecB (batch.getD i (zeroD tPair)).2 = true,fun s=>batch.length - (s:Int).toNat,⟨0,by omega,rfl,by omega⟩,fun s _ hI=>?_⟩
 obtain ⟨k,hk,rfl,ha⟩:=hI
 (refine dcx ?_;try with_reducible exact True.intro)
 intro _
 constructor
 ·intro hlt
  (repeat' first | intro _ | (with_reducible apply And.intro))
  all_goals first | omega | (exact pF fun h=>by have:=h.2.1 k (by dsimp only;omega);dsimp only at this;simp_all) | (exact ⟨k + 1,by omega,rfl,nextA ha ⟨by assumption,by assumption⟩⟩)
 intro hge
 exact pT ⟨⟨by dsimp only;omega,by dsimp only;omega,by dsimp only;omega,by dsimp only;omega,by dsimp only;omega,by dsimp only;omega⟩,fun i hi=>ha i (by dsimp only at hi;omega),hq,hs⟩
theorem h_s_PipeOk:Con.Holds Tryz.prog c_s_PipeOk:=tree_ok mixedP (consAt h_s_l1In (consAt h_s_StageOk (consAt h_s_QueueOk (consAt h_s_VecOk consNil)))) e_s_PipeOk fun x hx hp=>v_s_PipeOk x hx hp
end Go.Proofs.YtepjkojfjdcegaaGreat
