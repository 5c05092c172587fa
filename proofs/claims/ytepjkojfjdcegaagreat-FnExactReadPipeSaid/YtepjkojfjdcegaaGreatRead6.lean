/- Read6: trees, and what they say. -/
import Derived.Test.YtepjkojfjdcegaaGreatParse5
namespace Go.Proofs.YtepjkojfjdcegaaGreat
open Go.ChangeShapes Go.WideShapes Go.ChangeAt Go.RowKit Go.Deep
set_option linter.unusedVariables false
set_option linter.unusedSimpArgs false
theorem numsR_in:(k:Nat)→(r:RdD)→∀ v ∈ (numsR k r).1,-1000000000000≤v∧v≤1000000000000
 | 0,r,v,h=>by cases h
 | k + 1,r,v,h=>by
  cases hb:r.2.2 with
  | true=>rw [numsR_bad _ hb] at h;cases h
  | false =>
   rw [numsR_go _ hb] at h
   rcases List.mem_cons.1 h with rfl | h
   ·have:=numR_b r (-1000000000000) 1000000000000;omega
   ·exact numsR_in k _ v h
theorem someR_in {r:RdD} {n:Int} {i:Nat}:-1000000000000≤(someR r n).1.getD i 0∧(someR r n).1.getD i 0≤1000000000000:=by
 by_cases h:i < (someR r n).1.length
 ·rw [getD_at h]
  have hm:=List.getElem_mem h
  generalize (someR r n).1[i] = v at hm
  unfold someR at hm
  split at hm
  ·exact numsR_in _ _ _ hm
  ·rw [List.eq_of_mem_replicate hm];omega
 ·rw [List.getD_eq_getElem?_getD,List.getElem?_eq_none (by omega)];exact ⟨by decide,by decide⟩
theorem loopR_P {α:Type} {f:RdD→α × RdD} (hf:∀ r,RdP r→RdP (f r).2∧(f r).2.1 = r.1):(k:Nat)→{r:RdD}→RdP r→RdP (loopR f k r).2∧(loopR f k r).2.1 = r.1
 | 0,r,h=>⟨h,rfl⟩
 | k + 1,r,h=>by
  cases hb:r.2.2 with
  | true=>rw [loopR_bad _ _ hb];exact ⟨h,rfl⟩
  | false =>
   rw [loopR_go _ _ hb]
   have h1:=hf r h
   have h2:=loopR_P hf k h1.1
   exact ⟨h2.1,h2.2.trans h1.2⟩
theorem rowsR_P {r:RdD} (h:RdP r):RdP (rowsR r).2∧(rowsR r).2.1 = r.1:=by
 have h1:=numR_P h 0 20
 have h2:=loopR_P (f:=vecR) (fun r h=>vecR_P h) (numR r 0 20).1.toNat h1.1
 exact ⟨h2.1,h2.2.trans h1.2⟩
theorem insF_P {r:RdD} (h:RdP r):RdP (insF r).2∧(insF r).2.1 = r.1:=someR_P 2 h
theorem opF_P {r:RdD} (h:RdP r):RdP (opF r).2∧(opF r).2.1 = r.1:=by
 have h1:=someR_P 3 h
 have h2:=vecR_P h1.1
 exact ⟨h2.1,h2.2.trans h1.2⟩
theorem savF_P {r:RdD} (h:RdP r):RdP (savF r).2∧(savF r).2.1 = r.1:=by
 have h1:=someR_P 1 h
 have h2:=rowsR_P h1.1
 exact ⟨h2.1,h2.2.trans h1.2⟩
noncomputable def c_i_reader_some:Con:=⟨80,(.pair (.pair .str (.pair tI .bool)) tI),(.pair tInts (.pair .str (.pair tI .bool))),[.box 79 ⟨true,(.pair .str (.pair tI .bool)),[]⟩,.val ⟨false,tI,[]⟩],[⟨false,tInts,[2]⟩],false,none,
 ((fun x=>RdP x.1∧0≤x.2∧x.2≤100):(((ByteArray) × (Int × Bool)) × Int)→Prop),
 ((fun x=>someR x.1 x.2):(((ByteArray) × (Int × Bool)) × Int)→(IntsD × ((ByteArray) × (Int × Bool))))⟩
def t_i_reader_some:T :=
 .call 0 (.p1 (.pair .str (.pair tI .bool)) tI (.vr 0)) <|
 .prim (.llen 3 tI) (.p1 tInts (.pair .str (.pair tI .bool)) (.vr 1)) <|
 .prim (.cmp .neq .i64) (.mk2 tI tI (.vr 2) (prA (.pair (.pair .str (.pair tI .bool)) tI) 1 (.vr 0))) <|
 .ite (.vr 3) (
  .prim (.rep 3 tI 8) (prA (.pair (.pair .str (.pair tI .bool)) tI) 1 (.vr 0)) <|
  .ret (mkA (.pair tInts (.pair .str (.pair tI .bool))) [(.vr 4),(pjA (.pair tInts (.pair .str (.pair tI .bool))) 1 (.vr 1)),(pjA (.pair tInts (.pair .str (.pair tI .bool))) 2 (.vr 1)),(.cb true)])) (
  .ret (.vr 1))
set_option maxRecDepth 100000 in
theorem e_i_reader_some:exFn Tryz.prog [c_i_reader_vec] c_i_reader_some false 3000 ⟨[],[]⟩ = .ok t_i_reader_some:=by kernel_rfl
theorem v_i_reader_some (x:((ByteArray) × (Int × Bool)) × Int) (hx:okD (.pair (.pair .str (.pair tI .bool)) tI) x) (hp:(fun x=>RdP x.1∧0≤x.2∧x.2≤100) x):t_i_reader_some.wp [c_i_reader_vec] [⟨(.pair (.pair .str (.pair tI .bool)) tI),x⟩] [] (fun v=>v.as (.pair tInts (.pair .str (.pair tI .bool))) = (fun x=>someR x.1 x.2) x):=by
 obtain ⟨r,n⟩:=x
 obtain ⟨h1,h2,h3⟩:RdP r∧0≤n∧n≤100:=hp
 delta t_i_reader_some c_i_reader_vec;refine vcx ?_;try with_reducible exact True.intro
 (refine dcx ?_;try with_reducible exact True.intro)
 refine ⟨h1,fun _ _=>⟨fun h=>?_,fun h=>?_⟩⟩
 ·(repeat' first | intro _ | (with_reducible apply And.intro))
  all_goals first | omega | skip
  unfold someR;rw [if_neg h];rfl
 ·unfold someR;rw [if_pos h]
theorem h_i_reader_some:Con.Holds Tryz.prog c_i_reader_some:=tree_ok mixedP (consAt h_i_reader_vec consNil) e_i_reader_some fun x hx hp=>v_i_reader_some x hx hp
noncomputable def c_i_reader_rows:Con:=⟨106,(.pair .str (.pair tI .bool)),(.pair tRows (.pair .str (.pair tI .bool))),[.box 79 ⟨true,(.pair .str (.pair tI .bool)),[]⟩],[⟨false,tRows,[2]⟩],false,none,
 ((fun x=>RdP x):((ByteArray) × (Int × Bool))→Prop),
 ((fun x=>rowsR x):((ByteArray) × (Int × Bool))→(RowsD × ((ByteArray) × (Int × Bool))))⟩
def t_i_reader_rows:T :=
 .call 0 (mkA (.pair (.pair .str (.pair tI .bool)) tIns) [(.vr 0),(.ci .i64 0),(.ci .i64 20)]) <|
 .loop (.pair tI (.pair .str (.pair tI (.pair .bool tRows)))) (mkA (.pair tI (.pair .str (.pair tI (.pair .bool tRows)))) [(.ci .i64 0),(pjA (.pair tI (.pair .str (.pair tI .bool))) 1 (.vr 1)),(pjA (.pair tI (.pair .str (.pair tI .bool))) 2 (.vr 1)),(prA (.pair tI (.pair .str (.pair tI .bool))) 3 (.vr 1)),(.nl 158 tInts)]) <|
  .prim (.cmp .lss .i64) (.mk2 tI tI (.p1 tI (.pair .str (.pair tI (.pair .bool tRows))) (.vr 2)) (.p1 tI (.pair .str (.pair tI .bool)) (.vr 1))) <|
  .ite (.vr 3) (
   .prim .not (pjA (.pair tI (.pair .str (.pair tI (.pair .bool tRows)))) 3 (.vr 2)) <|
   .ite (.vr 4) (
    .call 1 (mkA (.pair .str (.pair tI .bool)) [(pjA (.pair tI (.pair .str (.pair tI (.pair .bool tRows)))) 1 (.vr 2)),(pjA (.pair tI (.pair .str (.pair tI (.pair .bool tRows)))) 2 (.vr 2)),(pjA (.pair tI (.pair .str (.pair tI (.pair .bool tRows)))) 3 (.vr 2))]) <|
    .prim (.lit 158 tInts 1) (.p1 tInts (.pair .str (.pair tI .bool)) (.vr 5)) <|
    .prim (.lapp 158 tInts 24) (.mk2 tRows tRows (prA (.pair tI (.pair .str (.pair tI (.pair .bool tRows)))) 4 (.vr 2)) (.vr 6)) <|
    .prim (.ar .add .i64) (.mk2 tI tI (.p1 tI (.pair .str (.pair tI (.pair .bool tRows))) (.vr 2)) (.ci .i64 1)) <|
    .again 0 (mkA (.pair tI (.pair .str (.pair tI (.pair .bool tRows)))) [(.vr 8),(pjA (.pair tInts (.pair .str (.pair tI .bool))) 1 (.vr 5)),(pjA (.pair tInts (.pair .str (.pair tI .bool))) 2 (.vr 5)),(prA (.pair tInts (.pair .str (.pair tI .bool))) 3 (.vr 5)),(.vr 7)])) (
    .ret (mkA (.pair tRows (.pair .str (.pair tI .bool))) [(prA (.pair tI (.pair .str (.pair tI (.pair .bool tRows)))) 4 (.vr 2)),(pjA (.pair tI (.pair .str (.pair tI (.pair .bool tRows)))) 1 (.vr 2)),(pjA (.pair tI (.pair .str (.pair tI (.pair .bool tRows)))) 2 (.vr 2)),(pjA (.pair tI (.pair .str (.pair tI (.pair .bool tRows)))) 3 (.vr 2))]))) (
   .ret (mkA (.pair tRows (.pair .str (.pair tI .bool))) [(prA (.pair tI (.pair .str (.pair tI (.pair .bool tRows)))) 4 (.vr 2)),(pjA (.pair tI (.pair .str (.pair tI (.pair .bool tRows)))) 1 (.vr 2)),(pjA (.pair tI (.pair .str (.pair tI (.pair .bool tRows)))) 2 (.vr 2)),(pjA (.pair tI (.pair .str (.pair tI (.pair .bool tRows)))) 3 (.vr 2))]))
set_option maxRecDepth 100000 in
theorem e_i_reader_rows:exFn Tryz.prog [c_i_reader_number,c_i_reader_vec] c_i_reader_rows false 3000 ⟨[(2989,1002,drd 8 6 ++ [.tm 5 0,.on 3,.bx 1 0,.bx 1 1,.bx 1 2,.sl 2])],[(2981,7005,[23],[])]⟩ = .ok t_i_reader_rows:=by kernel_rfl
theorem v_i_reader_rows (x:(ByteArray) × (Int × Bool)) (hx:okD (.pair .str (.pair tI .bool)) x) (hp:(fun x=>RdP x) x):t_i_reader_rows.wp [c_i_reader_number,c_i_reader_vec] [⟨(.pair .str (.pair tI .bool)),x⟩] [] (fun v=>v.as (.pair tRows (.pair .str (.pair tI .bool))) = (fun x=>rowsR x) x):=by
 have hp:RdP x:=hp
 delta t_i_reader_rows c_i_reader_number c_i_reader_vec;refine vcx ?_;try with_reducible exact True.intro
 have h1:=numR_P hp 0 20
 have hb:=numR_b x 0 20
 refine ⟨hp,fun _=>?_⟩
 refine ⟨fun t=>∃ k:Nat,t.1 = (k:Int)∧(k:Int)≤(numR x 0 20).1∧List.length t.2.2.2.2≤k∧RdP (t.2.1,t.2.2.1,t.2.2.2.1)∧rowsR x = (t.2.2.2.2 ++ (loopR vecR ((numR x 0 20).1.toNat - k) (t.2.1,t.2.2.1,t.2.2.2.1)).1,(loopR vecR ((numR x 0 20).1.toNat - k) (t.2.1,t.2.2.1,t.2.2.2.1)).2),fun t=>((numR x 0 20).1 - (t.1:Int)).toNat,⟨0,rfl,by omega,Nat.le_refl _,h1.1,rfl⟩,fun t _ hI=>?_⟩
 obtain ⟨i,s,p,b,acc⟩:Int × (ByteArray × (Int × (Bool × RowsD))):=t
 obtain ⟨k,rfl,hk,hl,hP,hv⟩:=hI
 dsimp only at hk hl hP hv ⊢
 generalize hn:(numR x 0 20).1 = n at hb hk hv ⊢
 constructor
 ·intro hlt
  rw [decide_eq_true_eq] at hlt
  constructor
  ·intro hb2
   obtain rfl:b = false:=by simpa using hb2
   have hP2:=vecR_P hP
   obtain ⟨m,hm⟩:∃ m,n.toNat - k = m + 1:=⟨n.toNat - k - 1,by omega⟩
   rw [hm,loopR_go vecR m rfl] at hv
   (refine dcx ?_;try with_reducible exact True.intro)
   (repeat' first | intro _ | (with_reducible apply And.intro))
   all_goals first | omega | exact hP | (unfold maxLen;omega) | skip
   refine ⟨k + 1,rfl,by omega,Nat.succ_le_succ hl,hP2.1,?_⟩
   rw [show n.toNat - (k + 1) = m by omega,hv]
   simp
  ·intro hb2
   obtain rfl:b = true:=by simpa using hb2
   rw [loopR_bad _ _ rfl] at hv
   rw [hv];simp
 ·intro hge
  rw [decide_eq_false_iff_not] at hge
  rw [show n.toNat - k = 0 by omega] at hv
  rw [hv];simp [loopR]
theorem h_i_reader_rows:Con.Holds Tryz.prog c_i_reader_rows:=tree_ok mixedP (consAt h_i_reader_number (consAt h_i_reader_vec consNil)) e_i_reader_rows fun x hx hp=>v_i_reader_rows x hx hp
noncomputable def c_i_reader_stage:Con:=⟨53,(.pair .str (.pair tI .bool)),(.pair tStage (.pair .str (.pair tI .bool))),[.box 79 ⟨true,(.pair .str (.pair tI .bool)),[]⟩],[⟨true,tStage,[0,1,1,0,0,1,1,1,1,1,1,1,0,0]⟩],false,none,
 ((fun x=>RdP x):((ByteArray) × (Int × Bool))→Prop),
 ((fun x=>stageR x):((ByteArray) × (Int × Bool))→(StageD × ((ByteArray) × (Int × Bool))))⟩
def t_i_reader_stage:T :=
 .call 0 (.mk2 (.pair .str (.pair tI .bool)) tI (.vr 0) (.ci .i64 8)) <|
 .prim (.lidx 3 tI) (.mk2 tInts tI (.p1 tInts (.pair .str (.pair tI .bool)) (.vr 1)) (.ci .i64 0)) <|
 .prim (.lidx 3 tI) (.mk2 tInts tI (.p1 tInts (.pair .str (.pair tI .bool)) (.vr 1)) (.ci .i64 0)) <|
 .prim (.lidx 3 tI) (.mk2 tInts tI (.p1 tInts (.pair .str (.pair tI .bool)) (.vr 1)) (.ci .i64 1)) <|
 .prim (.lidx 3 tI) (.mk2 tInts tI (.p1 tInts (.pair .str (.pair tI .bool)) (.vr 1)) (.ci .i64 1)) <|
 .prim (.cmp .eql .i64) (.mk2 tI tI (.vr 5) (.ci .i64 1)) <|
 .prim (.lidx 3 tI) (.mk2 tInts tI (.p1 tInts (.pair .str (.pair tI .bool)) (.vr 1)) (.ci .i64 2)) <|
 .prim (.lidx 3 tI) (.mk2 tInts tI (.p1 tInts (.pair .str (.pair tI .bool)) (.vr 1)) (.ci .i64 2)) <|
 .prim (.cmp .eql .i64) (.mk2 tI tI (.vr 8) (.ci .i64 1)) <|
 .prim (.lidx 3 tI) (.mk2 tInts tI (.p1 tInts (.pair .str (.pair tI .bool)) (.vr 1)) (.ci .i64 3)) <|
 .prim (.lidx 3 tI) (.mk2 tInts tI (.p1 tInts (.pair .str (.pair tI .bool)) (.vr 1)) (.ci .i64 3)) <|
 .prim (.lidx 3 tI) (.mk2 tInts tI (.p1 tInts (.pair .str (.pair tI .bool)) (.vr 1)) (.ci .i64 4)) <|
 .prim (.lidx 3 tI) (.mk2 tInts tI (.p1 tInts (.pair .str (.pair tI .bool)) (.vr 1)) (.ci .i64 4)) <|
 .prim (.cmp .eql .i64) (.mk2 tI tI (.vr 13) (.ci .i64 1)) <|
 .loop (.pair tI (.pair tPlan (.pair .str (.pair tI .bool)))) (mkA (.pair tI (.pair tPlan (.pair .str (.pair tI .bool)))) [(.ci .i64 0),(.nl 94 tIns),(prA (.pair tInts (.pair .str (.pair tI .bool))) 1 (.vr 1))]) <|
  .prim (.lidx 3 tI) (.mk2 tInts tI (.p1 tInts (.pair .str (.pair tI .bool)) (.vr 1)) (.ci .i64 5)) <|
  .prim (.lidx 3 tI) (.mk2 tInts tI (.p1 tInts (.pair .str (.pair tI .bool)) (.vr 1)) (.ci .i64 5)) <|
  .prim (.cmp .lss .i64) (.mk2 tI tI (.p1 tI (.pair tPlan (.pair .str (.pair tI .bool))) (.vr 15)) (.vr 17)) <|
  .ite (.vr 18) (
   .prim .not (prA (.pair tI (.pair tPlan (.pair .str (.pair tI .bool)))) 4 (.vr 15)) <|
   .ite (.vr 19) (
    .call 0 (.mk2 (.pair .str (.pair tI .bool)) tI (prA (.pair tI (.pair tPlan (.pair .str (.pair tI .bool)))) 2 (.vr 15)) (.ci .i64 2)) <|
    .prim (.lidx 3 tI) (.mk2 tInts tI (.p1 tInts (.pair .str (.pair tI .bool)) (.vr 20)) (.ci .i64 0)) <|
    .prim (.lidx 3 tI) (.mk2 tInts tI (.p1 tInts (.pair .str (.pair tI .bool)) (.vr 20)) (.ci .i64 0)) <|
    .prim (.lidx 3 tI) (.mk2 tInts tI (.p1 tInts (.pair .str (.pair tI .bool)) (.vr 20)) (.ci .i64 1)) <|
    .prim (.lidx 3 tI) (.mk2 tInts tI (.p1 tInts (.pair .str (.pair tI .bool)) (.vr 20)) (.ci .i64 1)) <|
    .prim (.lit 94 tIns 1) (.mk2 tI tI (.vr 22) (.vr 24)) <|
    .prim (.lapp 94 tIns 16) (.mk2 tPlan tPlan (pjA (.pair tI (.pair tPlan (.pair .str (.pair tI .bool)))) 1 (.vr 15)) (.vr 25)) <|
    .prim (.ar .add .i64) (.mk2 tI tI (.p1 tI (.pair tPlan (.pair .str (.pair tI .bool))) (.vr 15)) (.ci .i64 1)) <|
    .again 0 (mkA (.pair tI (.pair tPlan (.pair .str (.pair tI .bool)))) [(.vr 27),(.vr 26),(prA (.pair tInts (.pair .str (.pair tI .bool))) 1 (.vr 20))])) (
    .loop (.pair tI (.pair tModel (.pair .str (.pair tI .bool)))) (mkA (.pair tI (.pair tModel (.pair .str (.pair tI .bool)))) [(.ci .i64 0),(.nl 96 tOp),(prA (.pair tI (.pair tPlan (.pair .str (.pair tI .bool)))) 2 (.vr 15))]) <|
     .prim (.lidx 3 tI) (.mk2 tInts tI (.p1 tInts (.pair .str (.pair tI .bool)) (.vr 1)) (.ci .i64 6)) <|
     .prim (.lidx 3 tI) (.mk2 tInts tI (.p1 tInts (.pair .str (.pair tI .bool)) (.vr 1)) (.ci .i64 6)) <|
     .prim (.cmp .lss .i64) (.mk2 tI tI (.p1 tI (.pair tModel (.pair .str (.pair tI .bool))) (.vr 20)) (.vr 22)) <|
     .ite (.vr 23) (
      .prim .not (prA (.pair tI (.pair tModel (.pair .str (.pair tI .bool)))) 4 (.vr 20)) <|
      .ite (.vr 24) (
       .call 0 (.mk2 (.pair .str (.pair tI .bool)) tI (prA (.pair tI (.pair tModel (.pair .str (.pair tI .bool)))) 2 (.vr 20)) (.ci .i64 3)) <|
       .call 1 (prA (.pair tInts (.pair .str (.pair tI .bool))) 1 (.vr 25)) <|
       .prim (.lidx 3 tI) (.mk2 tInts tI (.p1 tInts (.pair .str (.pair tI .bool)) (.vr 25)) (.ci .i64 0)) <|
       .prim (.lidx 3 tI) (.mk2 tInts tI (.p1 tInts (.pair .str (.pair tI .bool)) (.vr 25)) (.ci .i64 0)) <|
       .prim (.lidx 3 tI) (.mk2 tInts tI (.p1 tInts (.pair .str (.pair tI .bool)) (.vr 25)) (.ci .i64 1)) <|
       .prim (.lidx 3 tI) (.mk2 tInts tI (.p1 tInts (.pair .str (.pair tI .bool)) (.vr 25)) (.ci .i64 1)) <|
       .prim (.lidx 3 tI) (.mk2 tInts tI (.p1 tInts (.pair .str (.pair tI .bool)) (.vr 25)) (.ci .i64 2)) <|
       .prim (.lidx 3 tI) (.mk2 tInts tI (.p1 tInts (.pair .str (.pair tI .bool)) (.vr 25)) (.ci .i64 2)) <|
       .prim (.lit 96 tOp 1) (mkA tOp [(.vr 28),(.vr 30),(.vr 32),(.p1 tInts (.pair .str (.pair tI .bool)) (.vr 26))]) <|
       .prim (.lapp 96 tOp 48) (.mk2 tModel tModel (pjA (.pair tI (.pair tModel (.pair .str (.pair tI .bool)))) 1 (.vr 20)) (.vr 33)) <|
       .prim (.ar .add .i64) (.mk2 tI tI (.p1 tI (.pair tModel (.pair .str (.pair tI .bool))) (.vr 20)) (.ci .i64 1)) <|
       .again 0 (mkA (.pair tI (.pair tModel (.pair .str (.pair tI .bool)))) [(.vr 35),(.vr 34),(prA (.pair tInts (.pair .str (.pair tI .bool))) 1 (.vr 26))])) (
       .loop (.pair tI (.pair (.slice 98 tSaved) (.pair .str (.pair tI .bool)))) (mkA (.pair tI (.pair (.slice 98 tSaved) (.pair .str (.pair tI .bool)))) [(.ci .i64 0),(.nl 98 tSaved),(prA (.pair tI (.pair tModel (.pair .str (.pair tI .bool)))) 2 (.vr 20))]) <|
        .prim (.lidx 3 tI) (.mk2 tInts tI (.p1 tInts (.pair .str (.pair tI .bool)) (.vr 1)) (.ci .i64 7)) <|
        .prim (.lidx 3 tI) (.mk2 tInts tI (.p1 tInts (.pair .str (.pair tI .bool)) (.vr 1)) (.ci .i64 7)) <|
        .prim (.cmp .lss .i64) (.mk2 tI tI (.p1 tI (.pair (.slice 98 tSaved) (.pair .str (.pair tI .bool))) (.vr 25)) (.vr 27)) <|
        .ite (.vr 28) (
         .prim .not (prA (.pair tI (.pair (.slice 98 tSaved) (.pair .str (.pair tI .bool)))) 4 (.vr 25)) <|
         .ite (.vr 29) (
          .call 0 (.mk2 (.pair .str (.pair tI .bool)) tI (prA (.pair tI (.pair (.slice 98 tSaved) (.pair .str (.pair tI .bool)))) 2 (.vr 25)) (.ci .i64 1)) <|
          .call 2 (prA (.pair tInts (.pair .str (.pair tI .bool))) 1 (.vr 30)) <|
          .prim (.lidx 3 tI) (.mk2 tInts tI (.p1 tInts (.pair .str (.pair tI .bool)) (.vr 30)) (.ci .i64 0)) <|
          .prim (.lidx 3 tI) (.mk2 tInts tI (.p1 tInts (.pair .str (.pair tI .bool)) (.vr 30)) (.ci .i64 0)) <|
          .prim (.lit 98 tSaved 1) (.mk2 tI tRows (.vr 33) (.p1 tRows (.pair .str (.pair tI .bool)) (.vr 31))) <|
          .prim (.lapp 98 tSaved 32) (.mk2 (.slice 98 tSaved) (.slice 98 tSaved) (pjA (.pair tI (.pair (.slice 98 tSaved) (.pair .str (.pair tI .bool)))) 1 (.vr 25)) (.vr 34)) <|
          .prim (.ar .add .i64) (.mk2 tI tI (.p1 tI (.pair (.slice 98 tSaved) (.pair .str (.pair tI .bool))) (.vr 25)) (.ci .i64 1)) <|
          .again 0 (mkA (.pair tI (.pair (.slice 98 tSaved) (.pair .str (.pair tI .bool)))) [(.vr 36),(.vr 35),(prA (.pair tRows (.pair .str (.pair tI .bool))) 1 (.vr 31))])) (
          .call 2 (prA (.pair tI (.pair (.slice 98 tSaved) (.pair .str (.pair tI .bool)))) 2 (.vr 25)) <|
          .call 1 (prA (.pair tRows (.pair .str (.pair tI .bool))) 1 (.vr 30)) <|
          .call 1 (prA (.pair tInts (.pair .str (.pair tI .bool))) 1 (.vr 31)) <|
          .call 1 (prA (.pair tInts (.pair .str (.pair tI .bool))) 1 (.vr 32)) <|
          .call 1 (prA (.pair tInts (.pair .str (.pair tI .bool))) 1 (.vr 33)) <|
          .call 2 (prA (.pair tInts (.pair .str (.pair tI .bool))) 1 (.vr 34)) <|
          .ret (.mk2 tStage (.pair .str (.pair tI .bool)) (mkA tStage [(.vr 3),(pjA (.pair tI (.pair tPlan (.pair .str (.pair tI .bool)))) 1 (.vr 15)),(pjA (.pair tI (.pair tModel (.pair .str (.pair tI .bool)))) 1 (.vr 20)),(.vr 6),(.vr 9),(pjA (.pair tI (.pair (.slice 98 tSaved) (.pair .str (.pair tI .bool)))) 1 (.vr 25)),(.p1 tRows (.pair .str (.pair tI .bool)) (.vr 30)),(.p1 tInts (.pair .str (.pair tI .bool)) (.vr 31)),(.p1 tInts (.pair .str (.pair tI .bool)) (.vr 32)),(.p1 tInts (.pair .str (.pair tI .bool)) (.vr 33)),(.p1 tInts (.pair .str (.pair tI .bool)) (.vr 34)),(.p1 tRows (.pair .str (.pair tI .bool)) (.vr 35)),(.vr 11),(.vr 14)]) (prA (.pair tRows (.pair .str (.pair tI .bool))) 1 (.vr 35))))) (
         .call 2 (prA (.pair tI (.pair (.slice 98 tSaved) (.pair .str (.pair tI .bool)))) 2 (.vr 25)) <|
         .call 1 (prA (.pair tRows (.pair .str (.pair tI .bool))) 1 (.vr 29)) <|
         .call 1 (prA (.pair tInts (.pair .str (.pair tI .bool))) 1 (.vr 30)) <|
         .call 1 (prA (.pair tInts (.pair .str (.pair tI .bool))) 1 (.vr 31)) <|
         .call 1 (prA (.pair tInts (.pair .str (.pair tI .bool))) 1 (.vr 32)) <|
         .call 2 (prA (.pair tInts (.pair .str (.pair tI .bool))) 1 (.vr 33)) <|
         .ret (.mk2 tStage (.pair .str (.pair tI .bool)) (mkA tStage [(.vr 3),(pjA (.pair tI (.pair tPlan (.pair .str (.pair tI .bool)))) 1 (.vr 15)),(pjA (.pair tI (.pair tModel (.pair .str (.pair tI .bool)))) 1 (.vr 20)),(.vr 6),(.vr 9),(pjA (.pair tI (.pair (.slice 98 tSaved) (.pair .str (.pair tI .bool)))) 1 (.vr 25)),(.p1 tRows (.pair .str (.pair tI .bool)) (.vr 29)),(.p1 tInts (.pair .str (.pair tI .bool)) (.vr 30)),(.p1 tInts (.pair .str (.pair tI .bool)) (.vr 31)),(.p1 tInts (.pair .str (.pair tI .bool)) (.vr 32)),(.p1 tInts (.pair .str (.pair tI .bool)) (.vr 33)),(.p1 tRows (.pair .str (.pair tI .bool)) (.vr 34)),(.vr 11),(.vr 14)]) (prA (.pair tRows (.pair .str (.pair tI .bool))) 1 (.vr 34)))))) (
      .loop (.pair tI (.pair (.slice 98 tSaved) (.pair .str (.pair tI .bool)))) (mkA (.pair tI (.pair (.slice 98 tSaved) (.pair .str (.pair tI .bool)))) [(.ci .i64 0),(.nl 98 tSaved),(prA (.pair tI (.pair tModel (.pair .str (.pair tI .bool)))) 2 (.vr 20))]) <|
       .prim (.lidx 3 tI) (.mk2 tInts tI (.p1 tInts (.pair .str (.pair tI .bool)) (.vr 1)) (.ci .i64 7)) <|
       .prim (.lidx 3 tI) (.mk2 tInts tI (.p1 tInts (.pair .str (.pair tI .bool)) (.vr 1)) (.ci .i64 7)) <|
       .prim (.cmp .lss .i64) (.mk2 tI tI (.p1 tI (.pair (.slice 98 tSaved) (.pair .str (.pair tI .bool))) (.vr 24)) (.vr 26)) <|
       .ite (.vr 27) (
        .prim .not (prA (.pair tI (.pair (.slice 98 tSaved) (.pair .str (.pair tI .bool)))) 4 (.vr 24)) <|
        .ite (.vr 28) (
         .call 0 (.mk2 (.pair .str (.pair tI .bool)) tI (prA (.pair tI (.pair (.slice 98 tSaved) (.pair .str (.pair tI .bool)))) 2 (.vr 24)) (.ci .i64 1)) <|
         .call 2 (prA (.pair tInts (.pair .str (.pair tI .bool))) 1 (.vr 29)) <|
         .prim (.lidx 3 tI) (.mk2 tInts tI (.p1 tInts (.pair .str (.pair tI .bool)) (.vr 29)) (.ci .i64 0)) <|
         .prim (.lidx 3 tI) (.mk2 tInts tI (.p1 tInts (.pair .str (.pair tI .bool)) (.vr 29)) (.ci .i64 0)) <|
         .prim (.lit 98 tSaved 1) (.mk2 tI tRows (.vr 32) (.p1 tRows (.pair .str (.pair tI .bool)) (.vr 30))) <|
         .prim (.lapp 98 tSaved 32) (.mk2 (.slice 98 tSaved) (.slice 98 tSaved) (pjA (.pair tI (.pair (.slice 98 tSaved) (.pair .str (.pair tI .bool)))) 1 (.vr 24)) (.vr 33)) <|
         .prim (.ar .add .i64) (.mk2 tI tI (.p1 tI (.pair (.slice 98 tSaved) (.pair .str (.pair tI .bool))) (.vr 24)) (.ci .i64 1)) <|
         .again 0 (mkA (.pair tI (.pair (.slice 98 tSaved) (.pair .str (.pair tI .bool)))) [(.vr 35),(.vr 34),(prA (.pair tRows (.pair .str (.pair tI .bool))) 1 (.vr 30))])) (
         .call 2 (prA (.pair tI (.pair (.slice 98 tSaved) (.pair .str (.pair tI .bool)))) 2 (.vr 24)) <|
         .call 1 (prA (.pair tRows (.pair .str (.pair tI .bool))) 1 (.vr 29)) <|
         .call 1 (prA (.pair tInts (.pair .str (.pair tI .bool))) 1 (.vr 30)) <|
         .call 1 (prA (.pair tInts (.pair .str (.pair tI .bool))) 1 (.vr 31)) <|
         .call 1 (prA (.pair tInts (.pair .str (.pair tI .bool))) 1 (.vr 32)) <|
         .call 2 (prA (.pair tInts (.pair .str (.pair tI .bool))) 1 (.vr 33)) <|
         .ret (.mk2 tStage (.pair .str (.pair tI .bool)) (mkA tStage [(.vr 3),(pjA (.pair tI (.pair tPlan (.pair .str (.pair tI .bool)))) 1 (.vr 15)),(pjA (.pair tI (.pair tModel (.pair .str (.pair tI .bool)))) 1 (.vr 20)),(.vr 6),(.vr 9),(pjA (.pair tI (.pair (.slice 98 tSaved) (.pair .str (.pair tI .bool)))) 1 (.vr 24)),(.p1 tRows (.pair .str (.pair tI .bool)) (.vr 29)),(.p1 tInts (.pair .str (.pair tI .bool)) (.vr 30)),(.p1 tInts (.pair .str (.pair tI .bool)) (.vr 31)),(.p1 tInts (.pair .str (.pair tI .bool)) (.vr 32)),(.p1 tInts (.pair .str (.pair tI .bool)) (.vr 33)),(.p1 tRows (.pair .str (.pair tI .bool)) (.vr 34)),(.vr 11),(.vr 14)]) (prA (.pair tRows (.pair .str (.pair tI .bool))) 1 (.vr 34))))) (
        .call 2 (prA (.pair tI (.pair (.slice 98 tSaved) (.pair .str (.pair tI .bool)))) 2 (.vr 24)) <|
        .call 1 (prA (.pair tRows (.pair .str (.pair tI .bool))) 1 (.vr 28)) <|
        .call 1 (prA (.pair tInts (.pair .str (.pair tI .bool))) 1 (.vr 29)) <|
        .call 1 (prA (.pair tInts (.pair .str (.pair tI .bool))) 1 (.vr 30)) <|
        .call 1 (prA (.pair tInts (.pair .str (.pair tI .bool))) 1 (.vr 31)) <|
        .call 2 (prA (.pair tInts (.pair .str (.pair tI .bool))) 1 (.vr 32)) <|
        .ret (.mk2 tStage (.pair .str (.pair tI .bool)) (mkA tStage [(.vr 3),(pjA (.pair tI (.pair tPlan (.pair .str (.pair tI .bool)))) 1 (.vr 15)),(pjA (.pair tI (.pair tModel (.pair .str (.pair tI .bool)))) 1 (.vr 20)),(.vr 6),(.vr 9),(pjA (.pair tI (.pair (.slice 98 tSaved) (.pair .str (.pair tI .bool)))) 1 (.vr 24)),(.p1 tRows (.pair .str (.pair tI .bool)) (.vr 28)),(.p1 tInts (.pair .str (.pair tI .bool)) (.vr 29)),(.p1 tInts (.pair .str (.pair tI .bool)) (.vr 30)),(.p1 tInts (.pair .str (.pair tI .bool)) (.vr 31)),(.p1 tInts (.pair .str (.pair tI .bool)) (.vr 32)),(.p1 tRows (.pair .str (.pair tI .bool)) (.vr 33)),(.vr 11),(.vr 14)]) (prA (.pair tRows (.pair .str (.pair tI .bool))) 1 (.vr 33))))))) (
   .loop (.pair tI (.pair tModel (.pair .str (.pair tI .bool)))) (mkA (.pair tI (.pair tModel (.pair .str (.pair tI .bool)))) [(.ci .i64 0),(.nl 96 tOp),(prA (.pair tI (.pair tPlan (.pair .str (.pair tI .bool)))) 2 (.vr 15))]) <|
    .prim (.lidx 3 tI) (.mk2 tInts tI (.p1 tInts (.pair .str (.pair tI .bool)) (.vr 1)) (.ci .i64 6)) <|
    .prim (.lidx 3 tI) (.mk2 tInts tI (.p1 tInts (.pair .str (.pair tI .bool)) (.vr 1)) (.ci .i64 6)) <|
    .prim (.cmp .lss .i64) (.mk2 tI tI (.p1 tI (.pair tModel (.pair .str (.pair tI .bool))) (.vr 19)) (.vr 21)) <|
    .ite (.vr 22) (
     .prim .not (prA (.pair tI (.pair tModel (.pair .str (.pair tI .bool)))) 4 (.vr 19)) <|
     .ite (.vr 23) (
      .call 0 (.mk2 (.pair .str (.pair tI .bool)) tI (prA (.pair tI (.pair tModel (.pair .str (.pair tI .bool)))) 2 (.vr 19)) (.ci .i64 3)) <|
      .call 1 (prA (.pair tInts (.pair .str (.pair tI .bool))) 1 (.vr 24)) <|
      .prim (.lidx 3 tI) (.mk2 tInts tI (.p1 tInts (.pair .str (.pair tI .bool)) (.vr 24)) (.ci .i64 0)) <|
      .prim (.lidx 3 tI) (.mk2 tInts tI (.p1 tInts (.pair .str (.pair tI .bool)) (.vr 24)) (.ci .i64 0)) <|
      .prim (.lidx 3 tI) (.mk2 tInts tI (.p1 tInts (.pair .str (.pair tI .bool)) (.vr 24)) (.ci .i64 1)) <|
      .prim (.lidx 3 tI) (.mk2 tInts tI (.p1 tInts (.pair .str (.pair tI .bool)) (.vr 24)) (.ci .i64 1)) <|
      .prim (.lidx 3 tI) (.mk2 tInts tI (.p1 tInts (.pair .str (.pair tI .bool)) (.vr 24)) (.ci .i64 2)) <|
      .prim (.lidx 3 tI) (.mk2 tInts tI (.p1 tInts (.pair .str (.pair tI .bool)) (.vr 24)) (.ci .i64 2)) <|
      .prim (.lit 96 tOp 1) (mkA tOp [(.vr 27),(.vr 29),(.vr 31),(.p1 tInts (.pair .str (.pair tI .bool)) (.vr 25))]) <|
      .prim (.lapp 96 tOp 48) (.mk2 tModel tModel (pjA (.pair tI (.pair tModel (.pair .str (.pair tI .bool)))) 1 (.vr 19)) (.vr 32)) <|
      .prim (.ar .add .i64) (.mk2 tI tI (.p1 tI (.pair tModel (.pair .str (.pair tI .bool))) (.vr 19)) (.ci .i64 1)) <|
      .again 0 (mkA (.pair tI (.pair tModel (.pair .str (.pair tI .bool)))) [(.vr 34),(.vr 33),(prA (.pair tInts (.pair .str (.pair tI .bool))) 1 (.vr 25))])) (
      .loop (.pair tI (.pair (.slice 98 tSaved) (.pair .str (.pair tI .bool)))) (mkA (.pair tI (.pair (.slice 98 tSaved) (.pair .str (.pair tI .bool)))) [(.ci .i64 0),(.nl 98 tSaved),(prA (.pair tI (.pair tModel (.pair .str (.pair tI .bool)))) 2 (.vr 19))]) <|
       .prim (.lidx 3 tI) (.mk2 tInts tI (.p1 tInts (.pair .str (.pair tI .bool)) (.vr 1)) (.ci .i64 7)) <|
       .prim (.lidx 3 tI) (.mk2 tInts tI (.p1 tInts (.pair .str (.pair tI .bool)) (.vr 1)) (.ci .i64 7)) <|
       .prim (.cmp .lss .i64) (.mk2 tI tI (.p1 tI (.pair (.slice 98 tSaved) (.pair .str (.pair tI .bool))) (.vr 24)) (.vr 26)) <|
       .ite (.vr 27) (
        .prim .not (prA (.pair tI (.pair (.slice 98 tSaved) (.pair .str (.pair tI .bool)))) 4 (.vr 24)) <|
        .ite (.vr 28) (
         .call 0 (.mk2 (.pair .str (.pair tI .bool)) tI (prA (.pair tI (.pair (.slice 98 tSaved) (.pair .str (.pair tI .bool)))) 2 (.vr 24)) (.ci .i64 1)) <|
         .call 2 (prA (.pair tInts (.pair .str (.pair tI .bool))) 1 (.vr 29)) <|
         .prim (.lidx 3 tI) (.mk2 tInts tI (.p1 tInts (.pair .str (.pair tI .bool)) (.vr 29)) (.ci .i64 0)) <|
         .prim (.lidx 3 tI) (.mk2 tInts tI (.p1 tInts (.pair .str (.pair tI .bool)) (.vr 29)) (.ci .i64 0)) <|
         .prim (.lit 98 tSaved 1) (.mk2 tI tRows (.vr 32) (.p1 tRows (.pair .str (.pair tI .bool)) (.vr 30))) <|
         .prim (.lapp 98 tSaved 32) (.mk2 (.slice 98 tSaved) (.slice 98 tSaved) (pjA (.pair tI (.pair (.slice 98 tSaved) (.pair .str (.pair tI .bool)))) 1 (.vr 24)) (.vr 33)) <|
         .prim (.ar .add .i64) (.mk2 tI tI (.p1 tI (.pair (.slice 98 tSaved) (.pair .str (.pair tI .bool))) (.vr 24)) (.ci .i64 1)) <|
         .again 0 (mkA (.pair tI (.pair (.slice 98 tSaved) (.pair .str (.pair tI .bool)))) [(.vr 35),(.vr 34),(prA (.pair tRows (.pair .str (.pair tI .bool))) 1 (.vr 30))])) (
         .call 2 (prA (.pair tI (.pair (.slice 98 tSaved) (.pair .str (.pair tI .bool)))) 2 (.vr 24)) <|
         .call 1 (prA (.pair tRows (.pair .str (.pair tI .bool))) 1 (.vr 29)) <|
         .call 1 (prA (.pair tInts (.pair .str (.pair tI .bool))) 1 (.vr 30)) <|
         .call 1 (prA (.pair tInts (.pair .str (.pair tI .bool))) 1 (.vr 31)) <|
         .call 1 (prA (.pair tInts (.pair .str (.pair tI .bool))) 1 (.vr 32)) <|
         .call 2 (prA (.pair tInts (.pair .str (.pair tI .bool))) 1 (.vr 33)) <|
         .ret (.mk2 tStage (.pair .str (.pair tI .bool)) (mkA tStage [(.vr 3),(pjA (.pair tI (.pair tPlan (.pair .str (.pair tI .bool)))) 1 (.vr 15)),(pjA (.pair tI (.pair tModel (.pair .str (.pair tI .bool)))) 1 (.vr 19)),(.vr 6),(.vr 9),(pjA (.pair tI (.pair (.slice 98 tSaved) (.pair .str (.pair tI .bool)))) 1 (.vr 24)),(.p1 tRows (.pair .str (.pair tI .bool)) (.vr 29)),(.p1 tInts (.pair .str (.pair tI .bool)) (.vr 30)),(.p1 tInts (.pair .str (.pair tI .bool)) (.vr 31)),(.p1 tInts (.pair .str (.pair tI .bool)) (.vr 32)),(.p1 tInts (.pair .str (.pair tI .bool)) (.vr 33)),(.p1 tRows (.pair .str (.pair tI .bool)) (.vr 34)),(.vr 11),(.vr 14)]) (prA (.pair tRows (.pair .str (.pair tI .bool))) 1 (.vr 34))))) (
        .call 2 (prA (.pair tI (.pair (.slice 98 tSaved) (.pair .str (.pair tI .bool)))) 2 (.vr 24)) <|
        .call 1 (prA (.pair tRows (.pair .str (.pair tI .bool))) 1 (.vr 28)) <|
        .call 1 (prA (.pair tInts (.pair .str (.pair tI .bool))) 1 (.vr 29)) <|
        .call 1 (prA (.pair tInts (.pair .str (.pair tI .bool))) 1 (.vr 30)) <|
        .call 1 (prA (.pair tInts (.pair .str (.pair tI .bool))) 1 (.vr 31)) <|
        .call 2 (prA (.pair tInts (.pair .str (.pair tI .bool))) 1 (.vr 32)) <|
        .ret (.mk2 tStage (.pair .str (.pair tI .bool)) (mkA tStage [(.vr 3),(pjA (.pair tI (.pair tPlan (.pair .str (.pair tI .bool)))) 1 (.vr 15)),(pjA (.pair tI (.pair tModel (.pair .str (.pair tI .bool)))) 1 (.vr 19)),(.vr 6),(.vr 9),(pjA (.pair tI (.pair (.slice 98 tSaved) (.pair .str (.pair tI .bool)))) 1 (.vr 24)),(.p1 tRows (.pair .str (.pair tI .bool)) (.vr 28)),(.p1 tInts (.pair .str (.pair tI .bool)) (.vr 29)),(.p1 tInts (.pair .str (.pair tI .bool)) (.vr 30)),(.p1 tInts (.pair .str (.pair tI .bool)) (.vr 31)),(.p1 tInts (.pair .str (.pair tI .bool)) (.vr 32)),(.p1 tRows (.pair .str (.pair tI .bool)) (.vr 33)),(.vr 11),(.vr 14)]) (prA (.pair tRows (.pair .str (.pair tI .bool))) 1 (.vr 33)))))) (
     .loop (.pair tI (.pair (.slice 98 tSaved) (.pair .str (.pair tI .bool)))) (mkA (.pair tI (.pair (.slice 98 tSaved) (.pair .str (.pair tI .bool)))) [(.ci .i64 0),(.nl 98 tSaved),(prA (.pair tI (.pair tModel (.pair .str (.pair tI .bool)))) 2 (.vr 19))]) <|
      .prim (.lidx 3 tI) (.mk2 tInts tI (.p1 tInts (.pair .str (.pair tI .bool)) (.vr 1)) (.ci .i64 7)) <|
      .prim (.lidx 3 tI) (.mk2 tInts tI (.p1 tInts (.pair .str (.pair tI .bool)) (.vr 1)) (.ci .i64 7)) <|
      .prim (.cmp .lss .i64) (.mk2 tI tI (.p1 tI (.pair (.slice 98 tSaved) (.pair .str (.pair tI .bool))) (.vr 23)) (.vr 25)) <|
      .ite (.vr 26) (
       .prim .not (prA (.pair tI (.pair (.slice 98 tSaved) (.pair .str (.pair tI .bool)))) 4 (.vr 23)) <|
       .ite (.vr 27) (
        .call 0 (.mk2 (.pair .str (.pair tI .bool)) tI (prA (.pair tI (.pair (.slice 98 tSaved) (.pair .str (.pair tI .bool)))) 2 (.vr 23)) (.ci .i64 1)) <|
        .call 2 (prA (.pair tInts (.pair .str (.pair tI .bool))) 1 (.vr 28)) <|
        .prim (.lidx 3 tI) (.mk2 tInts tI (.p1 tInts (.pair .str (.pair tI .bool)) (.vr 28)) (.ci .i64 0)) <|
        .prim (.lidx 3 tI) (.mk2 tInts tI (.p1 tInts (.pair .str (.pair tI .bool)) (.vr 28)) (.ci .i64 0)) <|
        .prim (.lit 98 tSaved 1) (.mk2 tI tRows (.vr 31) (.p1 tRows (.pair .str (.pair tI .bool)) (.vr 29))) <|
        .prim (.lapp 98 tSaved 32) (.mk2 (.slice 98 tSaved) (.slice 98 tSaved) (pjA (.pair tI (.pair (.slice 98 tSaved) (.pair .str (.pair tI .bool)))) 1 (.vr 23)) (.vr 32)) <|
        .prim (.ar .add .i64) (.mk2 tI tI (.p1 tI (.pair (.slice 98 tSaved) (.pair .str (.pair tI .bool))) (.vr 23)) (.ci .i64 1)) <|
        .again 0 (mkA (.pair tI (.pair (.slice 98 tSaved) (.pair .str (.pair tI .bool)))) [(.vr 34),(.vr 33),(prA (.pair tRows (.pair .str (.pair tI .bool))) 1 (.vr 29))])) (
        .call 2 (prA (.pair tI (.pair (.slice 98 tSaved) (.pair .str (.pair tI .bool)))) 2 (.vr 23)) <|
        .call 1 (prA (.pair tRows (.pair .str (.pair tI .bool))) 1 (.vr 28)) <|
        .call 1 (prA (.pair tInts (.pair .str (.pair tI .bool))) 1 (.vr 29)) <|
        .call 1 (prA (.pair tInts (.pair .str (.pair tI .bool))) 1 (.vr 30)) <|
        .call 1 (prA (.pair tInts (.pair .str (.pair tI .bool))) 1 (.vr 31)) <|
        .call 2 (prA (.pair tInts (.pair .str (.pair tI .bool))) 1 (.vr 32)) <|
        .ret (.mk2 tStage (.pair .str (.pair tI .bool)) (mkA tStage [(.vr 3),(pjA (.pair tI (.pair tPlan (.pair .str (.pair tI .bool)))) 1 (.vr 15)),(pjA (.pair tI (.pair tModel (.pair .str (.pair tI .bool)))) 1 (.vr 19)),(.vr 6),(.vr 9),(pjA (.pair tI (.pair (.slice 98 tSaved) (.pair .str (.pair tI .bool)))) 1 (.vr 23)),(.p1 tRows (.pair .str (.pair tI .bool)) (.vr 28)),(.p1 tInts (.pair .str (.pair tI .bool)) (.vr 29)),(.p1 tInts (.pair .str (.pair tI .bool)) (.vr 30)),(.p1 tInts (.pair .str (.pair tI .bool)) (.vr 31)),(.p1 tInts (.pair .str (.pair tI .bool)) (.vr 32)),(.p1 tRows (.pair .str (.pair tI .bool)) (.vr 33)),(.vr 11),(.vr 14)]) (prA (.pair tRows (.pair .str (.pair tI .bool))) 1 (.vr 33))))) (
       .call 2 (prA (.pair tI (.pair (.slice 98 tSaved) (.pair .str (.pair tI .bool)))) 2 (.vr 23)) <|
       .call 1 (prA (.pair tRows (.pair .str (.pair tI .bool))) 1 (.vr 27)) <|
       .call 1 (prA (.pair tInts (.pair .str (.pair tI .bool))) 1 (.vr 28)) <|
       .call 1 (prA (.pair tInts (.pair .str (.pair tI .bool))) 1 (.vr 29)) <|
       .call 1 (prA (.pair tInts (.pair .str (.pair tI .bool))) 1 (.vr 30)) <|
       .call 2 (prA (.pair tInts (.pair .str (.pair tI .bool))) 1 (.vr 31)) <|
       .ret (.mk2 tStage (.pair .str (.pair tI .bool)) (mkA tStage [(.vr 3),(pjA (.pair tI (.pair tPlan (.pair .str (.pair tI .bool)))) 1 (.vr 15)),(pjA (.pair tI (.pair tModel (.pair .str (.pair tI .bool)))) 1 (.vr 19)),(.vr 6),(.vr 9),(pjA (.pair tI (.pair (.slice 98 tSaved) (.pair .str (.pair tI .bool)))) 1 (.vr 23)),(.p1 tRows (.pair .str (.pair tI .bool)) (.vr 27)),(.p1 tInts (.pair .str (.pair tI .bool)) (.vr 28)),(.p1 tInts (.pair .str (.pair tI .bool)) (.vr 29)),(.p1 tInts (.pair .str (.pair tI .bool)) (.vr 30)),(.p1 tInts (.pair .str (.pair tI .bool)) (.vr 31)),(.p1 tRows (.pair .str (.pair tI .bool)) (.vr 32)),(.vr 11),(.vr 14)]) (prA (.pair tRows (.pair .str (.pair tI .bool))) 1 (.vr 32))))))
set_option maxRecDepth 100000 in
theorem e_i_reader_stage:exFn Tryz.prog [c_i_reader_some,c_i_reader_vec,c_i_reader_rows] c_i_reader_stage false 3000 ⟨[(2985,1015,drd 37 23 ++ drd 21 19 ++ [.dr 17,.dr 16,.dr 22,.dr 18] ++ drd 15 13 ++ [.tm 5 0,.sl 23,.bx 1 0,.bx 1 1,.bx 1 2]),(2975,5020,drd 49 38 ++ [.dr 5,.tm 7 0,.sl 24,.bx 1 0,.bx 1 1,.bx 1 2]),(2965,21025,drd 77 66 ++ [.dr 7,.tm 10 0,.sl 25,.bx 1 0,.bx 1 1,.bx 1 2]),(2965,9024,drd 77 66 ++ [.dr 7,.tm 10 0,.sl 25,.bx 1 0,.bx 1 1,.bx 1 2]),(2975,2019,drd 49 38 ++ [.dr 5,.tm 7 0,.sl 24,.bx 1 0,.bx 1 1,.bx 1 2]),(2965,10024,drd 77 66 ++ [.dr 7,.tm 10 0,.sl 25,.bx 1 0,.bx 1 1,.bx 1 2]),(2965,4023,drd 77 66 ++ [.dr 7,.tm 10 0,.sl 25,.bx 1 0,.bx 1 1,.bx 1 2])],[(2963,29027,[],[33]),(2953,117032,[],[33]),(2953,57031,[],[33]),(2963,14026,[],[33]),(2953,58031,[],[33]),(2953,28030,[],[33])]⟩ = .ok t_i_reader_stage:=by kernel_rfl
set_option maxHeartbeats 4000000 in
theorem v_i_reader_stage (x:(ByteArray) × (Int × Bool)) (hx:okD (.pair .str (.pair tI .bool)) x) (hp:(fun x=>RdP x) x):t_i_reader_stage.wp [c_i_reader_some,c_i_reader_vec,c_i_reader_rows] [⟨(.pair .str (.pair tI .bool)),x⟩] [] (fun v=>v.as (.pair tStage (.pair .str (.pair tI .bool))) = (fun x=>stageR x) x):=by
 have hp:RdP x:=hp
 delta t_i_reader_stage c_i_reader_some c_i_reader_vec c_i_reader_rows;refine vcx ?_;try with_reducible exact True.intro
 have h8:=someR_len (r:=x) (show 0≤(8:Int) by decide)
 have hP:=someR_P 8 hp
 have n5:=someR_in (r:=x) (n:=8) (i:=5)
 have n6:=someR_in (r:=x) (n:=8) (i:=6)
 have n7:=someR_in (r:=x) (n:=8) (i:=7)
 have hv0:stageR x = K1 (someR x 8).1 [] (loopR insF ((someR x 8).1.getD 5 0).toNat (someR x 8).2):=rfl
 simp only [Int.toNat_natCast,Bool.not_eq_true',Bool.not_eq_false',Bool.and_eq_true,Bool.and_eq_false_iff,decide_eq_true_eq,decide_eq_false_iff_not,Int.not_lt,Int.not_le,ge_iff_le,gt_iff_lt,List.length_cons,List.length_nil,List.length_append,Nat.zero_add,List.nil_append,beq_iff_eq,beq_eq_false_iff_ne,bne_iff_ne,bne_eq_false_iff_eq,ne_eq,toNat_pred,toNat_succ,toNat_l0,toNat_l1,Int.reduceToNat]
 generalize (someR x 8).1 = H at *
 generalize (someR x 8).2 = r0 at *
 (repeat' first | intro _ | (with_reducible apply And.intro))
 all_goals first | omega | exact hp | skip
 have z5:H.getD 5 (zeroD tI) = H.getD 5 0:=rfl
 have z6:H.getD 6 (zeroD tI) = H.getD 6 0:=rfl
 have z7:H.getD 7 (zeroD tI) = H.getD 7 0:=rfl
 rw [z5,z6,z7]
 refine ⟨fun t=>∃ k:Nat,t.1 = (k:Int)∧(t.2.1:List InsD).length = k∧(k:Int)≤max 0 (H.getD 5 0)∧RdP t.2.2∧stageR x = K1 H t.2.1 (loopR insF ((H.getD 5 0).toNat - k) t.2.2),fun t=>(H.getD 5 0 - (t.1:Int)).toNat,⟨0,rfl,rfl,by omega,hP.1,hv0⟩,fun t _ hI=>?_⟩
 obtain ⟨i,a1,r1⟩:Int × (List InsD × RdD):=t
 obtain ⟨k1,rfl,hl,hk,hPr1,hvr1⟩:=hI
 dsimp only at hl hk hPr1 hvr1 ⊢
 refine ⟨by omega,fun _=>⟨by omega,fun _=>⟨fun hlt=>⟨fun hb=>?_,fun hb=>?_⟩,fun hge=>?_⟩⟩⟩
 ·obtain ⟨m,hm⟩:∃ m,(H.getD 5 0).toNat - k1 = m + 1:=⟨(H.getD 5 0).toNat - k1 - 1,by omega⟩
  rw [hm,loopR_go insF m hb] at hvr1
  have hs1:=someR_len (r:=r1) (show 0≤(2:Int) by decide)
  have hp1:=someR_P 2 hPr1
  (repeat' first | intro _ | (with_reducible apply And.intro))
  all_goals first | omega | exact hPr1 | exact hp1.1 | (unfold maxLen;omega) | skip
  refine ⟨k1 + 1,rfl,by (first | omega | (simp only [List.length_append,List.length_cons,List.length_nil];omega)),by omega,(insF_P hPr1).1,?_⟩
  rw [show (H.getD 5 0).toNat - (k1 + 1) = m by omega,hvr1]
  show K1 H a1 ((insF r1).1 :: _,_) = K1 H (a1 ++ [(insF r1).1]) _
  unfold K1;simp only [List.append_assoc,List.singleton_append];rfl
 all_goals
  have hwr1:stageR x = K2 H a1 [] (loopR opF (H.getD 6 0).toNat r1):=by
   first | rw [loopR_bad insF _ hb] at hvr1 | rw [show (H.getD 5 0).toNat - k1 = 0 by omega] at hvr1
   rw [hvr1];unfold K1;simp only [List.append_nil,loopR]
  clear hvr1
  refine ⟨fun t=>∃ k:Nat,t.1 = (k:Int)∧(t.2.1:List OpD).length = k∧(k:Int)≤max 0 (H.getD 6 0)∧RdP t.2.2∧stageR x = K2 H a1 t.2.1 (loopR opF ((H.getD 6 0).toNat - k) t.2.2),fun t=>(H.getD 6 0 - (t.1:Int)).toNat,⟨0,rfl,rfl,by omega,hPr1,hwr1⟩,fun t _ hI=>?_⟩
  obtain ⟨i,a2,r2⟩:Int × (List OpD × RdD):=t
  obtain ⟨k2,rfl,hl,hk,hPr2,hvr2⟩:=hI
  dsimp only at hl hk hPr2 hvr2 ⊢
  refine ⟨by omega,fun _=>⟨by omega,fun _=>⟨fun hlt=>⟨fun hb=>?_,fun hb=>?_⟩,fun hge=>?_⟩⟩⟩
  ·obtain ⟨m,hm⟩:∃ m,(H.getD 6 0).toNat - k2 = m + 1:=⟨(H.getD 6 0).toNat - k2 - 1,by omega⟩
   rw [hm,loopR_go opF m hb] at hvr2
   have hs1:=someR_len (r:=r2) (show 0≤(3:Int) by decide)
   have hp1:=someR_P 3 hPr2
   (repeat' first | intro _ | (with_reducible apply And.intro))
   all_goals first | omega | exact hPr2 | exact hp1.1 | (unfold maxLen;omega) | skip
   refine ⟨k2 + 1,rfl,by (first | omega | (simp only [List.length_append,List.length_cons,List.length_nil];omega)),by omega,(opF_P hPr2).1,?_⟩
   rw [show (H.getD 6 0).toNat - (k2 + 1) = m by omega,hvr2]
   show K2 H a1 a2 ((opF r2).1 :: _,_) = K2 H a1 (a2 ++ [(opF r2).1]) _
   unfold K2;simp only [List.append_assoc,List.singleton_append];rfl
  all_goals
   have hwr2:stageR x = K3 H a1 a2 [] (loopR savF (H.getD 7 0).toNat r2):=by
    first | rw [loopR_bad opF _ hb] at hvr2 | rw [show (H.getD 6 0).toNat - k2 = 0 by omega] at hvr2
    rw [hvr2];unfold K2;simp only [List.append_nil,loopR]
   clear hvr2
   refine ⟨fun t=>∃ k:Nat,t.1 = (k:Int)∧(t.2.1:List SavedD).length = k∧(k:Int)≤max 0 (H.getD 7 0)∧RdP t.2.2∧stageR x = K3 H a1 a2 t.2.1 (loopR savF ((H.getD 7 0).toNat - k) t.2.2),fun t=>(H.getD 7 0 - (t.1:Int)).toNat,⟨0,rfl,rfl,by omega,hPr2,hwr2⟩,fun t _ hI=>?_⟩
   obtain ⟨i,a3,r3⟩:Int × (List SavedD × RdD):=t
   obtain ⟨k3,rfl,hl,hk,hPr3,hvr3⟩:=hI
   dsimp only at hl hk hPr3 hvr3 ⊢
   refine ⟨by omega,fun _=>⟨by omega,fun _=>⟨fun hlt=>⟨fun hb=>?_,fun hb=>?_⟩,fun hge=>?_⟩⟩⟩
   ·obtain ⟨m,hm⟩:∃ m,(H.getD 7 0).toNat - k3 = m + 1:=⟨(H.getD 7 0).toNat - k3 - 1,by omega⟩
    rw [hm,loopR_go savF m hb] at hvr3
    have hs1:=someR_len (r:=r3) (show 0≤(1:Int) by decide)
    have hp1:=someR_P 1 hPr3
    (repeat' first | intro _ | (with_reducible apply And.intro))
    all_goals first | omega | exact hPr3 | exact hp1.1 | (unfold maxLen;omega) | skip
    refine ⟨k3 + 1,rfl,by (first | omega | (simp only [List.length_append,List.length_cons,List.length_nil];omega)),by omega,(savF_P hPr3).1,?_⟩
    rw [show (H.getD 7 0).toNat - (k3 + 1) = m by omega,hvr3]
    show K3 H a1 a2 a3 ((savF r3).1 :: _,_) = K3 H a1 a2 (a3 ++ [(savF r3).1]) _
    unfold K3;simp only [List.append_assoc,List.singleton_append];rfl
   all_goals
    have hwr3:stageR x = finR H a1 a2 a3 r3:=by
     first | rw [loopR_bad savF _ hb] at hvr3 | rw [show (H.getD 7 0).toNat - k3 = 0 by omega] at hvr3
     rw [hvr3];unfold K3;simp only [List.append_nil,loopR]
    clear hvr3
    have p1:=rowsR_P hPr3
    have p2:=vecR_P p1.1
    have p3:=vecR_P p2.1
    have p4:=vecR_P p3.1
    have p5:=vecR_P p4.1
    (repeat' first | intro _ | (with_reducible apply And.intro))
    all_goals first | exact hPr3 | exact p1.1 | exact p2.1 | exact p3.1 | exact p4.1 | exact p5.1 | (rw [hwr3];rfl)
set_option maxHeartbeats 4000000 in
theorem h_i_reader_stage:Con.Holds Tryz.prog c_i_reader_stage:=tree_ok mixedP (consAt h_i_reader_some (consAt h_i_reader_vec (consAt h_i_reader_rows consNil))) e_i_reader_stage fun x hx hp=>v_i_reader_stage x hx hp
end Go.Proofs.YtepjkojfjdcegaaGreat
