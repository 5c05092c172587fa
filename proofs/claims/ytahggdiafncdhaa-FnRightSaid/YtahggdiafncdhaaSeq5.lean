/- Seq5: trees, and what they say. -/
import Derived.Test.YtahggdiafncdhaaSeq4
namespace Go.Proofs.Ytahggdiafncdhaa
open Go.ChangeShapes Go.WideShapes Go.ChangeAt Go.RowKit Go.Deep
set_option linter.unusedVariables false
set_option linter.unusedSimpArgs false
theorem outer_len (d x:List Int):(outer d x).1.2.2.length≤36:=by
 unfold outer
 split
 ·rename_i h
  have h1:=(vecB_iff d).1 h.1
  have h2:=(vecB_iff x).1 h.2
  show (catK (outRow d x) d.length).length≤36
  rw[catK_len (f:=outRow d x) (L:=x.length) (fun i=>mp_len _ _)]
  exact Nat.le_trans (Nat.mul_le_mul h1.2.1 h2.2.1) (by decide)
 ·exact Nat.zero_le _
theorem opBwd_len (o:OpD) (x d:List Int):(opBwd o x d).2.1.length≤36:=by
 unfold opBwd
 split
 ·exact Nat.zero_le _
 ·rename_i h
  rw[Classical.not_not] at h
  have hd:=(vecB_iff _).1 ((vecN_iff _ _).1 h.2.2).1
  split
  ·exact outer_len d x
  ·split
   ·show d.length≤36;omega
   ·split
    ·exact (by decide:1≤36)
    ·split
     ·exact outer_len d x
     ·exact Nat.zero_le _
theorem backK_rows (m:List OpD) (r:RowsD) (d:List Int) (n:Nat):(k:Nat)→∀ v∈(backK m r d n k).1,List.length v≤36
 | 0=>fun v hv=>by rw[List.eq_of_mem_replicate hv];exact Nat.zero_le _
 | k+1=>fun v hv=>by
  rcases List.mem_or_eq_of_mem_set hv with h|rfl
  ·exact backK_rows m r d n k v h
  ·exact opBwd_len _ _ _
def GB (g:GradsD):Prop:=g.1.length≤8∧∀ r∈g.1,List.length r≤36
theorem GB.ok {g:GradsD} (h:GB g):GradsB g:=⟨Nat.le_trans h.1 (by decide),fun r hr=>Nat.le_trans (h.2 r hr) (by decide)⟩
theorem micro_GB (m:List OpD) (p:PairD):GB (microF m p):=by
 unfold microF
 split
 ·rename_i h
  have hm:=(modelB_iff m).1 h.1
  exact ⟨by show (backK _ _ _ _ _).1.length≤8;rw[backK_len];omega,backK_rows _ _ _ _ _⟩
 ·exact ⟨Nat.zero_le _,fun r hr=>by cases hr⟩
theorem opB_P {o:OpD} (h:opB o=true):o.2.2.2.length≤36:=by
 have h1:=((opB_iff o).1 h).1
 have h2:opSize o≤36:=by
  unfold opSize
  split
  ·omega
  ·have:=mul_b (a:=o.2.1) (b:=o.2.2.1) (by omega) (by omega) (by omega) (by omega)
   split
   ·omega
   ·split
    ·omega
    ·split <;> omega
 omega
theorem zeroG_GB (m:List OpD):GB (zeroG m):=by
 unfold zeroG
 split
 ·rename_i h
  have hm:=(modelB_iff m).1 h
  refine ⟨by show (zeroRows m).length≤8;rw[zeroRows_len];omega,fun r hr=>?_⟩
  obtain ⟨o,ho,rfl⟩:=List.mem_map.1 (show r∈m.map fun o=>List.replicate o.2.2.2.length 0 from hr)
  obtain ⟨i,hi,rfl⟩:=List.getElem_of_mem ho
  rw[List.length_replicate]
  exact opB_P ((okAt_iff m hi).1 (hm.2.2 i hi)).1
 ·exact ⟨Nat.zero_le _,fun r hr=>by cases hr⟩
theorem zw_rows:(a b:List (List Int))→(∀ r∈a,List.length r≤36)→∀ r∈addRows a b,List.length r≤36
 | [],_,_,r,hr=>by simp[addRows] at hr
 | _ :: _,[],_,r,hr=>by simp[addRows] at hr
 | x :: a,y :: b,h,r,hr=>by
  rcases List.mem_cons.1 (show r∈zipV x y :: addRows a b from hr) with rfl|h'
  ·rw[zipV_len];have:=h x List.mem_cons_self;omega
  ·exact zw_rows a b (fun r hr=>h r (List.mem_cons_of_mem _ hr)) r h'
theorem add_GB {a b:GradsD} (h:GB a):GB (addGrads a b):=⟨by show (addRows a.1 b.1).length≤8;rw[addRows_len];have:=h.1;omega,zw_rows a.1 b.1 h.2⟩
def seqK (m:List OpD) (b:List PairD):Nat→GradsD
 | 0=>zeroG m
 | k+1=>addGrads (seqK m b k) (microF m (b.getD k (zeroD tPair)))
theorem seqK_GB (m:List OpD) (b:List PairD):(k:Nat)→GB (seqK m b k)
 | 0=>zeroG_GB m
 | k+1=>add_GB (seqK_GB m b k)
def seqF (m:List OpD) (b:List PairD):GradsD:=if batchB m b=true then seqK m b b.length else ([],0,false)
theorem modelP_of {m:List OpD} (h:modelB m=true):ModelP m:=by
 have hm:=(modelB_iff m).1 h
 refine ⟨by omega,fun o ho=>?_⟩
 obtain ⟨i,hi,rfl⟩:=List.getElem_of_mem ho
 exact Nat.le_trans (opB_P ((okAt_iff m hi).1 (hm.2.2 i hi)).1) (by decide)
theorem batch_one (m:List OpD) (p:PairD):batchB m [p]=(modelB m&&pairOkB m p):=by
 unfold batchB;simp
theorem or4_tt {a b c d:Bool} (h:a=true):true=(((a || b) || c) || d):=by rw[h];simp
theorem or4_ft {a b c d:Bool} (h:a=false) (h2:b=true):true=(((a || b) || c) || d):=by rw[h,h2];simp
theorem or4_fft {a b c d:Bool} (h:a=false) (h2:b=false) (h3:c=true):true=(((a || b) || c) || d):=by rw[h,h2,h3];simp
theorem or4_fff {a b c d:Bool} (h:a=false) (h2:b=false) (h3:c=false):d=(((a || b) || c) || d):=by rw[h,h2,h3];simp

/-! impl.MicroGrads -/

noncomputable def c_i_MicroGrads:Con:=⟨50,(.pair tModel tPair),tGrads,[.val ⟨true,tModel,[]⟩,.val ⟨true,tPair,[]⟩],[⟨true,tGrads,[1,0,0]⟩],false,none,
 ((fun _=>True):(ModelD × PairD)→Prop),
 ((fun x=>microF x.1 x.2):(ModelD × PairD)→(GradsD))⟩
def t_i_MicroGrads:T:=.call 0 (.vr 0) <|.prim .not (.vr 1) <|.ite (.vr 2) (.ret (mkA tGrads [(.nl 92 tInts),(.ci .i64 0),(.cb false)])) (.call 1 (.mk2 tModel tInts (.p1 tModel tPair (.vr 0)) (pjA (.pair tModel tPair) 1 (.vr 0))) <|.prim (.llen 61 tOp) (.p1 tModel tPair (.vr 0)) <|.prim (.lidx 92 tInts) (.mk2 tRows tI (.p1 tRows .bool (.vr 3)) (.vr 4)) <|.prim (.lidx 92 tInts) (.mk2 tRows tI (.p1 tRows .bool (.vr 3)) (.vr 4)) <|.call 2 (.mk2 tInts tInts (.vr 6) (prA (.pair tModel tPair) 2 (.vr 0))) <|.call 3 (.mk2 tInts tInts (.vr 6) (prA (.pair tModel tPair) 2 (.vr 0))) <|.call 4 (mkA (.pair tModel (.pair tRows tInts)) [(.p1 tModel tPair (.vr 0)),(.p1 tRows .bool (.vr 3)),(.p1 tInts .bool (.vr 8))]) <|.ite (prA (.pair tRows .bool) 1 (.vr 3)) (.ret (mkA tGrads [(.p1 tRows (.pair tInts .bool) (.vr 9)),(.p1 tI .bool (.vr 7)),(.cb true)])) (.ite (prA (.pair tI .bool) 1 (.vr 7)) (.ret (mkA tGrads [(.p1 tRows (.pair tInts .bool) (.vr 9)),(.p1 tI .bool (.vr 7)),(.cb true)])) (.ite (prA (.pair tInts .bool) 1 (.vr 8)) (.ret (mkA tGrads [(.p1 tRows (.pair tInts .bool) (.vr 9)),(.p1 tI .bool (.vr 7)),(.cb true)])) (.ret (mkA tGrads [(.p1 tRows (.pair tInts .bool) (.vr 9)),(.p1 tI .bool (.vr 7)),(prA (.pair tRows (.pair tInts .bool)) 2 (.vr 9))])))))
set_option maxRecDepth 100000 in
theorem e_i_MicroGrads:exFn Try.prog [c_i_fits,c_i_Inputs,c_i_LossOf,c_i_VecSub,c_i_goBack] c_i_MicroGrads false 3000 ⟨[],[(2983,2009,[],[5,6])]⟩ = .ok t_i_MicroGrads:=by kernel_rfl
theorem v_i_MicroGrads (x:ModelD × PairD) (hx:okD (.pair tModel tPair) x) (hp:(fun _=>True) x):t_i_MicroGrads.wp [c_i_fits,c_i_Inputs,c_i_LossOf,c_i_VecSub,c_i_goBack] [⟨(.pair tModel tPair),x⟩] [] (fun v=>v.as tGrads=(fun x=>microF x.1 x.2) x):=by
 obtain ⟨m,p⟩:=x
 delta t_i_MicroGrads c_i_fits c_i_Inputs c_i_LossOf c_i_VecSub c_i_goBack;refine vcx ?_;try with_reducible exact True.intro
 simp only[Bool.not_eq_true',Bool.not_eq_false',Bool.and_eq_true,Bool.and_eq_false_iff]
 refine ⟨fun h=>?_,fun h=>?_⟩
 ·unfold microF;rw[if_neg (fun hh=>by rcases h with h|h;rw[h] at hh;cases hh.1;rw[h] at hh;cases hh.2)]
 have hm:=(modelB_iff m).1 h.1
 have hv:vecN p.1 (inOf m)=true:=by have:=h.2;unfold pairOkB at this;exact (Bool.and_eq_true _ _ ▸ this).1
 have hin:inputsF m p.1=inK2 m p.1 m.length:=if_pos ⟨h.1,hv⟩
 have hl:(inputsF m p.1).1.length=m.length+1:=by rw[hin,inK2_len]
 rw[show microF m p=_ from if_pos h]
 generalize inputsF m p.1=R at *
 clear hin
 (repeat' first|intro _|(with_reducible apply And.intro))
 all_goals first|omega|exact Prod.ext rfl (Prod.ext rfl (or4_tt (by assumption)))|exact Prod.ext rfl (Prod.ext rfl (or4_ft (by assumption) (by assumption)))|exact Prod.ext rfl (Prod.ext rfl (or4_fft (by assumption) (by assumption) (by assumption)))|exact Prod.ext rfl (Prod.ext rfl (or4_fff (by assumption) (by assumption) (by assumption)))
theorem h_i_MicroGrads:Con.Holds Try.prog c_i_MicroGrads:=tree_ok mixedP (consAt h_i_fits (consAt h_i_Inputs (consAt h_i_LossOf (consAt h_i_VecSub (consAt h_i_goBack consNil))))) e_i_MicroGrads fun x hx hp=>v_i_MicroGrads x hx hp

/-! spec.MicroGrads -/

noncomputable def c_s_MicroGrads:Con:=⟨125,(.pair tModel tPair),tGrads,[.val ⟨true,tModel,[]⟩,.val ⟨true,tPair,[]⟩],[⟨true,tGrads,[0,0,0]⟩],true,none,
 ((fun _=>True):(ModelD × PairD)→Prop),
 ((fun x=>microF x.1 x.2):(ModelD × PairD)→(GradsD))⟩
def t_s_MicroGrads:T:=.prim (.lit 34 tPair 1) (prA (.pair tModel tPair) 1 (.vr 0)) <|.call 0 (.mk2 tModel tBatch (.p1 tModel tPair (.vr 0)) (.vr 1)) <|.prim .not (.vr 2) <|.ite (.vr 3) (.ret (mkA tGrads [(.nl 92 tInts),(.ci .i64 0),(.cb false)])) (.call 1 (.mk2 tModel tInts (.p1 tModel tPair (.vr 0)) (pjA (.pair tModel tPair) 1 (.vr 0))) <|.prim (.llen 92 tInts) (.p1 tRows .bool (.vr 4)) <|.prim (.ar .sub .i64) (.mk2 tI tI (.vr 5) (.ci .i64 1)) <|.prim (.lidx 92 tInts) (.mk2 tRows tI (.p1 tRows .bool (.vr 4)) (.vr 6)) <|.prim (.lidx 92 tInts) (.mk2 tRows tI (.p1 tRows .bool (.vr 4)) (.vr 6)) <|.call 2 (.mk2 tInts tInts (.vr 8) (prA (.pair tModel tPair) 2 (.vr 0))) <|.call 3 (.mk2 tInts tInts (.vr 8) (prA (.pair tModel tPair) 2 (.vr 0))) <|.call 4 (mkA (.pair tModel (.pair tRows tInts)) [(.p1 tModel tPair (.vr 0)),(.p1 tRows .bool (.vr 4)),(.p1 tInts .bool (.vr 10))]) <|.ite (prA (.pair tRows .bool) 1 (.vr 4)) (.ret (mkA tGrads [(.p1 tRows (.pair tInts .bool) (.vr 11)),(.p1 tI .bool (.vr 9)),(.cb true)])) (.ite (prA (.pair tI .bool) 1 (.vr 9)) (.ret (mkA tGrads [(.p1 tRows (.pair tInts .bool) (.vr 11)),(.p1 tI .bool (.vr 9)),(.cb true)])) (.ite (prA (.pair tInts .bool) 1 (.vr 10)) (.ret (mkA tGrads [(.p1 tRows (.pair tInts .bool) (.vr 11)),(.p1 tI .bool (.vr 9)),(.cb true)])) (.ret (mkA tGrads [(.p1 tRows (.pair tInts .bool) (.vr 11)),(.p1 tI .bool (.vr 9)),(prA (.pair tRows (.pair tInts .bool)) 2 (.vr 11))])))))
set_option maxRecDepth 100000 in
theorem e_s_MicroGrads:exFn Try.prog [c_s_BatchOk,c_s_l7Inputs,c_s_LossOf,c_s_VecSub,c_s_l7Back] c_s_MicroGrads false 3000 ⟨[],[(2983,2011,[],[6,7])]⟩ = .ok t_s_MicroGrads:=by kernel_rfl
theorem v_s_MicroGrads (x:ModelD × PairD) (hx:okD (.pair tModel tPair) x) (hp:(fun _=>True) x):t_s_MicroGrads.wp [c_s_BatchOk,c_s_l7Inputs,c_s_LossOf,c_s_VecSub,c_s_l7Back] [⟨(.pair tModel tPair),x⟩] [] (fun v=>v.as tGrads=(fun x=>microF x.1 x.2) x):=by
 obtain ⟨m,p⟩:=x
 delta t_s_MicroGrads c_s_BatchOk c_s_l7Inputs c_s_LossOf c_s_VecSub c_s_l7Back;refine vcx ?_;try with_reducible exact True.intro
 rw[batch_one]
 simp only[Bool.not_eq_true',Bool.not_eq_false',Bool.and_eq_true,Bool.and_eq_false_iff]
 refine fun _=>⟨fun h=>?_,fun h=>?_⟩
 ·unfold microF;rw[if_neg (fun hh=>by rcases h with h|h;rw[h] at hh;cases hh.1;rw[h] at hh;cases hh.2)]
 have hm:=(modelB_iff m).1 h.1
 have hv:vecN p.1 (inOf m)=true:=by have:=h.2;unfold pairOkB at this;exact (Bool.and_eq_true _ _ ▸ this).1
 have hin:inputsF m p.1=inK2 m p.1 m.length:=if_pos ⟨h.1,hv⟩
 have hl:=inK2_len m p.1 m.length
 rw[show microF m p=_ from if_pos h,hin]
 clear hin
 generalize inK2 m p.1 m.length=R at *
 have ek:((R.1.length:Int) - 1).toNat=m.length:=by omega
 rw[ek]
 (repeat' first|intro _|(with_reducible apply And.intro))
 all_goals first|omega|exact ((vecN_iff _ _).1 hv).1|exact Prod.ext rfl (Prod.ext rfl (or4_tt (by assumption)))|exact Prod.ext rfl (Prod.ext rfl (or4_ft (by assumption) (by assumption)))|exact Prod.ext rfl (Prod.ext rfl (or4_fft (by assumption) (by assumption) (by assumption)))|exact Prod.ext rfl (Prod.ext rfl (or4_fff (by assumption) (by assumption) (by assumption)))
theorem h_s_MicroGrads:Con.Holds Try.prog c_s_MicroGrads:=tree_ok mixedP (consAt h_s_BatchOk (consAt h_s_l7Inputs (consAt h_s_LossOf (consAt h_s_VecSub (consAt h_s_l7Back consNil))))) e_s_MicroGrads fun x hx hp=>v_s_MicroGrads x hx hp

/-! spec.Sequential -/

noncomputable def c_s_Sequential:Con:=⟨70,(.pair tModel tBatch),tGrads,[.val ⟨true,tModel,[]⟩,.val ⟨false,tBatch,[]⟩],[⟨true,tGrads,[2,0,0]⟩],false,none,
 ((fun _=>True):(ModelD × BatchD)→Prop),
 ((fun x=>seqF x.1 x.2):(ModelD × BatchD)→(GradsD))⟩
def t_s_Sequential:T:=.call 0 (.vr 0) <|.prim .not (.vr 1) <|.ite (.vr 2) (.ret (mkA tGrads [(.nl 92 tInts),(.ci .i64 0),(.cb false)])) (.call 1 (.p1 tModel tBatch (.vr 0)) <|.loop (.pair tI (.pair tI (.pair .bool tRows))) (mkA (.pair tI (.pair tI (.pair .bool tRows))) [(.ci .i64 0),(pjA tGrads 1 (.vr 3)),(prA tGrads 2 (.vr 3)),(.p1 tRows (.pair tI .bool) (.vr 3))]) <|.prim (.llen 34 tPair) (prA (.pair tModel tBatch) 1 (.vr 0)) <|.prim (.cmp .lss .i64) (.mk2 tI tI (.p1 tI (.pair tI (.pair .bool tRows)) (.vr 4)) (.vr 5)) <|.ite (.vr 6) (.prim (.lidx 34 tPair) (.mk2 tBatch tI (prA (.pair tModel tBatch) 1 (.vr 0)) (.p1 tI (.pair tI (.pair .bool tRows)) (.vr 4))) <|.call 2 (.mk2 tModel tPair (.p1 tModel tBatch (.vr 0)) (.vr 7)) <|.call 3 (.mk2 tGrads tGrads (mkA tGrads [(prA (.pair tI (.pair tI (.pair .bool tRows))) 3 (.vr 4)),(pjA (.pair tI (.pair tI (.pair .bool tRows))) 1 (.vr 4)),(pjA (.pair tI (.pair tI (.pair .bool tRows))) 2 (.vr 4))]) (.vr 8)) <|.prim (.ar .add .i64) (.mk2 tI tI (.p1 tI (.pair tI (.pair .bool tRows)) (.vr 4)) (.ci .i64 1)) <|.again 0 (mkA (.pair tI (.pair tI (.pair .bool tRows))) [(.vr 10),(pjA tGrads 1 (.vr 9)),(prA tGrads 2 (.vr 9)),(.p1 tRows (.pair tI .bool) (.vr 9))])) (.ret (mkA tGrads [(prA (.pair tI (.pair tI (.pair .bool tRows))) 3 (.vr 4)),(pjA (.pair tI (.pair tI (.pair .bool tRows))) 1 (.vr 4)),(pjA (.pair tI (.pair tI (.pair .bool tRows))) 2 (.vr 4))])))
set_option maxRecDepth 100000 in
theorem e_s_Sequential:exFn Try.prog [c_s_BatchOk,c_s_ZeroGrads,c_s_MicroGrads,c_s_AddGrads] c_s_Sequential false 3000 ⟨[(2986,2004,[.dr 13,.dr 12]++drd 10 7++[.dr 0,.tm 6 0,.bx 5 1,.bx 5 2,.sl 4])],[]⟩ = .ok t_s_Sequential:=by kernel_rfl
/- loops: (Int) × ((Int) × ((Bool) × (List (List (Int))))) -/
theorem v_s_Sequential (x:ModelD × BatchD) (hx:okD (.pair tModel tBatch) x) (hp:(fun _=>True) x):t_s_Sequential.wp [c_s_BatchOk,c_s_ZeroGrads,c_s_MicroGrads,c_s_AddGrads] [⟨(.pair tModel tBatch),x⟩] [] (fun v=>v.as tGrads=(fun x=>seqF x.1 x.2) x):=by
 obtain ⟨m,b⟩:=x
 delta t_s_Sequential c_s_BatchOk c_s_ZeroGrads c_s_MicroGrads c_s_AddGrads;refine vcx ?_;try with_reducible exact True.intro
 simp only[Bool.not_eq_true',Bool.not_eq_false']
 refine ⟨fun h=>?_,fun h=>?_⟩
 ·unfold seqF;rw[if_neg (by rw[h];simp)]
 have hb:=(batchB_iff m b).1 h
 have hm:=(modelB_iff m).1 hb.1
 rw[show seqF m b=_ from if_pos h]
 refine ⟨modelP_of hb.1,fun _=>?_⟩
 refine loopF (fun k=>((k:Int),(seqK m b k).2.1,(seqK m b k).2.2,(seqK m b k).1)) b.length rfl fun I μ k hk _ go=>?_
 dsimp only
 (refine dcx ?_;try with_reducible exact True.intro)
 (repeat' first|intro _|(refine go _ ?_ ?_ ?_)|(refine go _ ?_ ?_)|(with_reducible apply And.intro))
 all_goals first|omega|exact (seqK_GB m b k).ok|exact (micro_GB _ _).ok|rfl|(have e:k=b.length:=(by omega);subst e;rfl)
theorem h_s_Sequential:Con.Holds Try.prog c_s_Sequential:=tree_ok mixedP (consAt h_s_BatchOk (consAt h_s_ZeroGrads (consAt h_s_MicroGrads (consAt h_s_AddGrads consNil)))) e_s_Sequential fun x hx hp=>v_s_Sequential x hx hp
end Go.Proofs.Ytahggdiafncdhaa
