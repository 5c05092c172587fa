/- LawRi: trees, and what they say. -/
import Derived.Test.YtahggdiafncdhaaDrawR
import Derived.Test.YtahggdiafncdhaaRi
import Derived.Test.YtahggdiafncdhaaLearn3
namespace Go.Proofs.Ytahggdiafncdhaa
open Go.ChangeShapes Go.WideShapes Go.ChangeAt Go.RowKit Go.Deep
set_option linter.unusedVariables false
set_option linter.unusedSimpArgs false
theorem sumB {B:Nat}:{l:List Nat}→(∀ x∈l,x≤B)→l.sum≤l.length * B
 | [],_=>by simp
 | x :: l,h=>by
  have h1:=sumB (fun y hy=>h y (List.mem_cons_of_mem _ hy)) (l:=l)
  have h2:=h x (by simp)
  rw[List.sum_cons,List.length_cons,Nat.succ_mul];omega
theorem szM_b {m:List OpD} (h1:List.length m≤9) (h2:∀ o∈m,List.length o.2.2.2≤40):szT tModel m≤1000000000:=by
 have e:szT tModel m=List.length m+(m.map (szT tOp)).sum:=rfl
 have h3:=sumB (B:=40) (l:=m.map (szT tOp)) (fun x hx=>by
  obtain ⟨o,ho,rfl⟩:=List.mem_map.1 hx
  have e2:szT tOp o=0+(0+(0+szT tInts o.2.2.2)):=rfl
  have:=h2 o ho
  rw[e2,szT_ints];omega)
 rw[List.length_map] at h3
 rw[e];omega
theorem szG_b {g:GradsD} (h:GB g):szT tGrads g≤1000000000:=by
 have e:szT tGrads g=(List.length g.1+((g.1:List (List Int)).map (szT tRow)).sum)+(0+0):=rfl
 have h2:=sumB (B:=36) (l:=(g.1:List (List Int)).map (szT tRow)) (fun x hx=>by
  obtain ⟨r,hr,rfl⟩:=List.mem_map.1 hx
  rw[show szT tRow r=List.length r from szT_ints r]
  exact h.2 r hr)
 rw[List.length_map] at h2
 have h3:List.length g.1≤8:=h.1
 rw[e];omega

/-! spec.SameModel -/

noncomputable def c_s_SameModel:Con:=⟨27,(.pair tModel tModel),.bool,[.val ⟨true,tModel,[]⟩,.val ⟨true,tModel,[]⟩],[⟨false,.bool,[0]⟩],false,none,
 ((fun _=>True):(ModelD × ModelD)→Prop),
 ((fun x=>eqB x.1 x.2):(ModelD × ModelD)→(Bool))⟩
def t_s_SameModel:T:=.prim (.llen 61 tOp) (.p1 tModel tModel (.vr 0)) <|.prim (.llen 61 tOp) (prA (.pair tModel tModel) 1 (.vr 0)) <|.prim (.cmp .neq .i64) (.mk2 tI tI (.vr 1) (.vr 2)) <|.ite (.vr 3) (.ret (.cb false)) (.loop tI (.ci .i64 0) <|.prim (.llen 61 tOp) (.p1 tModel tModel (.vr 0)) <|.prim (.cmp .lss .i64) (.mk2 tI tI (.vr 4) (.vr 5)) <|.ite (.vr 6) (.prim (.lidx 61 tOp) (.mk2 tModel tI (.p1 tModel tModel (.vr 0)) (.vr 4)) <|.prim (.lidx 61 tOp) (.mk2 tModel tI (prA (.pair tModel tModel) 1 (.vr 0)) (.vr 4)) <|.call 0 (.mk2 tOp tOp (.vr 7) (.vr 8)) <|.prim .not (.vr 9) <|.ite (.vr 10) (.ret (.cb false)) (.prim (.ar .add .i64) (.mk2 tI tI (.vr 4) (.ci .i64 1)) <|.again 0 (.vr 11))) (.ret (.cb true)))
set_option maxRecDepth 100000 in
theorem e_s_SameModel:exFn Try.prog [c_s_SameOp] c_s_SameModel false 3000 ⟨[(2988,2004,drd 12 6++[.dr 0,.dr 1,.tm 5 0])],[]⟩ = .ok t_s_SameModel:=by kernel_rfl
/- loops: Int -/
theorem v_s_SameModel (x:ModelD × ModelD) (hx:okD (.pair tModel tModel) x) (hp:(fun _=>True) x):t_s_SameModel.wp [c_s_SameOp] [⟨(.pair tModel tModel),x⟩] [] (fun v=>v.as .bool=(fun x=>eqB x.1 x.2) x):=by
 obtain ⟨a,b⟩:=x
 have hm:a.length≤9223372036854775807:=by have:a.length≤maxLen:=hx.1.1;unfold maxLen at this;omega
 delta t_s_SameModel c_s_SameOp;refine vcx ?_;try with_reducible exact True.intro
 simp only[neqI_t,neqI_f,lenN,notB_t,notB_f,eqB_iff,eqB_no]
 refine fun _ _=>⟨fun h=>eqF fun e=>h (by rw[e]),fun hl=>?_⟩
 refine ⟨fun s=>∃ k:Nat,k≤a.length∧s=(k:Int)∧∀ i,i<k→a.getD i (zeroD tOp)=b.getD i (zeroD tOp),fun s=>a.length - (s:Int).toNat,⟨0,by omega,rfl,by omega⟩,fun s _ hI=>?_⟩
 obtain ⟨k,hk,rfl,ha⟩:=hI
 (refine dcx ?_;try with_reducible exact True.intro)
 refine fun _=>?_
 constructor
 ·intro hlt
  (repeat' first|intro _|(with_reducible apply And.intro))
  all_goals first|omega|(exact eqF fun e=>‹¬ _=_› (by rw[e]))|skip
  refine ⟨k+1,by omega,rfl,fun i hi=>?_⟩
  rcases Nat.lt_or_eq_of_le (Nat.le_of_lt_succ hi) with h|rfl
  ·exact ha i h
  ·assumption
 ·intro hge
  exact eqT (ext_getD hl fun i hi=>ha i (by omega))
theorem h_s_SameModel:Con.Holds Try.prog c_s_SameModel:=tree_ok mixedP (consAt h_s_SameOp consNil) e_s_SameModel fun x hx hp=>v_s_SameModel x hx hp

/-! laws.FnRight -/

noncomputable def c_w_FnRight:Con:=⟨8,(.slice 5 (.int .u8)),.bool,[.val ⟨false,(.slice 5 (.int .u8)),[]⟩],[⟨false,.bool,[0]⟩],false,none,
 ((fun _=>True):(List Int)→Prop),
 ((fun _=>true):(List Int)→(Bool))⟩
def t_w_FnRight:T:=.call 0 (.vr 0) <|.ite (.vr 1) (.ret (.cb true)) (.call 1 (.vr 0) <|.call 2 (.vr 2) <|.call 3 (.p1 tModel tInts (.vr 2)) <|.prim .not (.vr 4) <|.ite (.vr 5) (.prim (.llen 92 tInts) (.p1 tRows .bool (.vr 3)) <|.prim (.cmp .eql .i64) (.mk2 tI tI (.vr 6) (.ci .i64 0)) <|.ret (.vr 7)) (.call 4 (prA (.pair tModel tInts) 1 (.vr 2)) <|.prim .not (.vr 6) <|.ite (.vr 7) (.prim (.llen 92 tInts) (.p1 tRows .bool (.vr 3)) <|.prim (.cmp .eql .i64) (.mk2 tI tI (.vr 8) (.ci .i64 0)) <|.ret (.vr 9)) (.prim (.llen 3 tI) (prA (.pair tModel tInts) 1 (.vr 2)) <|.call 5 (.p1 tModel tInts (.vr 2)) <|.prim (.cmp .neq .i64) (.mk2 tI tI (.vr 8) (.vr 9)) <|.ite (.vr 10) (.prim (.llen 92 tInts) (.p1 tRows .bool (.vr 3)) <|.prim (.cmp .eql .i64) (.mk2 tI tI (.vr 11) (.ci .i64 0)) <|.ret (.vr 12)) (.prim (.llen 92 tInts) (.p1 tRows .bool (.vr 3)) <|.prim (.llen 61 tOp) (.p1 tModel tInts (.vr 2)) <|.prim (.ar .add .i64) (.mk2 tI tI (.vr 12) (.ci .i64 1)) <|.prim (.cmp .neq .i64) (.mk2 tI tI (.vr 11) (.vr 13)) <|.ite (.vr 14) (.ret (.cb false)) (.prim (.lidx 92 tInts) (.mk2 tRows tI (.p1 tRows .bool (.vr 3)) (.ci .i64 0)) <|.prim (.lidx 92 tInts) (.mk2 tRows tI (.p1 tRows .bool (.vr 3)) (.ci .i64 0)) <|.call 6 (.mk2 tInts tInts (.vr 16) (prA (.pair tModel tInts) 1 (.vr 2))) <|.prim .not (.vr 17) <|.ite (.vr 18) (.ret (.cb false)) (.loop tI (.ci .i64 0) <|.prim (.llen 61 tOp) (.p1 tModel tInts (.vr 2)) <|.prim (.cmp .lss .i64) (.mk2 tI tI (.vr 19) (.vr 20)) <|.ite (.vr 21) (.prim (.lidx 61 tOp) (.mk2 tModel tI (.p1 tModel tInts (.vr 2)) (.vr 19)) <|.prim (.lidx 92 tInts) (.mk2 tRows tI (.p1 tRows .bool (.vr 3)) (.vr 19)) <|.prim (.lidx 92 tInts) (.mk2 tRows tI (.p1 tRows .bool (.vr 3)) (.vr 19)) <|.call 7 (.mk2 tOp tInts (.vr 22) (.vr 24)) <|.prim (.ar .add .i64) (.mk2 tI tI (.vr 19) (.ci .i64 1)) <|.prim (.lidx 92 tInts) (.mk2 tRows tI (.p1 tRows .bool (.vr 3)) (.vr 26)) <|.prim (.lidx 92 tInts) (.mk2 tRows tI (.p1 tRows .bool (.vr 3)) (.vr 26)) <|.call 6 (.mk2 tInts tInts (.p1 tInts .bool (.vr 25)) (.vr 28)) <|.prim .not (.vr 29) <|.ite (.vr 30) (.ret (.cb false)) (.prim (.ar .add .i64) (.mk2 tI tI (.vr 19) (.ci .i64 1)) <|.again 0 (.vr 31))) (.prim (.llen 61 tOp) (.p1 tModel tInts (.vr 2)) <|.prim (.lidx 92 tInts) (.mk2 tRows tI (.p1 tRows .bool (.vr 3)) (.vr 22)) <|.prim (.lidx 92 tInts) (.mk2 tRows tI (.p1 tRows .bool (.vr 3)) (.vr 22)) <|.call 8 (mkA (.pair tModel tPair) [(.p1 tModel tInts (.vr 2)),(prA (.pair tModel tInts) 1 (.vr 2)),(.vr 24)]) <|.loop tI (.ci .i64 0) <|.prim (.llen 92 tInts) (.p1 tRows (.pair tI .bool) (.vr 25)) <|.prim (.cmp .lss .i64) (.mk2 tI tI (.vr 26) (.vr 27)) <|.ite (.vr 28) (.loop tI (.ci .i64 0) <|.prim (.lidx 92 tInts) (.mk2 tRows tI (.p1 tRows (.pair tI .bool) (.vr 25)) (.vr 26)) <|.prim (.llen 3 tI) (.vr 30) <|.prim (.cmp .lss .i64) (.mk2 tI tI (.vr 29) (.vr 31)) <|.ite (.vr 32) (.prim (.lidx 92 tInts) (.mk2 tRows tI (.p1 tRows (.pair tI .bool) (.vr 25)) (.vr 26)) <|.prim (.lidx 3 tI) (.mk2 tInts tI (.vr 33) (.vr 29)) <|.prim (.cmp .neq .i64) (.mk2 tI tI (.vr 34) (.ci .i64 0)) <|.ite (.vr 35) (.ret (.cb false)) (.prim (.ar .add .i64) (.mk2 tI tI (.vr 29) (.ci .i64 1)) <|.again 0 (.vr 36))) (.prim (.ar .add .i64) (.mk2 tI tI (.vr 26) (.ci .i64 1)) <|.again 1 (.vr 33))) (.call 9 (mkA (.pair tModel (.pair tGrads tI)) [(.p1 tModel tInts (.vr 2)),(.vr 25),(.ci .i64 65536)]) <|.prim (.cmp .eql .i64) (.mk2 tI tI (pjA tGrads 1 (.vr 25)) (.ci .i64 0)) <|.ite (.vr 30) (.prim (.llen 92 tInts) (.p1 tRows (.pair tI .bool) (.vr 25)) <|.prim (.llen 61 tOp) (.p1 tModel tInts (.vr 2)) <|.prim (.cmp .eql .i64) (.mk2 tI tI (.vr 31) (.vr 32)) <|.ite (.vr 33) (.call 10 (.mk2 tModel tModel (.p1 tModel .bool (.vr 29)) (.p1 tModel tInts (.vr 2))) <|.ite (.vr 34) (.prim .not (prA (.pair tModel .bool) 1 (.vr 29)) <|.ret (.vr 35)) (.ret (.cb false))) (.ret (.cb false))) (.ret (.cb false))))))))))
set_option maxRecDepth 100000 in
theorem e_w_FnRight:exFn Try.prog [c_w_big,c_s_DrawInputs,c_i_Inputs,c_s_ModelOk,c_s_VecOk,c_s_InOf,c_w_sameInts,c_s_OpForward,c_i_MicroGrads,c_i_Learn,c_s_SameModel] c_w_FnRight false 3000 ⟨[(2974,64019,drd 61 46++drd 42 28++[.dr 6,.dr 27,.dr 26,.dr 22]++drd 25 23++[.dr 21,.dr 20,.dr 17,.dr 19,.dr 18,.dr 16,.dr 15,.dr 0,.tm 7 0]),(2962,128026,drd 102 96++[.dr 92]++drd 95 93++drd 66 62++[.dr 7,.dr 5,.dr 4,.tm 11 0]),(2951,384029,[.tm 12 0])],[]⟩ = .ok t_w_FnRight:=by kernel_rfl
/- loops: Int ¦ Int ¦ Int -/
theorem v_w_FnRight (x:List Int) (hx:okD (.slice 5 (.int .u8)) x) (hp:(fun _=>True) x):t_w_FnRight.wp [c_w_big,c_s_DrawInputs,c_i_Inputs,c_s_ModelOk,c_s_VecOk,c_s_InOf,c_w_sameInts,c_s_OpForward,c_i_MicroGrads,c_i_Learn,c_s_SameModel] [⟨(.slice 5 (.int .u8)),x⟩] [] (fun v=>v.as .bool=(fun _=>true) x):=by
 delta t_w_FnRight c_w_big c_s_DrawInputs c_i_Inputs c_s_ModelOk c_s_VecOk c_s_InOf c_w_sameInts c_s_OpForward c_i_MicroGrads c_i_Learn c_s_SameModel;refine vcx ?_;try with_reducible exact True.intro
 (refine dcx ?_;try with_reducible exact True.intro)
 refine ⟨fun _=>trivial,fun hb=>⟨by omega,fun _=>?_⟩⟩
 have q:=q_s_DrawInputs x hx (by show List.length x≤1048576;omega)
 generalize f_s_DrawInputs x=r at q ⊢
 obtain ⟨m,y⟩:=r
 obtain ⟨kq,u1,u2,u3⟩:=q
 change List OpD at m
 change List Int at y
 change List.length m≤9 at u1
 change List.length y≤7 at u3
 dsimp only at u2 ⊢
 have no:¬ (modelB m=true∧vecN y (inOf m)=true)→(((List.length (inputsF m y).1:Nat):Int)=0):=fun h=>by
  unfold inputsF;rw[if_neg h];rfl
 refine fun _=>⟨fun h _=>no fun hh=>(by rw[hh.1] at h;cases h),fun hm=>⟨fun h _=>no fun hh=>(by rw[((vecN_iff _ _).1 hh.2).1] at h;cases h),fun hv _ _=>⟨fun h _=>no fun hh=>h ((vecN_iff _ _).1 hh.2).2,fun hl=>?_⟩⟩⟩
 have hx':vecN y (inOf m)=true:=(vecN_iff _ _).2 ⟨hv,hl⟩
 have e:inputsF m y=inK2 m y m.length:=by unfold inputsF;rw[if_pos ⟨hm,hx'⟩]
 rw[e]
 have hlen:=inK2_len m y m.length
 have hat:∀ i,i≤m.length→(inK2 m y m.length).1.getD i (zeroD tInts)=rowF m y i:=fun i hi=>inK2_at m y _ i hi
 generalize (inK2 m y m.length).1=L at hlen hat ⊢
 change List (List Int) at L
 change List.length L=m.length+1 at hlen
 refine fun _ _=>⟨by omega,fun _=>⟨fun h=>absurd (by omega) h,fun _=>⟨⟨by omega,by omega⟩,fun _=>⟨⟨by omega,by omega⟩,fun _=>⟨hat 0 (by omega),(fun h=>(by cases h)),fun _=>?_⟩⟩⟩⟩⟩
 refine loopF (fun k=>(k:Int)) m.length rfl fun I μ k hk _ go=>?_
 try dsimp only
 (refine dcx ?_;try with_reducible exact True.intro)
 refine fun _=>⟨fun hlt=>?_,fun hge=>?_⟩
 ·have hk':k<m.length:=by omega
  refine ⟨by omega,fun _=>⟨by omega,fun _=>⟨by omega,fun _ _=>⟨by omega,fun _=>⟨by omega,fun _=>⟨by omega,fun _=>⟨?_,(fun h=>(by cases h)),fun _=>⟨by omega,fun _=>go _ hk' (by show (k:Int)+1=((k+1:Nat):Int);omega)⟩⟩⟩⟩⟩⟩⟩⟩
  rw[hat k (by omega),hat (k+1) (by omega)];rfl
 ·rw[hat m.length (Nat.le_refl _)]
  obtain ⟨g1,g2,g3⟩:=micro0 hm hx'
  have g4:=micro_GB m (y,rowF m y m.length)
  generalize microF m (y,rowF m y m.length)=G at g1 g2 g3 g4 ⊢
  have g5:=learn0 (m:=m) 65536 g2
  have hP:LearnP (m,(G,65536)):=⟨szM_b u1 u2,szG_b g4⟩
  refine fun _=>⟨by omega,fun _=>⟨by omega,fun _ _=>?_⟩⟩
  refine loopF (fun k=>(k:Int)) (List.length G.1) rfl fun I2 μ2 k2 hk2 _ go2=>?_
  try dsimp only
  (refine dcx ?_;try with_reducible exact True.intro)
  refine fun _=>⟨fun hlt2=>?_,fun hge2=>⟨hP,fun _=>?_⟩⟩
  ·refine loopF (fun k=>(k:Int)) (List.length (List.getD G.1 k2 (zeroD tInts))) rfl fun I3 μ3 k3 hk3 _ go3=>?_
   try dsimp only
   (refine dcx ?_;try with_reducible exact True.intro)
   have hk2':k2<List.length G.1:=by omega
   have hr:List.length (List.getD G.1 k2 (zeroD tInts))≤36:=by rw[getD_at hk2'];exact g4.2 _ (List.getElem_mem hk2')
   have hz:List.getD (List.getD G.1 k2 (zeroD tInts)) k3 (zeroD tI)=0:=(rows_at g2 k2).at' k3
   exact ⟨by omega,fun _ _=>⟨fun hlt3=>⟨by omega,fun _=>⟨by omega,fun _=>⟨fun h=>absurd hz h,fun _=>⟨by omega,fun _=>go3 _ (by omega) (by show (k3:Int)+1=((k3+1:Nat):Int);omega)⟩⟩⟩⟩,fun _=>⟨by omega,fun _=>go2 _ (by omega) (by show (k2:Int)+1=((k2+1:Nat):Int);omega)⟩⟩⟩
  ·rw[g5]
   have he:eqB m m=true:=(eqT rfl).symm
   have hc:((List.length G.1:Nat):Int)=((List.length m:Nat):Int):=by rw[show List.length G.1=List.length m from g1]
   have g3':G.2.1=0:=g3
   (repeat' first|intro _|(with_reducible apply And.intro))
   all_goals first|rfl|omega|(simp_all;done)|skip
theorem h_w_FnRight:Con.Holds Try.prog c_w_FnRight:=tree_ok mixedP (consAt h_w_big (consAt h_s_DrawInputs (consAt h_i_Inputs (consAt h_s_ModelOk (consAt h_s_VecOk (consAt h_s_InOf (consAt h_w_sameInts (consAt h_s_OpForward (consAt h_i_MicroGrads (consAt h_i_Learn (consAt h_s_SameModel consNil))))))))))) e_w_FnRight fun x hx hp=>v_w_FnRight x hx hp
end Go.Proofs.Ytahggdiafncdhaa
