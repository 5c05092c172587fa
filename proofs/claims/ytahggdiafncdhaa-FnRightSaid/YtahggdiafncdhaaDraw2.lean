/- Draw2: trees, and what they say. -/
import Derived.Test.YtahggdiafncdhaaDraw1
namespace Go.Proofs.Ytahggdiafncdhaa
open Go.ChangeShapes Go.WideShapes Go.ChangeAt Go.RowKit Go.Deep
set_option linter.unusedVariables false
set_option linter.unusedSimpArgs false
theorem nd_t (L N:Nat):Int.tdiv (L:Int) (N:Int)=((L / N:Nat):Int):=by
 rw[Int.tdiv_eq_ediv_of_nonneg (by omega)];rfl
theorem nd_m (L N:Nat):Int.tmod (L:Int) (N:Int)=((L % N:Nat):Int):=by
 rw[Int.tmod_eq_emod_of_nonneg (by omega)];rfl
theorem pk2 {α β:Type} {k:Nat} {a a':α} {b b':β} (h:a=a') (h':b=b'):((k:Int)+1,a,b)=(((k+1:Nat):Int),a',b'):=by subst h;subst h';exact pk rfl
/-- Where a share begins. -/
def offS (q r:Nat):Nat→Nat
 | 0=>0
 | i+1=>offS q r i+q+(if i<r then 1 else 0)
theorem offS_lin (q r:Nat):(i:Nat)→offS q r i=i * q+min i r
 | 0=>by simp[offS]
 | i+1=>by
  rw[offS,offS_lin q r i,Nat.succ_mul]
  split <;> omega
theorem offS_mono (q r : Nat) {i j : Nat} (h : i ≤ j) : offS q r i ≤ offS q r j := by
  induction j with
  | zero => have : i = 0 := by omega
            subst this; exact Nat.le_refl _
  | succ j ih =>
    rcases Nat.lt_or_eq_of_le h with h | rfl
    · have := ih (by omega)
      rw [offS]; omega
    · exact Nat.le_refl _
theorem offS_end {L N:Nat} (h:1≤N):offS (L / N) (L % N) N=L:=by
 rw[offS_lin]
 have h1:=Nat.div_add_mod L N
 have h2:=Nat.mod_lt L (show 0<N by omega)
 omega
theorem offS_le {L N i:Nat} (h:1≤N) (hi:i≤N):offS (L / N) (L % N) i≤L:=by
 have:=offS_mono (L / N) (L % N) hi
 rw[offS_end h] at this
 exact this
/-- A share. -/
def segS (l:List PairD) (N i:Nat):List PairD:=(l.take (offS (l.length / N) (l.length % N) (i+1))).drop (offS (l.length / N) (l.length % N) i)
theorem segS_len {l:List PairD} {N i:Nat} (h:1≤N) (hi:i<N):(segS l N i).length=l.length / N+(if i<l.length % N then 1 else 0):=by
 have h1:=offS_le (L:=l.length) (N:=N) (i:=i+1) h hi
 unfold segS
 rw[List.length_drop,List.length_take,Nat.min_eq_left h1,offS]
 generalize l.length / N=q
 omega
theorem segS_at {l:List PairD} {N i j:Nat} (h:1≤N) (hi:i<N) (hj:j<(segS l N i).length):∃ hk:offS (l.length / N) (l.length % N) i+j<l.length,(segS l N i)[j]=l[offS (l.length / N) (l.length % N) i+j]:=by
 have h1:=offS_le (L:=l.length) (N:=N) (i:=i+1) h hi
 have h2:=segS_len (l:=l) h hi
 rw[offS] at h1
 have hk:offS (l.length / N) (l.length % N) i+j<l.length:=by omega
 refine ⟨hk,?_⟩
 have e:(segS l N i)[j]?=l[offS (l.length / N) (l.length % N) i+j]?:=by
  unfold segS
  rw[List.getElem?_drop,List.getElem?_take,if_pos (by rw[offS];omega)]
 rw[List.getElem?_eq_getElem hj,List.getElem?_eq_getElem hk] at e
 exact Option.some.inj e
theorem segS_mem {l:List PairD} {N i:Nat}:∀ p∈segS l N i,p∈l:=fun p hp=>List.mem_of_mem_take (List.mem_of_mem_drop hp)
noncomputable def sharesF (l:List PairD) (n:Int):List (List PairD):=if n<1∨4<n then [] else mp n.toNat (segS l n.toNat)

/-! spec.l6AnyBatch -/

noncomputable def k_s_l6AnyBatch:Con:=⟨58,(.pair (.pair (.slice 5 (.int .u8)) tIns) tModel),(.pair tBatch (.pair (.slice 5 (.int .u8)) tIns)),[.box 148 ⟨true,(.pair (.slice 5 (.int .u8)) tIns),[]⟩,.val ⟨true,tModel,[]⟩],[⟨false,tBatch,[0]⟩],false,none,
 ((fun x=>0≤x.1.2.1):(CurD × ModelD)→Prop),
 ((fun _=>zeroD (.pair tBatch (.pair (.slice 5 (.int .u8)) tIns))):(CurD × ModelD)→(BatchD × CurD))⟩
def t_s_l6AnyBatch:T:=.call 0 (.vr 0) <|.call 1 (.mk2 (.pair (.slice 5 (.int .u8)) tIns) tI (prA (.pair tBatch (.pair (.slice 5 (.int .u8)) tIns)) 1 (.vr 1)) (.ci .i64 16)) <|.prim (.cmp .eql .i64) (.mk2 tI tI (.p1 tI (.pair (.slice 5 (.int .u8)) tIns) (.vr 2)) (.ci .i64 0)) <|.ite (.vr 3) (.ret (.mk2 tBatch (.pair (.slice 5 (.int .u8)) tIns) (.nl 34 tPair) (prA (.pair tI (.pair (.slice 5 (.int .u8)) tIns)) 1 (.vr 2)))) (.prim (.cmp .eql .i64) (.mk2 tI tI (.p1 tI (.pair (.slice 5 (.int .u8)) tIns) (.vr 2)) (.ci .i64 1)) <|.ite (.vr 4) (.call 2 (prA (.pair tI (.pair (.slice 5 (.int .u8)) tIns)) 1 (.vr 2)) <|.prim (.lidx 34 tPair) (.mk2 tBatch tI (.p1 tBatch (.pair (.slice 5 (.int .u8)) tIns) (.vr 1)) (.ci .i64 0)) <|.prim (.lidx 34 tPair) (.mk2 tBatch tI (.p1 tBatch (.pair (.slice 5 (.int .u8)) tIns) (.vr 1)) (.ci .i64 0)) <|.prim (.lset 34 tPair) (mkA (.pair tBatch (.pair tI tPair)) [(.p1 tBatch (.pair (.slice 5 (.int .u8)) tIns) (.vr 1)),(.ci .i64 0),(.p1 tInts (.pair (.slice 5 (.int .u8)) tIns) (.vr 5)),(prA tPair 1 (.vr 7))]) <|.ret (.mk2 tBatch (.pair (.slice 5 (.int .u8)) tIns) (.vr 8) (prA (.pair tInts (.pair (.slice 5 (.int .u8)) tIns)) 1 (.vr 5)))) (.prim (.cmp .eql .i64) (.mk2 tI tI (.p1 tI (.pair (.slice 5 (.int .u8)) tIns) (.vr 2)) (.ci .i64 2)) <|.ite (.vr 5) (.loop (.pair (.slice 5 (.int .u8)) (.pair tI (.pair tI tBatch))) (mkA (.pair (.slice 5 (.int .u8)) (.pair tI (.pair tI tBatch))) [(pjA (.pair tI (.pair (.slice 5 (.int .u8)) tIns)) 1 (.vr 2)),(pjA (.pair tI (.pair (.slice 5 (.int .u8)) tIns)) 2 (.vr 2)),(prA (.pair tI (.pair (.slice 5 (.int .u8)) tIns)) 3 (.vr 2)),(.p1 tBatch (.pair (.slice 5 (.int .u8)) tIns) (.vr 1))]) <|.prim (.llen 34 tPair) (prA (.pair (.slice 5 (.int .u8)) (.pair tI (.pair tI tBatch))) 3 (.vr 6)) <|.call 1 (.mk2 (.pair (.slice 5 (.int .u8)) tIns) tI (mkA (.pair (.slice 5 (.int .u8)) tIns) [(.p1 (.slice 5 (.int .u8)) (.pair tI (.pair tI tBatch)) (.vr 6)),(pjA (.pair (.slice 5 (.int .u8)) (.pair tI (.pair tI tBatch))) 1 (.vr 6)),(pjA (.pair (.slice 5 (.int .u8)) (.pair tI (.pair tI tBatch))) 2 (.vr 6))]) (.ci .i64 2)) <|.prim (.ar .add .i64) (.mk2 tI tI (.ci .i64 5) (.p1 tI (.pair (.slice 5 (.int .u8)) tIns) (.vr 8))) <|.prim (.cmp .lss .i64) (.mk2 tI tI (.vr 7) (.vr 9)) <|.ite (.vr 10) (.prim (.lidx 34 tPair) (.mk2 tBatch tI (prA (.pair (.slice 5 (.int .u8)) (.pair tI (.pair tI tBatch))) 3 (.vr 6)) (.ci .i64 0)) <|.prim (.lidx 34 tPair) (.mk2 tBatch tI (prA (.pair (.slice 5 (.int .u8)) (.pair tI (.pair tI tBatch))) 3 (.vr 6)) (.ci .i64 0)) <|.prim (.lit 34 tPair 1) (.vr 12) <|.prim (.lapp 34 tPair 48) (.mk2 tBatch tBatch (prA (.pair (.slice 5 (.int .u8)) (.pair tI (.pair tI tBatch))) 3 (.vr 6)) (.vr 13)) <|.again 0 (mkA (.pair (.slice 5 (.int .u8)) (.pair tI (.pair tI tBatch))) [(pjA (.pair tI (.pair (.slice 5 (.int .u8)) tIns)) 1 (.vr 8)),(pjA (.pair tI (.pair (.slice 5 (.int .u8)) tIns)) 2 (.vr 8)),(prA (.pair tI (.pair (.slice 5 (.int .u8)) tIns)) 3 (.vr 8)),(.vr 14)])) (.ret (.mk2 tBatch (.pair (.slice 5 (.int .u8)) tIns) (prA (.pair (.slice 5 (.int .u8)) (.pair tI (.pair tI tBatch))) 3 (.vr 6)) (prA (.pair tI (.pair (.slice 5 (.int .u8)) tIns)) 1 (.vr 8))))) (.ret (.mk2 tBatch (.pair (.slice 5 (.int .u8)) tIns) (.p1 tBatch (.pair (.slice 5 (.int .u8)) tIns) (.vr 1)) (prA (.pair tI (.pair (.slice 5 (.int .u8)) tIns)) 1 (.vr 2))))))
set_option maxRecDepth 100000 in
theorem e_s_l6AnyBatch (f:(CurD × ModelD)→(BatchD × CurD)):exFn Try.prog [c_s_l6Batch,c_s_l1Below,c_s_l3Any] { k_s_l6AnyBatch with fn:=f } false 3000 ⟨[(2981,12006,[.dr 21,.dr 22,.dr 14,.dr 15,.dr 11,.dr 12]++drd 10 6++[.dr 3,.dr 1,.bx 1 0,.bx 1 1,.bx 1 2,.sl 3,.nq 3])],[(2985,6005,[18],[])]⟩ = .ok t_s_l6AnyBatch:=by kernel_rfl
/- loops: (List (Int)) × ((Int) × ((Int) × (List ((List (Int)) × (List (Int)))))) -/
theorem v_s_l6AnyBatch (x:CurD × ModelD) (hx:okD (.pair (.pair (.slice 5 (.int .u8)) tIns) tModel) x) (hp:(fun x=>0≤x.1.2.1) x):t_s_l6AnyBatch.wp [c_s_l6Batch,c_s_l1Below,c_s_l3Any] [⟨(.pair (.pair (.slice 5 (.int .u8)) tIns) tModel),x⟩] [] (fun v=>(fun x r=>r.1.length≤6∧(∀ p∈r.1,p.1.length≤7∧p.2.length≤7)∧0≤r.2.2.1:(CurD × ModelD)→(BatchD × CurD)→Prop) x (v.as (.pair tBatch (.pair (.slice 5 (.int .u8)) tIns)))):=by
 obtain ⟨c,m⟩:=x
 have q1:=q_s_l6Batch (c,m) hx hp
 delta t_s_l6AnyBatch c_s_l6Batch c_s_l1Below c_s_l3Any;refine vcx ?_;try with_reducible exact True.intro
 (refine dcx ?_;try with_reducible exact True.intro)
 refine ⟨hp,fun _=>?_⟩
 generalize f_s_l6Batch (c,m)=r at q1 ⊢;obtain ⟨l1,c1⟩:=r;obtain ⟨kq1,uq1⟩:=q1;have kl1:=kq1.1;replace kq1:okD tCur c1:=kq1.2;dsimp only at uq1 ⊢
 change List PairD at l1
 have u7:∀ p∈l1,List.length p.1≤7∧List.length p.2≤7:=fun p hp=>by have:=uq1.2.2.1 p hp;omega
 refine ⟨uq1.2.2.2,fun _=>?_⟩
 have q2:=q_s_l1Below (c1,16) ⟨kq1,okI (by omega) (by omega)⟩ uq1.2.2.2
 generalize f_s_l1Below (c1,16)=r at q2 ⊢;obtain ⟨n2,c2⟩:=r;obtain ⟨kq2,uq2⟩:=q2;replace kq2:okD tCur c2:=kq2.2;dsimp only at uq2 ⊢
 refine ⟨fun _=>⟨by omega,fun p hp=>by simp at hp,uq2.2.2.2⟩,fun _=>⟨fun _=>⟨uq2.2.2.2,fun _=>?_⟩,fun _=>⟨fun _=>?_,fun _=>⟨by omega,u7,uq2.2.2.2⟩⟩⟩⟩
 ·have q3:=(q_s_l3Any c2 kq2 uq2.2.2.2).2
  generalize f_s_l3Any c2=r at q3 ⊢;obtain ⟨v3,c3⟩:=r;dsimp only at q3 ⊢
  have hl0:0<l1.length:=by omega
  refine ⟨⟨by omega,by omega⟩,fun _=>⟨⟨by omega,by omega⟩,fun _=>⟨⟨by omega,by omega⟩,fun _=>⟨by rw[List.length_set];omega,fun p hp=>?_,q3.2⟩⟩⟩⟩
  rcases List.mem_or_eq_of_mem_set hp with hp|hp
  ·exact u7 p hp
  ·subst hp
   rw[getD_at hl0]
   exact ⟨q3.1,(u7 _ (List.getElem_mem hl0)).2⟩
 ·refine ⟨fun s=>1≤List.length s.2.2.2∧List.length s.2.2.2≤6∧(∀ p∈s.2.2.2,List.length p.1≤7∧List.length p.2≤7)∧@LE.le Int _ 0 s.2.1,fun s=>7 - List.length s.2.2.2,⟨uq1.1,by show l1.length≤6;omega,u7,uq2.2.2.2⟩,fun s hs hI=>?_⟩
  obtain ⟨b,i,h,l⟩:=s
  obtain ⟨e1,e2,e3,e4⟩:=hI
  change List PairD at l
  change 1≤l.length at e1
  change l.length≤6 at e2
  change ∀ p∈l,List.length p.1≤7∧List.length p.2≤7 at e3
  change 0≤(i:Int) at e4
  have q3:=(q_s_l1Below ((b,i,h),2) ⟨⟨hs.1,hs.2.1,hs.2.2.1⟩,okI (by omega) (by omega)⟩ e4).2
  try dsimp only
  try (refine dcx ?_;try with_reducible exact True.intro)
  generalize f_s_l1Below ((b,i,h),2)=r at q3 ⊢;obtain ⟨n3,c3⟩:=r;dsimp only at q3 ⊢
  have hl0:0<l.length:=by omega
  refine fun _=>⟨e4,fun _=>⟨by omega,fun _=>⟨fun hlt=>?_,fun hge=>⟨e2,e3,q3.2.2.2⟩⟩⟩⟩
  rw[getD_at hl0]
  have e5:∀ p∈l++[l[0]],List.length p.1≤7∧List.length p.2≤7:=fun p hp=>by
   rcases List.mem_append.1 hp with hp|hp
   ·exact e3 p hp
   ·rw[List.mem_singleton] at hp
    rw[hp];exact e3 _ (List.getElem_mem hl0)
  (repeat' first|intro _|(with_reducible apply And.intro))
  all_goals first|omega|(unfold maxLen;omega)|exact q3.2.2.2|exact (e5 _ (by assumption)).1|exact (e5 _ (by assumption)).2
theorem d_s_l6AnyBatch:∃ f:(CurD × ModelD)→(BatchD × CurD),(∀ x,okD (.pair (.pair (.slice 5 (.int .u8)) tIns) tModel) x→(fun x=>0≤x.1.2.1) x→(fun x r=>r.1.length≤6∧(∀ p∈r.1,p.1.length≤7∧p.2.length≤7)∧0≤r.2.2.1:(CurD × ModelD)→(BatchD × CurD)→Prop) x (f x))∧Con.Holds Try.prog { k_s_l6AnyBatch with fn:=f }:=rel_ok (C:=k_s_l6AnyBatch) mixedP (consAt h_s_l6Batch (consAt h_s_l1Below (consAt h_s_l3Any consNil))) e_s_l6AnyBatch (fun x r=>r.1.length≤6∧(∀ p∈r.1,p.1.length≤7∧p.2.length≤7)∧0≤r.2.2.1:(CurD × ModelD)→(BatchD × CurD)→Prop) fun x hx hp=>v_s_l6AnyBatch x hx hp
noncomputable def f_s_l6AnyBatch:(CurD × ModelD)→(BatchD × CurD):=Classical.choose d_s_l6AnyBatch
noncomputable def c_s_l6AnyBatch:Con:=⟨58,(.pair (.pair (.slice 5 (.int .u8)) tIns) tModel),(.pair tBatch (.pair (.slice 5 (.int .u8)) tIns)),[.box 148 ⟨true,(.pair (.slice 5 (.int .u8)) tIns),[]⟩,.val ⟨true,tModel,[]⟩],[⟨false,tBatch,[0]⟩],false,none,
 ((fun x=>0≤x.1.2.1):(CurD × ModelD)→Prop),
 ((f_s_l6AnyBatch):(CurD × ModelD)→(BatchD × CurD))⟩
theorem p_s_l6AnyBatch:∀ x,okD (.pair (.pair (.slice 5 (.int .u8)) tIns) tModel) x→(fun x=>0≤x.1.2.1) x→(fun x r=>r.1.length≤6∧(∀ p∈r.1,p.1.length≤7∧p.2.length≤7)∧0≤r.2.2.1:(CurD × ModelD)→(BatchD × CurD)→Prop) x (f_s_l6AnyBatch x):=(Classical.choose_spec d_s_l6AnyBatch).1
theorem h_s_l6AnyBatch:Con.Holds Try.prog c_s_l6AnyBatch:=(Classical.choose_spec d_s_l6AnyBatch).2
theorem q_s_l6AnyBatch (x:CurD × ModelD) (hx:okD (.pair (.pair (.slice 5 (.int .u8)) tIns) tModel) x) (hp:(fun x=>0≤x.1.2.1) x):okD (.pair tBatch (.pair (.slice 5 (.int .u8)) tIns)) (f_s_l6AnyBatch x)∧(fun x r=>r.1.length≤6∧(∀ p∈r.1,p.1.length≤7∧p.2.length≤7)∧0≤r.2.2.1:(CurD × ModelD)→(BatchD × CurD)→Prop) x (f_s_l6AnyBatch x):=⟨h_s_l6AnyBatch.ok x hp hx,p_s_l6AnyBatch x hx hp⟩

/-! spec.DrawShares -/

noncomputable def k_s_DrawShares:Con:=⟨11,(.slice 5 (.int .u8)),(.pair tBatch tI),[.val ⟨false,(.slice 5 (.int .u8)),[]⟩],[⟨false,tBatch,[0]⟩,⟨false,tI,[0]⟩],false,none,
 ((fun x=>x.length≤1048576):(List Int)→Prop),
 ((fun _=>zeroD (.pair tBatch tI)):(List Int)→(BatchD × Int))⟩
def t_s_DrawShares:T:=.call 0 (.vr 0) <|.call 1 (.vr 1) <|.call 2 (.mk2 (.pair (.slice 5 (.int .u8)) tIns) tModel (prA (.pair tModel (.pair (.slice 5 (.int .u8)) tIns)) 1 (.vr 2)) (.p1 tModel (.pair (.slice 5 (.int .u8)) tIns) (.vr 2))) <|.call 3 (.mk2 (.pair (.slice 5 (.int .u8)) tIns) tI (prA (.pair tBatch (.pair (.slice 5 (.int .u8)) tIns)) 1 (.vr 3)) (.ci .i64 6)) <|.ret (.mk2 tBatch tI (.p1 tBatch (.pair (.slice 5 (.int .u8)) tIns) (.vr 3)) (.p1 tI (.pair (.slice 5 (.int .u8)) tIns) (.vr 4)))
set_option maxRecDepth 100000 in
theorem e_s_DrawShares (f:(List Int)→(BatchD × Int)):exFn Try.prog [c_s_l1New,c_s_l6Model,c_s_l6AnyBatch,c_s_l1Below] { k_s_DrawShares with fn:=f } false 3000 ⟨[],[(2992,1003,[],[2])]⟩ = .ok t_s_DrawShares:=by kernel_rfl
theorem v_s_DrawShares (x:List Int) (hx:okD (.slice 5 (.int .u8)) x) (hp:(fun x=>x.length≤1048576) x):t_s_DrawShares.wp [c_s_l1New,c_s_l6Model,c_s_l6AnyBatch,c_s_l1Below] [⟨(.slice 5 (.int .u8)),x⟩] [] (fun v=>(fun x r=>r.1.length≤6∧(∀ p∈r.1,p.1.length≤7∧p.2.length≤7):(List Int)→(BatchD × Int)→Prop) x (v.as (.pair tBatch tI))):=by
 have hp':List.length x≤1048576:=hp
 delta t_s_DrawShares c_s_l1New c_s_l6Model c_s_l6AnyBatch c_s_l1Below;refine vcx ?_;try with_reducible exact True.intro
 (refine dcx ?_;try with_reducible exact True.intro)
 refine ⟨hp',fun hc=>⟨Int.le_refl _,fun _=>?_⟩⟩
 have q1:=q_s_l6Model (newCur x) hc (Int.le_refl _)
 generalize f_s_l6Model (newCur x)=r at q1 ⊢;obtain ⟨m1,c1⟩:=r;obtain ⟨kq1,uq1⟩:=q1;dsimp only at uq1 ⊢
 refine ⟨uq1.2.2.2,fun _=>?_⟩
 have q2:=(q_s_l6AnyBatch (c1,m1) ⟨kq1.2,kq1.1⟩ uq1.2.2.2).2
 generalize f_s_l6AnyBatch (c1,m1)=r at q2 ⊢;obtain ⟨b2,c2⟩:=r;dsimp only at q2 ⊢
 exact ⟨q2.2.2,fun _=>⟨q2.1,q2.2.1⟩⟩
theorem d_s_DrawShares:∃ f:(List Int)→(BatchD × Int),(∀ x,okD (.slice 5 (.int .u8)) x→(fun x=>x.length≤1048576) x→(fun x r=>r.1.length≤6∧(∀ p∈r.1,p.1.length≤7∧p.2.length≤7):(List Int)→(BatchD × Int)→Prop) x (f x))∧Con.Holds Try.prog { k_s_DrawShares with fn:=f }:=rel_ok (C:=k_s_DrawShares) mixedP (consAt h_s_l1New (consAt h_s_l6Model (consAt h_s_l6AnyBatch (consAt h_s_l1Below consNil)))) e_s_DrawShares (fun x r=>r.1.length≤6∧(∀ p∈r.1,p.1.length≤7∧p.2.length≤7):(List Int)→(BatchD × Int)→Prop) fun x hx hp=>v_s_DrawShares x hx hp
noncomputable def f_s_DrawShares:(List Int)→(BatchD × Int):=Classical.choose d_s_DrawShares
noncomputable def c_s_DrawShares:Con:=⟨11,(.slice 5 (.int .u8)),(.pair tBatch tI),[.val ⟨false,(.slice 5 (.int .u8)),[]⟩],[⟨false,tBatch,[0]⟩,⟨false,tI,[0]⟩],false,none,
 ((fun x=>x.length≤1048576):(List Int)→Prop),
 ((f_s_DrawShares):(List Int)→(BatchD × Int))⟩
theorem p_s_DrawShares:∀ x,okD (.slice 5 (.int .u8)) x→(fun x=>x.length≤1048576) x→(fun x r=>r.1.length≤6∧(∀ p∈r.1,p.1.length≤7∧p.2.length≤7):(List Int)→(BatchD × Int)→Prop) x (f_s_DrawShares x):=(Classical.choose_spec d_s_DrawShares).1
theorem h_s_DrawShares:Con.Holds Try.prog c_s_DrawShares:=(Classical.choose_spec d_s_DrawShares).2
theorem q_s_DrawShares (x:List Int) (hx:okD (.slice 5 (.int .u8)) x) (hp:(fun x=>x.length≤1048576) x):okD (.pair tBatch tI) (f_s_DrawShares x)∧(fun x r=>r.1.length≤6∧(∀ p∈r.1,p.1.length≤7∧p.2.length≤7):(List Int)→(BatchD × Int)→Prop) x (f_s_DrawShares x):=⟨h_s_DrawShares.ok x hp hx,p_s_DrawShares x hx hp⟩

/-! laws.big -/

noncomputable def c_w_big:Con:=⟨10,(.slice 5 (.int .u8)),.bool,[.val ⟨false,(.slice 5 (.int .u8)),[]⟩],[⟨false,.bool,[0]⟩],false,none,
 ((fun _=>True):(List Int)→Prop),
 ((fun x=>decide (1048576<x.length)):(List Int)→(Bool))⟩
def t_w_big:T:=.prim (.llen 5 (.int .u8)) (.vr 0) <|.prim (.cmp .gtr .i64) (.mk2 tI tI (.vr 1) (.ci .i64 1048576)) <|.ret (.vr 2)
set_option maxRecDepth 100000 in
theorem e_w_big:exFn Try.prog [] c_w_big false 3000 ⟨[],[]⟩ = .ok t_w_big:=by kernel_rfl
theorem v_w_big (x:List Int) (hx:okD (.slice 5 (.int .u8)) x) (hp:(fun _=>True) x):t_w_big.wp [] [⟨(.slice 5 (.int .u8)),x⟩] [] (fun v=>v.as .bool=(fun x=>decide (1048576<x.length)) x):=by
 delta t_w_big;refine vcx ?_;try with_reducible exact True.intro
 (refine dcx ?_;try with_reducible exact True.intro)
 intro _
 rw[decide_eq_decide];omega
theorem h_w_big:Con.Holds Try.prog c_w_big:=tree_ok mixedP consNil e_w_big fun x hx hp=>v_w_big x hx hp

/-! laws.sameInts -/

noncomputable def c_w_sameInts:Con:=⟨13,tPair,.bool,[.val ⟨false,tInts,[]⟩,.val ⟨false,tInts,[]⟩],[⟨false,.bool,[0]⟩],false,none,
 ((fun x=>x.1=x.2):(PairD)→Prop),
 ((fun _=>true):(PairD)→(Bool))⟩
def t_w_sameInts:T:=.prim (.llen 3 tI) (.p1 tInts tInts (.vr 0)) <|.prim (.llen 3 tI) (prA tPair 1 (.vr 0)) <|.prim (.cmp .neq .i64) (.mk2 tI tI (.vr 1) (.vr 2)) <|.ite (.vr 3) (.ret (.cb false)) (.loop tI (.ci .i64 0) <|.prim (.llen 3 tI) (.p1 tInts tInts (.vr 0)) <|.prim (.cmp .lss .i64) (.mk2 tI tI (.vr 4) (.vr 5)) <|.ite (.vr 6) (.prim (.lidx 3 tI) (.mk2 tInts tI (.p1 tInts tInts (.vr 0)) (.vr 4)) <|.prim (.lidx 3 tI) (.mk2 tInts tI (prA tPair 1 (.vr 0)) (.vr 4)) <|.prim (.cmp .neq .i64) (.mk2 tI tI (.vr 7) (.vr 8)) <|.ite (.vr 9) (.ret (.cb false)) (.prim (.ar .add .i64) (.mk2 tI tI (.vr 4) (.ci .i64 1)) <|.again 0 (.vr 10))) (.ret (.cb true)))
set_option maxRecDepth 100000 in
theorem e_w_sameInts:exFn Try.prog [] c_w_sameInts false 3000 ⟨[(2988,2004,drd 10 6++[.tm 5 0])],[]⟩ = .ok t_w_sameInts:=by kernel_rfl
/- loops: Int -/
theorem v_w_sameInts (x:PairD) (hx:okD tPair x) (hp:(fun x=>x.1=x.2) x):t_w_sameInts.wp [] [⟨tPair,x⟩] [] (fun v=>v.as .bool=(fun _=>true) x):=by
 obtain ⟨a,b⟩:=x
 obtain rfl:a=b:=hp
 have hl:=lenM (show List.length a≤maxLen from hx.1.1)
 delta t_w_sameInts;refine vcx ?_;try with_reducible exact True.intro
 (refine dcx ?_;try with_reducible exact True.intro)
 refine fun _ _=>⟨fun h=>absurd trivial h,fun _=>loopF (fun k=>(k:Int)) a.length rfl fun I μ k hk _ go=>?_⟩
 try dsimp only
 (refine dcx ?_;try with_reducible exact True.intro)
 refine fun _=>⟨fun hlt=>?_,fun hge=>trivial⟩
 have hk':k<a.length:=by omega
 (repeat' first|intro _|(refine go2 _ ?_ ?_ ?_)|(refine go2 _ ?_ ?_)|(refine go _ ?_ ?_ ?_)|(refine go _ ?_ ?_)|(with_reducible apply And.intro))
 all_goals first|omega|rfl|trivial|(exfalso;simp_all;done)|skip
theorem h_w_sameInts:Con.Holds Try.prog c_w_sameInts:=tree_ok mixedP consNil e_w_sameInts fun x hx hp=>v_w_sameInts x hx hp

/-! impl.copyPairs -/

noncomputable def c_i_copyPairs:Con:=⟨60,tBatch,tBatch,[.val ⟨false,tBatch,[]⟩],[⟨false,tBatch,[2]⟩],false,none,
 ((fun x=>x.length≤1000000∧∀ p∈x,p.1.length≤1000000∧p.2.length≤1000000):(BatchD)→Prop),
 ((fun x=>x):(BatchD)→(BatchD))⟩
def t_i_copyPairs:T:=.prim (.llen 34 tPair) (.vr 0) <|.loop (.pair tI tBatch) (.mk2 tI tBatch (.ci .i64 0) (.nl 34 tPair)) <|.prim (.cmp .lss .i64) (.mk2 tI tI (.p1 tI tBatch (.vr 2)) (.vr 1)) <|.ite (.vr 3) (.prim (.lidx 34 tPair) (.mk2 tBatch tI (.vr 0) (.p1 tI tBatch (.vr 2))) <|.call 0 (.p1 tInts tInts (.vr 4)) <|.call 0 (prA tPair 1 (.vr 4)) <|.prim (.lit 34 tPair 1) (.mk2 tInts tInts (.vr 5) (.vr 6)) <|.prim (.lapp 34 tPair 48) (.mk2 tBatch tBatch (prA (.pair tI tBatch) 1 (.vr 2)) (.vr 7)) <|.prim (.ar .add .i64) (.mk2 tI tI (.p1 tI tBatch (.vr 2)) (.ci .i64 1)) <|.again 0 (.mk2 tI tBatch (.vr 9) (.vr 8))) (.ret (prA (.pair tI tBatch) 1 (.vr 2)))
set_option maxRecDepth 100000 in
theorem e_i_copyPairs:exFn Try.prog [c_i_copyInts] c_i_copyPairs false 3000 ⟨[(2991,1002,[.dr 6,.dr 0,.tm 9 0,.on 3,.sl 1])],[(2981,3005,[19,16],[])]⟩ = .ok t_i_copyPairs:=by kernel_rfl
/- loops: (Int) × (List ((List (Int)) × (List (Int)))) -/
theorem v_i_copyPairs (x:BatchD) (hx:okD tBatch x) (hp:(fun x=>x.length≤1000000∧∀ p∈x,p.1.length≤1000000∧p.2.length≤1000000) x):t_i_copyPairs.wp [c_i_copyInts] [⟨tBatch,x⟩] [] (fun v=>v.as tBatch=(fun x=>x) x):=by
 obtain ⟨h1,h2⟩:x.length≤1000000∧∀ p∈x,p.1.length≤1000000∧p.2.length≤1000000:=hp
 delta t_i_copyPairs c_i_copyInts;refine vcx ?_;try with_reducible exact True.intro
 refine fun _=>loopF (fun k=>((k:Int),x.take k)) x.length rfl fun I μ k hk _ go=>?_
 try dsimp only
 (refine dcx ?_;try with_reducible exact True.intro)
 have hl:(x.take k).length=k:=by rw[List.length_take];omega
 refine ⟨fun hlt=>?_,fun hge=>?_⟩
 ·have hk':k<x.length:=by omega
  have ho:=h2 (x[k]'hk') (List.getElem_mem hk')
  rw[getD_at hk',hl]
  (repeat' first|intro _|(refine go2 _ ?_ ?_ ?_)|(refine go2 _ ?_ ?_)|(refine go _ ?_ ?_ ?_)|(refine go _ ?_ ?_)|(with_reducible apply And.intro))
  all_goals first|omega|(unfold maxLen;omega)|exact pk (take_at hk')
 ·have:k=x.length:=by omega
  subst this
  rw[List.take_length]
theorem h_i_copyPairs:Con.Holds Try.prog c_i_copyPairs:=tree_ok mixedP (consAt h_i_copyInts consNil) e_i_copyPairs fun x hx hp=>v_i_copyPairs x hx hp

/-! impl.Shares -/

noncomputable def c_i_Shares:Con:=⟨12,(.pair tBatch tI),(.slice 30 tBatch),[.val ⟨false,tBatch,[]⟩,.val ⟨false,tI,[]⟩],[⟨false,(.slice 30 tBatch),[2]⟩],false,none,
 ((fun x=>x.1.length≤1000∧∀ p∈x.1,p.1.length≤1000∧p.2.length≤1000):(BatchD × Int)→Prop),
 ((fun x=>sharesF x.1 x.2):(BatchD × Int)→(List BatchD))⟩
def t_i_Shares:T:=.prim (.cmp .lss .i64) (.mk2 tI tI (prA (.pair tBatch tI) 1 (.vr 0)) (.ci .i64 1)) <|.ite (.vr 1) (.ret (.nl 30 tBatch)) (.prim (.cmp .gtr .i64) (.mk2 tI tI (prA (.pair tBatch tI) 1 (.vr 0)) (.ci .i64 4)) <|.ite (.vr 2) (.ret (.nl 30 tBatch)) (.loop (.pair tI (.pair tI (.slice 30 tBatch))) (mkA (.pair tI (.pair tI (.slice 30 tBatch))) [(.ci .i64 0),(.ci .i64 0),(.nl 30 tBatch)]) <|.prim (.cmp .lss .i64) (.mk2 tI tI (.p1 tI (.pair tI (.slice 30 tBatch)) (.vr 3)) (prA (.pair tBatch tI) 1 (.vr 0))) <|.ite (.vr 4) (.prim (.llen 34 tPair) (.p1 tBatch tI (.vr 0)) <|.prim (.quo .i64) (.mk2 tI tI (.vr 5) (prA (.pair tBatch tI) 1 (.vr 0))) <|.prim (.ar .add .i64) (.mk2 tI tI (pjA (.pair tI (.pair tI (.slice 30 tBatch))) 1 (.vr 3)) (.vr 6)) <|.prim (.llen 34 tPair) (.p1 tBatch tI (.vr 0)) <|.prim (.rem .i64) (.mk2 tI tI (.vr 8) (prA (.pair tBatch tI) 1 (.vr 0))) <|.prim (.cmp .lss .i64) (.mk2 tI tI (.p1 tI (.pair tI (.slice 30 tBatch)) (.vr 3)) (.vr 9)) <|.ite (.vr 10) (.prim (.ar .add .i64) (.mk2 tI tI (.vr 7) (.ci .i64 1)) <|.prim (.lsub 34 tPair) (mkA (.pair tBatch tIns) [(.p1 tBatch tI (.vr 0)),(pjA (.pair tI (.pair tI (.slice 30 tBatch))) 1 (.vr 3)),(.vr 11)]) <|.call 0 (.vr 12) <|.prim (.lit 30 tBatch 1) (.vr 13) <|.prim (.lapp 30 tBatch 24) (.mk2 (.slice 30 tBatch) (.slice 30 tBatch) (prA (.pair tI (.pair tI (.slice 30 tBatch))) 2 (.vr 3)) (.vr 14)) <|.prim (.ar .add .i64) (.mk2 tI tI (.p1 tI (.pair tI (.slice 30 tBatch)) (.vr 3)) (.ci .i64 1)) <|.again 0 (mkA (.pair tI (.pair tI (.slice 30 tBatch))) [(.vr 16),(.vr 11),(.vr 15)])) (.prim (.lsub 34 tPair) (mkA (.pair tBatch tIns) [(.p1 tBatch tI (.vr 0)),(pjA (.pair tI (.pair tI (.slice 30 tBatch))) 1 (.vr 3)),(.vr 7)]) <|.call 0 (.vr 11) <|.prim (.lit 30 tBatch 1) (.vr 12) <|.prim (.lapp 30 tBatch 24) (.mk2 (.slice 30 tBatch) (.slice 30 tBatch) (prA (.pair tI (.pair tI (.slice 30 tBatch))) 2 (.vr 3)) (.vr 13)) <|.prim (.ar .add .i64) (.mk2 tI tI (.p1 tI (.pair tI (.slice 30 tBatch)) (.vr 3)) (.ci .i64 1)) <|.again 0 (mkA (.pair tI (.pair tI (.slice 30 tBatch))) [(.vr 15),(.vr 7),(.vr 14)]))) (.ret (prA (.pair tI (.pair tI (.slice 30 tBatch))) 2 (.vr 3)))))
set_option maxRecDepth 100000 in
theorem e_i_Shares:exFn Try.prog [c_i_copyPairs] c_i_Shares false 3000 ⟨[(2984,4003,drd 15 9++[.tm 7 0,.tm 6 0,.on 5,.sl 1])],[(2968,28012,[40],[]),(2968,20011,[40],[])]⟩ = .ok t_i_Shares:=by kernel_rfl
/- loops: (Int) × ((Int) × (List (List ((List (Int)) × (List (Int)))))) -/
theorem v_i_Shares (x:BatchD × Int) (hx:okD (.pair tBatch tI) x) (hp:(fun x=>x.1.length≤1000∧∀ p∈x.1,p.1.length≤1000∧p.2.length≤1000) x):t_i_Shares.wp [c_i_copyPairs] [⟨(.pair tBatch tI),x⟩] [] (fun v=>v.as (.slice 30 tBatch)=(fun x=>sharesF x.1 x.2) x):=by
 obtain ⟨l,n⟩:=x
 obtain ⟨h1,h2⟩:l.length≤1000∧∀ p∈l,p.1.length≤1000∧p.2.length≤1000:=hp
 change List PairD at l
 delta t_i_Shares c_i_copyPairs;refine vcx ?_;try with_reducible exact True.intro
 (refine dcx ?_;try with_reducible exact True.intro)
 unfold sharesF
 try dsimp only
 refine ⟨fun h=>by rw[if_pos (by omega)],fun h=>⟨fun h'=>by rw[if_pos (by omega)],fun h'=>?_⟩⟩
 rw[if_neg (by omega)]
 obtain ⟨N,rfl⟩:∃ N:Nat,n=(N:Int):=⟨n.toNat,by omega⟩
 rw[Int.toNat_natCast]
 have hN:1≤N:=by omega
 refine loopF (fun k=>((k:Int),((offS (l.length / N) (l.length % N) k:Nat):Int),mp k (segS l N))) N rfl fun I μ k hk _ go=>?_
 try dsimp only
 (refine dcx ?_;try with_reducible exact True.intro)
 rw[nd_t,nd_m]
 have hq:l.length / N≤l.length:=Nat.div_le_self _ _
 have hq0:(0:Int)≤((l.length / N:Nat):Int):=Int.natCast_nonneg _
 have e0:=offS_le (L:=l.length) (N:=N) (i:=k) hN hk
 have eS:offS (l.length / N) (l.length % N) (k+1)=offS (l.length / N) (l.length % N) k+l.length / N+(if k<l.length % N then 1 else 0):=rfl
 have hm:(mp k (segS l N)).length=k:=mp_len _ _
 refine ⟨fun hlt=>?_,fun hge=>?_⟩
 ·have hk':k<N:=by omega
  have e1:=offS_le (L:=l.length) (N:=N) (i:=k+1) hN hk'
  have hseg:∀ p∈segS l N k,List.length p.1≤1000000∧List.length p.2≤1000000:=fun p hp=>by have:=h2 p (segS_mem p hp);omega
  have hsl:(segS l N k).length≤1000000:=by rw[segS_len hN hk'];split <;> omega
  have en:((mp k (segS l N))++[segS l N k]:List (List PairD))=mp (k+1) (segS l N):=(mp_succ _ _).symm
  by_cases hr:k<l.length % N
  ·rw[if_pos hr] at eS
   have ez:((offS (l.length / N) (l.length % N) k:Nat):Int)+((l.length / N:Nat):Int)+1=((offS (l.length / N) (l.length % N) (k+1):Nat):Int):=by rw[eS];push_cast;rfl
   have es:List.drop (offS (l.length / N) (l.length % N) k) (List.take (((offS (l.length / N) (l.length % N) k:Nat):Int)+((l.length / N:Nat):Int)+1).toNat l)=segS l N k:=by
    rw[ez,Int.toNat_natCast]
    rfl
   rw[es,hm]
   (repeat' first|intro _|(refine go2 _ ?_ ?_ ?_)|(refine go2 _ ?_ ?_)|(refine go _ ?_ ?_ ?_)|(refine go _ ?_ ?_)|(with_reducible apply And.intro))
   all_goals first|omega|exact hsl|exact (hseg _ (by assumption)).1|exact (hseg _ (by assumption)).2|(unfold maxLen;omega)|(exfalso;omega)|exact pk2 ez en
  ·rw[if_neg hr] at eS
   have ez:((offS (l.length / N) (l.length % N) k:Nat):Int)+((l.length / N:Nat):Int)=((offS (l.length / N) (l.length % N) (k+1):Nat):Int):=by rw[eS];push_cast;omega
   have es:List.drop (offS (l.length / N) (l.length % N) k) (List.take (((offS (l.length / N) (l.length % N) k:Nat):Int)+((l.length / N:Nat):Int)).toNat l)=segS l N k:=by
    rw[ez,Int.toNat_natCast]
    rfl
   rw[es,hm]
   (repeat' first|intro _|(refine go2 _ ?_ ?_ ?_)|(refine go2 _ ?_ ?_)|(refine go _ ?_ ?_ ?_)|(refine go _ ?_ ?_)|(with_reducible apply And.intro))
   all_goals first|omega|exact hsl|exact (hseg _ (by assumption)).1|exact (hseg _ (by assumption)).2|(unfold maxLen;omega)|(exfalso;omega)|exact pk2 ez en
 ·have:k=N:=by omega
  subst this
  rfl
theorem h_i_Shares:Con.Holds Try.prog c_i_Shares:=tree_ok mixedP (consAt h_i_copyPairs consNil) e_i_Shares fun x hx hp=>v_i_Shares x hx hp
end Go.Proofs.Ytahggdiafncdhaa
