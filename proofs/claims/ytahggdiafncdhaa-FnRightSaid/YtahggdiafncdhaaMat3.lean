/- Mat3: trees, and what they say. -/
import Derived.Test.YtahggdiafncdhaaLin2
namespace Go.Proofs.Ytahggdiafncdhaa
open Go.ChangeShapes Go.WideShapes Go.ChangeAt Go.RowKit Go.Deep
set_option linter.unusedVariables false
set_option linter.unusedSimpArgs false
abbrev MatD:=Int × (Int × List Int)
def matB (m:MatD):Bool:=decide (1≤m.1∧m.1≤6∧1≤m.2.1∧m.2.1≤6∧(m.2.2.length:Int)=m.1 * m.2.1)&&m.2.2.all fixB
theorem matB_iff (m:MatD):matB m=true↔(1≤m.1∧m.1≤6∧1≤m.2.1∧m.2.1≤6∧(m.2.2.length:Int)=m.1 * m.2.1)∧m.2.2.all fixB=true:=by unfold matB;simp only[Bool.and_eq_true,decide_eq_true_eq]
def rowOf (m:MatD) (i:Nat):List Int:=(m.2.2.take ((i+1) * m.2.1.toNat)).drop (i * m.2.1.toNat)
def colOf (m:MatD) (k:Nat):List Int:=mp m.1.toNat fun i=>m.2.2.getD (i * m.2.1.toNat+k) 0
def matVec (m:MatD) (x:List Int):List Int × Bool:=if matB m=true∧vecN x m.2.1=true then (mp m.1.toNat fun r=>(vecDot (rowOf m r) x).1,an m.1.toNat fun r=>(vecDot (rowOf m r) x).2) else ([],false)
def matBack (m:MatD) (d:List Int):List Int × Bool:=if matB m=true∧vecN d m.1=true then (mp m.2.1.toNat fun k=>(vecDot (colOf m k) d).1,an m.2.1.toNat fun k=>(vecDot (colOf m k) d).2) else ([],false)
def zMat:MatD:=(0,0,[])
def catK (f:Nat→List Int):Nat→List Int
 | 0=>[]
 | n+1=>catK f n++f n
def transp (m:MatD):MatD:=if matB m=true then (m.2.1,m.1,catK (colOf m) m.2.1.toNat) else zMat
def outRow (d x:List Int) (i:Nat):List Int:=mp x.length fun j=>(fixMul (d.getD i 0) (x.getD j 0)).1
def outAny (d x:List Int) (i:Nat):Bool:=an x.length fun j=>(fixMul (d.getD i 0) (x.getD j 0)).2
def outer (d x:List Int):MatD × Bool:=if vecB d=true∧vecB x=true then (((d.length:Int),(x.length:Int),catK (outRow d x) d.length),an d.length (outAny d x)) else (zMat,false)
def opMat (o:OpD):MatD:=(o.2.2.1,o.2.1,o.2.2.2)
def opFwd (o:OpD) (x:List Int):List Int × Bool:=if ¬ (opB o=true∧vecN x o.2.1=true) then ([],false) else
 if o.1=1 then matVec (opMat o) x else if o.1=2 then vecZ fixAdd x o.2.2.2 else if o.1=4 then vecS1 (o.2.2.2.getD 0 0) x else
 if o.1=5 then ((vecZ fixAdd x (matVec (opMat o) x).1).1,(matVec (opMat o) x).2 || (vecZ fixAdd x (matVec (opMat o) x).1).2) else (vecRelu x,false)
def opBwd (o:OpD) (x d:List Int):List Int × (List Int × Bool):=if ¬ (opB o=true∧vecN x o.2.1=true∧vecN d o.2.2.1=true) then ([],[],false) else
 if o.1=1 then ((matBack (opMat o) d).1,(outer d x).1.2.2,(matBack (opMat o) d).2 || (outer d x).2) else
 if o.1=2 then (d,d,false) else
 if o.1=4 then ((vecS1 (o.2.2.2.getD 0 0) d).1,[(vecDot d x).1],(vecS1 (o.2.2.2.getD 0 0) d).2 || (vecDot d x).2) else
 if o.1=5 then ((vecZ fixAdd d (matBack (opMat o) d).1).1,(outer d x).1.2.2,(matBack (opMat o) d).2 || (vecZ fixAdd d (matBack (opMat o) d).1).2 || (outer d x).2) else
 (vecMask x d,[],false)
theorem mat_shape {m:MatD} (h:matB m=true):∃ (R C:Nat) (data:List Int),m=((R:Int),(C:Int),data)∧1≤R∧R≤6∧1≤C∧C≤6∧data.length=R * C∧R * C≤36∧data.all fixB=true:=by
 obtain ⟨a,b,data⟩:=m
 obtain ⟨⟨h1,h2,h3,h4,h5⟩,h6⟩:=(matB_iff _).1 h
 dsimp only at h1 h2 h3 h4 h5 h6
 refine ⟨a.toNat,b.toNat,data,?_,by omega,by omega,by omega,by omega,?_,Nat.le_trans (Nat.mul_le_mul (show a.toNat≤6 by omega) (show b.toNat≤6 by omega)) (by decide),h6⟩
 ·rw[Int.toNat_of_nonneg (by omega),Int.toNat_of_nonneg (by omega)]
 ·have:((a.toNat * b.toNat:Nat):Int)=a * b:=by rw[Int.natCast_mul,Int.toNat_of_nonneg (by omega),Int.toNat_of_nonneg (by omega)]
  omega
theorem mulI36 {a b:Int} (h1:1≤a) (h2:a≤6) (h3:1≤b) (h4:b≤6) {lo hi:Int} (hl:lo≤0:=by decide) (hh:36≤hi:=by decide):lo≤a * b∧a * b≤hi:=by
 have:=mul_b h1 h2 h3 h4;omega
theorem row_in {R C k:Nat} (h:k<R):k * C+C≤R * C:=by
 have:=Nat.mul_le_mul_right C (show k+1≤R from h)
 rwa [Nat.succ_mul] at this
theorem rowOf_at (R C k p:Nat) (data:List Int) (e:p=k * C):rowOf ((R:Int),(C:Int),data) k=(data.take (p+C)).drop p:=by
 unfold rowOf;simp only[Int.toNat_natCast,Nat.succ_mul,← e]
theorem catK_len {f:Nat→List Int} {L:Nat} (h:∀ i,(f i).length=L):(n:Nat)→(catK f n).length=n * L
 | 0=>by simp[catK]
 | n+1=>by rw[catK,List.length_append,catK_len h n,h,Nat.succ_mul]
theorem catK_block {f:Nat→List Int} {L:Nat} (h:∀ i,(f i).length=L) {k:Nat}:(n:Nat)→k<n→((catK f n).take (k * L+L)).drop (k * L)=f k
 | 0,hk=>by omega
 | n+1,hk=>by
  have hl:=catK_len h n
  rcases Nat.lt_or_eq_of_le (Nat.le_of_lt_succ hk) with h'|rfl
  ·have h1:=row_in (C:=L) h'
   rw[catK,List.take_append_of_le_length (by omega)]
   exact catK_block h n h'
  ·rw[catK,List.take_of_length_le (by rw[List.length_append,hl,h];exact Nat.le_refl _),List.drop_append_of_le_length (by omega),List.drop_of_length_le (by omega),List.nil_append]
theorem colOf_len (m:MatD) (k:Nat):(colOf m k).length=m.1.toNat:=mp_len _ _
theorem mem_catK {f:Nat→List Int} {x:Int}:(n:Nat)→x∈catK f n→∃ k,k<n∧x∈f k
 | 0,h=>by simp[catK] at h
 | n+1,h=>by
  rw[catK,List.mem_append] at h
  rcases h with h|h
  ·obtain ⟨k,h1,h2⟩:=mem_catK n h;exact ⟨k,by omega,h2⟩
  ·exact ⟨n,by omega,h⟩
theorem transp_ok {m:MatD} (h:matB m=true):matB (transp m)=true∧∀ k,k<m.2.1.toNat→rowOf (transp m) k=colOf m k:=by
 obtain ⟨R,C,data,rfl,h1,h2,h3,h4,h5,h6,h7⟩:=mat_shape h
 have e:transp ((R:Int),(C:Int),data)=((C:Int),(R:Int),catK (colOf ((R:Int),(C:Int),data)) C):=if_pos h
 have hl:∀ i,(colOf ((R:Int),(C:Int),data) i).length=R:=fun i=>colOf_len _ _
 constructor
 ·rw[e,matB_iff]
  refine ⟨⟨?_,?_,?_,?_,?_⟩,?_⟩
  ·dsimp only;omega
  ·dsimp only;omega
  ·dsimp only;omega
  ·dsimp only;omega
  ·dsimp only;rw[catK_len hl,Int.natCast_mul]
  ·rw[List.all_eq_true]
   intro x hx
   obtain ⟨k,hk,hx⟩:=mem_catK _ hx
   unfold colOf mp at hx
   rw[List.mem_map] at hx
   obtain ⟨i,hi,rfl⟩:=hx
   rw[List.mem_range] at hi
   dsimp only [Int.toNat_natCast] at hi ⊢
   have hb:=row_in (C:=C) hi
   rw[getD_at (show i * C+k<data.length by omega)]
   exact (List.all_eq_true.1 h7) _ (List.getElem_mem _)
 ·intro k hk
  rw[e,rowOf_at C R k (k * R) _ rfl]
  exact catK_block hl C hk
theorem back_eq {m:MatD} {d:List Int} (h:matB m=true) (h2:vecN d m.1=true):matVec (transp m) d=matBack m d:=by
 obtain ⟨t1,t2⟩:=transp_ok h
 have e1:(transp m).2.1=m.1:=by unfold transp;rw[if_pos h]
 have e2:(transp m).1=m.2.1:=by unfold transp;rw[if_pos h]
 unfold matVec matBack
 rw[if_pos ⟨t1,by rw[e1];exact h2⟩,if_pos ⟨h,h2⟩,e2]
 exact Prod.ext (mp_cong fun i hi=>by rw[t2 i hi]) (an_cong fun i hi=>by rw[t2 i hi])
theorem op4_len {o:OpD} (h:opB o=true) (h4:o.1=4):o.2.2.2.length=1:=by
 have:=((opB_iff o).1 h).1
 have e:=opSize_1 (o:=o) (by omega)
 omega

/-! impl.MatOk -/

noncomputable def c_i_MatOk:Con:=⟨169,(.pair tI tItem),.bool,[.val ⟨true,(.pair tI tItem),[]⟩],[⟨false,.bool,[0]⟩],false,none,
 ((fun _=>True):(Int × ItemD)→Prop),
 ((fun x=>matB x):(Int × ItemD)→(Bool))⟩
def t_i_MatOk:T:=.prim (.cmp .lss .i64) (.mk2 tI tI (.p1 tI tItem (.vr 0)) (.ci .i64 1)) <|.ite (.vr 1) (.ret (.cb false)) (.prim (.cmp .gtr .i64) (.mk2 tI tI (.p1 tI tItem (.vr 0)) (.ci .i64 6)) <|.ite (.vr 2) (.ret (.cb false)) (.prim (.cmp .lss .i64) (.mk2 tI tI (pjA (.pair tI tItem) 1 (.vr 0)) (.ci .i64 1)) <|.ite (.vr 3) (.ret (.cb false)) (.prim (.cmp .gtr .i64) (.mk2 tI tI (pjA (.pair tI tItem) 1 (.vr 0)) (.ci .i64 6)) <|.ite (.vr 4) (.ret (.cb false)) (.prim (.llen 3 tI) (prA (.pair tI tItem) 2 (.vr 0)) <|.prim (.ar .mul .i64) (.mk2 tI tI (.p1 tI tItem (.vr 0)) (pjA (.pair tI tItem) 1 (.vr 0))) <|.prim (.cmp .eql .i64) (.mk2 tI tI (.vr 5) (.vr 6)) <|.ite (.vr 7) (.call 0 (prA (.pair tI tItem) 2 (.vr 0)) <|.ret (.vr 8)) (.ret (.cb false))))))
set_option maxRecDepth 100000 in
theorem e_i_MatOk:exFn Try.prog [c_i_allFix] c_i_MatOk false 3000 ⟨[],[]⟩ = .ok t_i_MatOk:=by kernel_rfl
theorem v_i_MatOk (x:Int × ItemD) (hx:okD (.pair tI tItem) x) (hp:(fun _=>True) x):t_i_MatOk.wp [c_i_allFix] [⟨(.pair tI tItem),x⟩] [] (fun v=>v.as .bool=(fun x=>matB x) x):=by
 delta t_i_MatOk c_i_allFix;refine vcx ?_;try with_reducible exact True.intro
 (refine dcx ?_;try with_reducible exact True.intro)
 (repeat' first|intro _|(with_reducible apply And.intro))
 all_goals first|(first|(refine (Bool.eq_false_iff.2 ?_).symm;rw[ne_eq,matB_iff];intro hh;omega)|(refine (matB_iff.2 ?_).symm;omega))|(have:=mul_b (a:=x.1) (b:=x.2.1) (by omega) (by omega) (by omega) (by omega);omega)|(rw[Bool.eq_iff_iff,matB_iff];exact ⟨fun h=>⟨⟨by omega,by omega,by omega,by omega,by assumption⟩,h⟩,fun h=>h.2⟩)
theorem h_i_MatOk:Con.Holds Try.prog c_i_MatOk:=tree_ok mixedP (consAt h_i_allFix consNil) e_i_MatOk fun x hx hp=>v_i_MatOk x hx hp

/-! impl.MatVec -/

noncomputable def c_i_MatVec:Con:=⟨146,(.pair (.pair tI tItem) tInts),(.pair tInts .bool),[.val ⟨true,(.pair tI tItem),[]⟩,.val ⟨false,tInts,[]⟩],[⟨false,tInts,[2]⟩,⟨false,.bool,[0]⟩],false,none,
 ((fun _=>True):((Int × ItemD) × IntsD)→Prop),
 ((fun x=>matVec x.1 x.2):((Int × ItemD) × IntsD)→(IntsD × Bool))⟩
def t_i_MatVec:T:=.call 0 (.p1 (.pair tI tItem) tInts (.vr 0)) <|.prim .not (.vr 1) <|.ite (.vr 2) (.ret (.mk2 tInts .bool (.nl 3 tI) (.cb false))) (.call 1 (.mk2 tInts tI (prA (.pair (.pair tI tItem) tInts) 1 (.vr 0)) (pjA (.pair tI tItem) 1 (.p1 (.pair tI tItem) tInts (.vr 0)))) <|.prim .not (.vr 3) <|.ite (.vr 4) (.ret (.mk2 tInts .bool (.nl 3 tI) (.cb false))) (.loop (.pair tI (.pair .bool tInts)) (mkA (.pair tI (.pair .bool tInts)) [(.ci .i64 0),(.cb false),(.nl 3 tI)]) <|.prim (.cmp .lss .i64) (.mk2 tI tI (.p1 tI (.pair .bool tInts) (.vr 5)) (.p1 tI tItem (.p1 (.pair tI tItem) tInts (.vr 0)))) <|.ite (.vr 6) (.prim (.ar .mul .i64) (.mk2 tI tI (.p1 tI (.pair .bool tInts) (.vr 5)) (pjA (.pair tI tItem) 1 (.p1 (.pair tI tItem) tInts (.vr 0)))) <|.prim (.ar .add .i64) (.mk2 tI tI (.p1 tI (.pair .bool tInts) (.vr 5)) (.ci .i64 1)) <|.prim (.ar .mul .i64) (.mk2 tI tI (.vr 8) (pjA (.pair tI tItem) 1 (.p1 (.pair tI tItem) tInts (.vr 0)))) <|.prim (.lsub 3 tI) (mkA (.pair tInts tIns) [(prA (.pair tI tItem) 2 (.p1 (.pair tI tItem) tInts (.vr 0))),(.vr 7),(.vr 9)]) <|.call 2 (.mk2 tInts tInts (.vr 10) (prA (.pair (.pair tI tItem) tInts) 1 (.vr 0))) <|.prim (.lit 3 tI 1) (.p1 tI .bool (.vr 11)) <|.prim (.lapp 3 tI 8) (.mk2 tInts tInts (prA (.pair tI (.pair .bool tInts)) 2 (.vr 5)) (.vr 12)) <|.ite (pjA (.pair tI (.pair .bool tInts)) 1 (.vr 5)) (.prim (.ar .add .i64) (.mk2 tI tI (.p1 tI (.pair .bool tInts) (.vr 5)) (.ci .i64 1)) <|.again 0 (mkA (.pair tI (.pair .bool tInts)) [(.vr 14),(.cb true),(.vr 13)])) (.prim (.ar .add .i64) (.mk2 tI tI (.p1 tI (.pair .bool tInts) (.vr 5)) (.ci .i64 1)) <|.again 0 (mkA (.pair tI (.pair .bool tInts)) [(.vr 14),(prA (.pair tI .bool) 1 (.vr 11)),(.vr 13)]))) (.ret (.mk2 tInts .bool (prA (.pair tI (.pair .bool tInts)) 2 (.vr 5)) (pjA (.pair tI (.pair .bool tInts)) 1 (.vr 5))))))
set_option maxRecDepth 100000 in
theorem e_i_MatVec:exFn Try.prog [c_i_MatOk,c_i_vecOf,c_i_VecDot] c_i_MatVec false 3000 ⟨[(2984,4005,drd 21 11++[.dr 0,.tm 8 0,.tm 7 0,.on 6,.sl 2])],[]⟩ = .ok t_i_MatVec:=by kernel_rfl
/- loops: (Int) × ((Bool) × (List (Int))) -/
theorem v_i_MatVec (x:(Int × ItemD) × IntsD) (hx:okD (.pair (.pair tI tItem) tInts) x) (hp:(fun _=>True) x):t_i_MatVec.wp [c_i_MatOk,c_i_vecOf,c_i_VecDot] [⟨(.pair (.pair tI tItem) tInts),x⟩] [] (fun v=>v.as (.pair tInts .bool)=(fun x=>matVec x.1 x.2) x):=by
 obtain ⟨m,v⟩:=x
 delta t_i_MatVec c_i_MatOk c_i_vecOf c_i_VecDot;refine vcx ?_;try with_reducible exact True.intro
 simp only[Bool.not_eq_true',Bool.not_eq_false']
 refine ⟨fun h=>?_,fun h1=>⟨fun h=>?_,fun h2=>?_⟩⟩
 ·unfold matVec;rw[if_neg (by rw[h];simp)]
 ·unfold matVec;rw[if_neg (by rw[h];simp)]
 rw[show matVec m v=_ from if_pos ⟨h1,h2⟩]
 obtain ⟨R,C,data,rfl,g1,g2,g3,g4,g5,g6,g7⟩:=mat_shape h1
 refine loopF (fun k=>((k:Int),an k (fun r=>(vecDot (rowOf ((R:Int),(C:Int),data) r) v).2),mp k fun r=>(vecDot (rowOf ((R:Int),(C:Int),data) r) v).1)) R rfl fun I μ k hk _ go=>?_
 dsimp only
 obtain ⟨p,e0⟩:∃ p,p=k * C:=⟨_,rfl⟩
 have e1:(k:Int) * (C:Int)=(p:Int):=by rw[e0];exact (Int.natCast_mul k C).symm
 have e2:((k:Int)+1) * (C:Int)=((p+C:Nat):Int):=by rw[Int.add_mul,e1,Int.one_mul];rfl
 have e4:k<R→p+C≤data.length:=fun h=>by rw[e0,g5];exact row_in h
 simp only[e1,e2,Int.toNat_natCast,Bool.not_eq_true',Bool.not_eq_false',Bool.and_eq_true,Bool.and_eq_false_iff,decide_eq_true_eq,decide_eq_false_iff_not,Int.not_lt,Int.not_le,ge_iff_le,gt_iff_lt,List.length_cons,List.length_nil,List.length_append,Nat.zero_add,List.nil_append,beq_iff_eq,beq_eq_false_iff_ne,bne_iff_ne,bne_eq_false_iff_eq,ne_eq,toNat_pred,toNat_succ,toNat_l0,toNat_l1,mp_len,← rowOf_at R C k p data e0]
 (repeat' first|intro _|(refine go _ ?_ ?_ ?_)|(refine go _ ?_ ?_)|(with_reducible apply And.intro))
 all_goals first|omega|(unfold maxLen;omega)|(rw[mp_succ,an_succ];first|exact Prod.ext rfl (Prod.ext (or2_t (by assumption)) rfl)|exact Prod.ext rfl (Prod.ext (or2_f (by assumption)) rfl))|(have e:k=R:=(by omega);subst e;rfl)
theorem h_i_MatVec:Con.Holds Try.prog c_i_MatVec:=tree_ok mixedP (consAt h_i_MatOk (consAt h_i_vecOf (consAt h_i_VecDot consNil))) e_i_MatVec fun x hx hp=>v_i_MatVec x hx hp

/-! impl.Transpose -/

noncomputable def c_i_Transpose:Con:=⟨175,(.pair tI tItem),(.pair tI tItem),[.val ⟨true,(.pair tI tItem),[]⟩],[⟨true,(.pair tI tItem),[0,0,2]⟩],false,none,
 ((fun _=>True):(Int × ItemD)→Prop),
 ((fun x=>transp x):(Int × ItemD)→(Int × ItemD))⟩
def t_i_Transpose:T:=.call 0 (.vr 0) <|.prim .not (.vr 1) <|.ite (.vr 2) (.ret (mkA (.pair tI tItem) [(.ci .i64 0),(.ci .i64 0),(.nl 3 tI)])) (.loop tItem (.mk2 tI tInts (.ci .i64 0) (.nl 3 tI)) <|.prim (.cmp .lss .i64) (.mk2 tI tI (.p1 tI tInts (.vr 3)) (pjA (.pair tI tItem) 1 (.vr 0))) <|.ite (.vr 4) (.loop tItem (.mk2 tI tInts (.ci .i64 0) (prA tItem 1 (.vr 3))) <|.prim (.cmp .lss .i64) (.mk2 tI tI (.p1 tI tInts (.vr 5)) (.p1 tI tItem (.vr 0))) <|.ite (.vr 6) (.prim (.ar .mul .i64) (.mk2 tI tI (.p1 tI tInts (.vr 5)) (pjA (.pair tI tItem) 1 (.vr 0))) <|.prim (.ar .add .i64) (.mk2 tI tI (.vr 7) (.p1 tI tInts (.vr 3))) <|.prim (.lidx 3 tI) (.mk2 tInts tI (prA (.pair tI tItem) 2 (.vr 0)) (.vr 8)) <|.prim (.lit 3 tI 1) (.vr 9) <|.prim (.lapp 3 tI 8) (.mk2 tInts tInts (prA tItem 1 (.vr 5)) (.vr 10)) <|.prim (.ar .add .i64) (.mk2 tI tI (.p1 tI tInts (.vr 5)) (.ci .i64 1)) <|.again 0 (.mk2 tI tInts (.vr 12) (.vr 11))) (.prim (.ar .add .i64) (.mk2 tI tI (.p1 tI tInts (.vr 3)) (.ci .i64 1)) <|.again 1 (.mk2 tI tInts (.vr 7) (prA tItem 1 (.vr 5))))) (.ret (mkA (.pair tI tItem) [(pjA (.pair tI tItem) 1 (.vr 0)),(.p1 tI tItem (.vr 0)),(prA tItem 1 (.vr 3))])))
set_option maxRecDepth 100000 in
theorem e_i_Transpose:exFn Try.prog [c_i_MatOk] c_i_Transpose false 3000 ⟨[(2986,2003,drd 14 10++drd 8 6++[.dr 0,.tm 4 0,.sl 6]),(2975,6005,[.tm 5 0,.sl 6])],[]⟩ = .ok t_i_Transpose:=by kernel_rfl
/- loops: (Int) × (List (Int)) ¦ (Int) × (List (Int)) -/
theorem v_i_Transpose (x:Int × ItemD) (hx:okD (.pair tI tItem) x) (hp:(fun _=>True) x):t_i_Transpose.wp [c_i_MatOk] [⟨(.pair tI tItem),x⟩] [] (fun v=>v.as (.pair tI tItem)=(fun x=>transp x) x):=by
 obtain ⟨m,rfl⟩:∃ m,m=x:=⟨_,rfl⟩
 delta t_i_Transpose c_i_MatOk;refine vcx ?_;try with_reducible exact True.intro
 simp only[Bool.not_eq_true',Bool.not_eq_false']
 refine ⟨fun h=>?_,fun h1=>?_⟩
 ·unfold transp;rw[if_neg (by rw[h];exact Bool.false_ne_true)];rfl
 rw[show transp m=_ from if_pos h1]
 obtain ⟨R,C,data,rfl,g1,g2,g3,g4,g5,g6,g7⟩:=mat_shape h1
 refine loopF (fun c=>((c:Int),catK (colOf ((R:Int),(C:Int),data)) c)) C rfl fun I μ c hc _ go=>?_
 dsimp only
 (refine dcx ?_;try with_reducible exact True.intro)
 have hl:(catK (colOf ((R:Int),(C:Int),data)) c).length=c * R:=catK_len (fun i=>colOf_len _ _) c
 have hq:c * R≤36:=Nat.le_trans (Nat.mul_le_mul hc g2) (by omega)
 generalize hD:catK (colOf ((R:Int),(C:Int),data)) c=D at *
 constructor
 ·intro hlt
  refine loopF (fun r=>((r:Int),D++mp r fun i=>data.getD (i * C+c) 0)) R (by simp[mp_zero]) fun I2 μ2 k hk _ go2=>?_
  dsimp only
  obtain ⟨p,e0⟩:∃ p,p=k * C:=⟨_,rfl⟩
  have e1:(k:Int) * (C:Int)=(p:Int):=by rw[e0];exact (Int.natCast_mul k C).symm
  have e2:(p:Int)+(c:Int)=((p+c:Nat):Int):=rfl
  have e4:k<R→p+C≤data.length:=fun h=>by rw[e0,g5];exact row_in h
  simp only[e1,e2,Int.toNat_natCast,Bool.not_eq_true',Bool.not_eq_false',Bool.and_eq_true,Bool.and_eq_false_iff,decide_eq_true_eq,decide_eq_false_iff_not,Int.not_lt,Int.not_le,ge_iff_le,gt_iff_lt,List.length_cons,List.length_nil,List.length_append,Nat.zero_add,List.nil_append,beq_iff_eq,beq_eq_false_iff_ne,bne_iff_ne,bne_eq_false_iff_eq,ne_eq,toNat_pred,toNat_succ,toNat_l0,toNat_l1,mp_len]
  (repeat' first|intro _|(refine go2 _ ?_ ?_ ?_)|(refine go2 _ ?_ ?_)|(refine go _ ?_ ?_ ?_)|(refine go _ ?_ ?_)|(with_reducible apply And.intro))
  all_goals first|omega|(unfold maxLen;omega)|(rw[mp_succ,← List.append_assoc,← e0];rfl)|(have e:k=R:=(by omega);subst e;rw[catK,hD];rfl)
 ·intro hge
  have e:c=C:=by omega
  subst e
  rw[← hD]
theorem h_i_Transpose:Con.Holds Try.prog c_i_Transpose:=tree_ok mixedP (consAt h_i_MatOk consNil) e_i_Transpose fun x hx hp=>v_i_Transpose x hx hp

/-! impl.MatBack -/

noncomputable def c_i_MatBack:Con:=⟨171,(.pair (.pair tI tItem) tInts),(.pair tInts .bool),[.val ⟨true,(.pair tI tItem),[]⟩,.val ⟨false,tInts,[]⟩],[⟨false,tInts,[2]⟩,⟨false,.bool,[0]⟩],false,none,
 ((fun _=>True):((Int × ItemD) × IntsD)→Prop),
 ((fun x=>matBack x.1 x.2):((Int × ItemD) × IntsD)→(IntsD × Bool))⟩
def t_i_MatBack:T:=.call 0 (.p1 (.pair tI tItem) tInts (.vr 0)) <|.prim .not (.vr 1) <|.ite (.vr 2) (.ret (.mk2 tInts .bool (.nl 3 tI) (.cb false))) (.call 1 (.mk2 tInts tI (prA (.pair (.pair tI tItem) tInts) 1 (.vr 0)) (.p1 tI tItem (.p1 (.pair tI tItem) tInts (.vr 0)))) <|.prim .not (.vr 3) <|.ite (.vr 4) (.ret (.mk2 tInts .bool (.nl 3 tI) (.cb false))) (.call 2 (.p1 (.pair tI tItem) tInts (.vr 0)) <|.call 3 (.mk2 (.pair tI tItem) tInts (.vr 5) (prA (.pair (.pair tI tItem) tInts) 1 (.vr 0))) <|.ret (.vr 6)))
set_option maxRecDepth 100000 in
theorem e_i_MatBack:exFn Try.prog [c_i_MatOk,c_i_vecOf,c_i_Transpose,c_i_MatVec] c_i_MatBack false 3000 ⟨[],[]⟩ = .ok t_i_MatBack:=by kernel_rfl
theorem v_i_MatBack (x:(Int × ItemD) × IntsD) (hx:okD (.pair (.pair tI tItem) tInts) x) (hp:(fun _=>True) x):t_i_MatBack.wp [c_i_MatOk,c_i_vecOf,c_i_Transpose,c_i_MatVec] [⟨(.pair (.pair tI tItem) tInts),x⟩] [] (fun v=>v.as (.pair tInts .bool)=(fun x=>matBack x.1 x.2) x):=by
 obtain ⟨m,d⟩:=x
 delta t_i_MatBack c_i_MatOk c_i_vecOf c_i_Transpose c_i_MatVec;refine vcx ?_;try with_reducible exact True.intro
 simp only[Bool.not_eq_true',Bool.not_eq_false']
 refine ⟨fun h=>?_,fun h1=>⟨fun h=>?_,fun h2 _ _=>back_eq h1 h2⟩⟩
 ·unfold matBack;rw[if_neg (by rw[h];simp)]
 ·unfold matBack;rw[if_neg (by rw[h];simp)]
theorem h_i_MatBack:Con.Holds Try.prog c_i_MatBack:=tree_ok mixedP (consAt h_i_MatOk (consAt h_i_vecOf (consAt h_i_Transpose (consAt h_i_MatVec consNil)))) e_i_MatBack fun x hx hp=>v_i_MatBack x hx hp

/-! impl.Outer -/

noncomputable def c_i_Outer:Con:=⟨172,tPair,(.pair (.pair tI tItem) .bool),[.val ⟨false,tInts,[]⟩,.val ⟨false,tInts,[]⟩],[⟨true,(.pair tI tItem),[0,0,2]⟩,⟨false,.bool,[0]⟩],false,none,
 ((fun _=>True):(PairD)→Prop),
 ((fun x=>outer x.1 x.2):(PairD)→((Int × ItemD) × Bool))⟩
def t_i_Outer:T:=.call 0 (.p1 tInts tInts (.vr 0)) <|.prim .not (.vr 1) <|.ite (.vr 2) (.ret (.mk2 (.pair tI tItem) .bool (mkA (.pair tI tItem) [(.ci .i64 0),(.ci .i64 0),(.nl 3 tI)]) (.cb false))) (.call 0 (prA tPair 1 (.vr 0)) <|.prim .not (.vr 3) <|.ite (.vr 4) (.ret (.mk2 (.pair tI tItem) .bool (mkA (.pair tI tItem) [(.ci .i64 0),(.ci .i64 0),(.nl 3 tI)]) (.cb false))) (.prim (.llen 3 tI) (.p1 tInts tInts (.vr 0)) <|.prim (.llen 3 tI) (prA tPair 1 (.vr 0)) <|.prim (.llen 3 tI) (.p1 tInts tInts (.vr 0)) <|.loop (.pair tI (.pair .bool tInts)) (mkA (.pair tI (.pair .bool tInts)) [(.ci .i64 0),(.cb false),(.nl 3 tI)]) <|.prim (.cmp .lss .i64) (.mk2 tI tI (.p1 tI (.pair .bool tInts) (.vr 8)) (.vr 7)) <|.ite (.vr 9) (.prim (.lidx 3 tI) (.mk2 tInts tI (.p1 tInts tInts (.vr 0)) (.p1 tI (.pair .bool tInts) (.vr 8))) <|.prim (.llen 3 tI) (prA tPair 1 (.vr 0)) <|.loop (.pair tI (.pair .bool tInts)) (.mk2 tI (.pair .bool tInts) (.ci .i64 0) (prA (.pair tI (.pair .bool tInts)) 1 (.vr 8))) <|.prim (.cmp .lss .i64) (.mk2 tI tI (.p1 tI (.pair .bool tInts) (.vr 12)) (.vr 11)) <|.ite (.vr 13) (.prim (.lidx 3 tI) (.mk2 tInts tI (prA tPair 1 (.vr 0)) (.p1 tI (.pair .bool tInts) (.vr 12))) <|.call 1 (.mk2 tI tI (.vr 10) (.vr 14)) <|.prim (.lit 3 tI 1) (.p1 tI .bool (.vr 15)) <|.prim (.lapp 3 tI 8) (.mk2 tInts tInts (prA (.pair tI (.pair .bool tInts)) 2 (.vr 12)) (.vr 16)) <|.ite (pjA (.pair tI (.pair .bool tInts)) 1 (.vr 12)) (.prim (.ar .add .i64) (.mk2 tI tI (.p1 tI (.pair .bool tInts) (.vr 12)) (.ci .i64 1)) <|.again 0 (mkA (.pair tI (.pair .bool tInts)) [(.vr 18),(.cb true),(.vr 17)])) (.prim (.ar .add .i64) (.mk2 tI tI (.p1 tI (.pair .bool tInts) (.vr 12)) (.ci .i64 1)) <|.again 0 (mkA (.pair tI (.pair .bool tInts)) [(.vr 18),(prA (.pair tI .bool) 1 (.vr 15)),(.vr 17)]))) (.prim (.ar .add .i64) (.mk2 tI tI (.p1 tI (.pair .bool tInts) (.vr 8)) (.ci .i64 1)) <|.again 1 (.mk2 tI (.pair .bool tInts) (.vr 14) (prA (.pair tI (.pair .bool tInts)) 1 (.vr 12))))) (.ret (.mk2 (.pair tI tItem) .bool (mkA (.pair tI tItem) [(.vr 5),(.vr 6),(prA (.pair tI (.pair .bool tInts)) 2 (.vr 8))]) (pjA (.pair tI (.pair .bool tInts)) 1 (.vr 8))))))
set_option maxRecDepth 100000 in
theorem e_i_Outer:exFn Try.prog [c_i_VecOk,c_i_FixMul] c_i_Outer false 3000 ⟨[(2984,4008,drd 27 23++drd 21 14++[.dr 0,.tm 30 0,.tm 7 0,.sl 5]),(2971,12012,[.tm 36 0,.tm 7 0,.sl 5])],[]⟩ = .ok t_i_Outer:=by kernel_rfl
/- loops: (Int) × ((Bool) × (List (Int))) ¦ (Int) × ((Bool) × (List (Int))) -/
theorem v_i_Outer (x:PairD) (hx:okD tPair x) (hp:(fun _=>True) x):t_i_Outer.wp [c_i_VecOk,c_i_FixMul] [⟨tPair,x⟩] [] (fun v=>v.as (.pair (.pair tI tItem) .bool)=(fun x=>outer x.1 x.2) x):=by
 obtain ⟨d,v⟩:=x
 delta t_i_Outer c_i_VecOk c_i_FixMul;refine vcx ?_;try with_reducible exact True.intro
 simp only[Bool.not_eq_true',Bool.not_eq_false']
 refine ⟨fun h=>?_,fun h1=>⟨fun h=>?_,fun h2 _ _ _=>?_⟩⟩
 ·unfold outer;rw[if_neg (by rw[h];simp)];rfl
 ·unfold outer;rw[if_neg (by rw[h];simp)];rfl
 rw[show outer d v=_ from if_pos ⟨h1,h2⟩]
 have hd:=(vecB_iff d).1 h1
 have hv:=(vecB_iff v).1 h2
 refine loopF (fun i=>((i:Int),an i (outAny d v),catK (outRow d v) i)) d.length rfl fun I μ i hi _ go=>?_
 dsimp only
 (refine dcx ?_;try with_reducible exact True.intro)
 have hl:(catK (outRow d v) i).length=i * v.length:=catK_len (fun i=>mp_len _ _) i
 have hq:i * v.length≤36:=Nat.le_trans (Nat.mul_le_mul hi (show v.length≤6 by omega)) (by omega)
 generalize hD:catK (outRow d v) i=D at *
 generalize hA:an i (outAny d v)=A at *
 constructor
 ·intro hlt
  refine ⟨by omega,fun _ _=>?_⟩
  refine loopF (fun j=>((j:Int),A || an j (fun j=>(fixMul (d.getD i 0) (v.getD j 0)).2),D++mp j fun j=>(fixMul (d.getD i 0) (v.getD j 0)).1)) v.length (by simp[mp_zero,an_zero]) fun I2 μ2 j hj _ go2=>?_
  dsimp only
  simp only[Int.toNat_natCast,Bool.not_eq_true',Bool.not_eq_false',Bool.and_eq_true,Bool.and_eq_false_iff,decide_eq_true_eq,decide_eq_false_iff_not,Int.not_lt,Int.not_le,ge_iff_le,gt_iff_lt,List.length_cons,List.length_nil,List.length_append,Nat.zero_add,List.nil_append,beq_iff_eq,beq_eq_false_iff_ne,bne_iff_ne,bne_eq_false_iff_eq,ne_eq,toNat_pred,toNat_succ,toNat_l0,toNat_l1,mp_len]
  have ea:(A || an (j+1) (fun j=>(fixMul (d.getD i 0) (v.getD j 0)).2))=((A || an j (fun j=>(fixMul (d.getD i 0) (v.getD j 0)).2)) || (fixMul (d.getD i 0) (v.getD j 0)).2):=by rw[an_succ,Bool.or_assoc]
  (repeat' first|intro _|(refine go2 _ ?_ ?_ ?_)|(refine go2 _ ?_ ?_)|(refine go _ ?_ ?_ ?_)|(refine go _ ?_ ?_)|(with_reducible apply And.intro))
  all_goals first|omega|(unfold maxLen;omega)|(rw[mp_succ,← List.append_assoc,ea];first|exact Prod.ext rfl (Prod.ext (or2_t (by assumption)) rfl)|exact Prod.ext rfl (Prod.ext (or2_f (by assumption)) rfl))|(have e:j=v.length:=(by omega);subst e;rw[catK,hD,an_succ,hA];rfl)
 ·intro hge
  have e:i=d.length:=by omega
  subst e
  rw[← hD,← hA]
theorem h_i_Outer:Con.Holds Try.prog c_i_Outer:=tree_ok mixedP (consAt h_i_VecOk (consAt h_i_FixMul consNil)) e_i_Outer fun x hx hp=>v_i_Outer x hx hp

/-! impl.matOf -/

noncomputable def c_i_matOf:Con:=⟨147,tOp,(.pair tI tItem),[.val ⟨true,tOp,[]⟩],[⟨true,(.pair tI tItem),[0,0,0]⟩],true,none,
 ((fun _=>True):(OpD)→Prop),
 ((fun x=>opMat x):(OpD)→(Int × ItemD))⟩
def t_i_matOf:T:=.ret (mkA (.pair tI tItem) [(pjA tOp 2 (.vr 0)),(pjA tOp 1 (.vr 0)),(prA tOp 3 (.vr 0))])
set_option maxRecDepth 100000 in
theorem e_i_matOf:exFn Try.prog [] c_i_matOf false 3000 ⟨[],[]⟩ = .ok t_i_matOf:=by kernel_rfl
theorem v_i_matOf (x:OpD) (hx:okD tOp x) (hp:(fun _=>True) x):t_i_matOf.wp [] [⟨tOp,x⟩] [] (fun v=>v.as (.pair tI tItem)=(fun x=>opMat x) x):=by
 delta t_i_matOf;refine vcx ?_;try with_reducible exact True.intro
 rfl
theorem h_i_matOf:Con.Holds Try.prog c_i_matOf:=tree_ok mixedP consNil e_i_matOf fun x hx hp=>v_i_matOf x hx hp

/-! impl.OpForward -/

noncomputable def c_i_OpForward:Con:=⟨105,(.pair tOp tInts),(.pair tInts .bool),[.val ⟨true,tOp,[]⟩,.val ⟨false,tInts,[]⟩],[⟨false,tInts,[2]⟩,⟨false,.bool,[0]⟩],false,none,
 ((fun _=>True):(OpD × IntsD)→Prop),
 ((fun x=>opFwd x.1 x.2):(OpD × IntsD)→(IntsD × Bool))⟩
def t_i_OpForward:T:=.call 0 (.p1 tOp tInts (.vr 0)) <|.prim .not (.vr 1) <|.ite (.vr 2) (.ret (.mk2 tInts .bool (.nl 3 tI) (.cb false))) (.call 1 (.mk2 tInts tI (prA (.pair tOp tInts) 1 (.vr 0)) (pjA tOp 1 (.p1 tOp tInts (.vr 0)))) <|.prim .not (.vr 3) <|.ite (.vr 4) (.ret (.mk2 tInts .bool (.nl 3 tI) (.cb false))) (.prim (.cmp .eql .i64) (.mk2 tI tI (.p1 tI (.pair tI tItem) (.p1 tOp tInts (.vr 0))) (.ci .i64 1)) <|.ite (.vr 5) (.call 2 (.p1 tOp tInts (.vr 0)) <|.call 3 (.mk2 (.pair tI tItem) tInts (.vr 6) (prA (.pair tOp tInts) 1 (.vr 0))) <|.ret (.vr 7)) (.prim (.cmp .eql .i64) (.mk2 tI tI (.p1 tI (.pair tI tItem) (.p1 tOp tInts (.vr 0))) (.ci .i64 2)) <|.ite (.vr 6) (.call 4 (.mk2 tInts tInts (prA (.pair tOp tInts) 1 (.vr 0)) (prA tOp 3 (.p1 tOp tInts (.vr 0)))) <|.ret (.vr 7)) (.prim (.cmp .eql .i64) (.mk2 tI tI (.p1 tI (.pair tI tItem) (.p1 tOp tInts (.vr 0))) (.ci .i64 4)) <|.ite (.vr 7) (.prim (.lidx 3 tI) (.mk2 tInts tI (prA tOp 3 (.p1 tOp tInts (.vr 0))) (.ci .i64 0)) <|.call 5 (.mk2 tI tInts (.vr 8) (prA (.pair tOp tInts) 1 (.vr 0))) <|.ret (.vr 9)) (.prim (.cmp .eql .i64) (.mk2 tI tI (.p1 tI (.pair tI tItem) (.p1 tOp tInts (.vr 0))) (.ci .i64 5)) <|.ite (.vr 8) (.call 2 (.p1 tOp tInts (.vr 0)) <|.call 3 (.mk2 (.pair tI tItem) tInts (.vr 9) (prA (.pair tOp tInts) 1 (.vr 0))) <|.call 4 (.mk2 tInts tInts (prA (.pair tOp tInts) 1 (.vr 0)) (.p1 tInts .bool (.vr 10))) <|.ite (prA (.pair tInts .bool) 1 (.vr 10)) (.ret (.mk2 tInts .bool (.p1 tInts .bool (.vr 11)) (.cb true))) (.ret (.vr 11))) (.call 6 (prA (.pair tOp tInts) 1 (.vr 0)) <|.ret (.mk2 tInts .bool (.vr 9) (.cb false))))))))
set_option maxRecDepth 100000 in
theorem e_i_OpForward:exFn Try.prog [c_i_OpOk,c_i_vecOf,c_i_matOf,c_i_MatVec,c_i_VecAdd,c_i_VecScale,c_i_VecRelu] c_i_OpForward false 3000 ⟨[],[]⟩ = .ok t_i_OpForward:=by kernel_rfl
theorem v_i_OpForward (x:OpD × IntsD) (hx:okD (.pair tOp tInts) x) (hp:(fun _=>True) x):t_i_OpForward.wp [c_i_OpOk,c_i_vecOf,c_i_matOf,c_i_MatVec,c_i_VecAdd,c_i_VecScale,c_i_VecRelu] [⟨(.pair tOp tInts),x⟩] [] (fun v=>v.as (.pair tInts .bool)=(fun x=>opFwd x.1 x.2) x):=by
 obtain ⟨⟨kd,i,ou,P⟩,v⟩:=x
 delta t_i_OpForward c_i_OpOk c_i_vecOf c_i_matOf c_i_MatVec c_i_VecAdd c_i_VecScale c_i_VecRelu;refine vcx ?_;try with_reducible exact True.intro
 simp only[Bool.not_eq_true',Bool.not_eq_false']
 refine ⟨fun h=>?_,fun h1=>⟨fun h=>?_,fun h2=>?_⟩⟩
 ·unfold opFwd;rw[if_pos (by rw[h];simp)]
 ·unfold opFwd;rw[if_pos (by rw[h];simp)]
 have h4:=op4_len h1
 have hk:=((opB_iff _).1 h1).1
 dsimp only at h4 hk
 (refine dcx ?_;try with_reducible exact True.intro)
 (repeat' first|intro _|(with_reducible apply And.intro))
 all_goals first|omega|(obtain rfl:kd=3:=(by omega);simp[opFwd,h1,h2];done)|(simp_all[opFwd];done)
theorem h_i_OpForward:Con.Holds Try.prog c_i_OpForward:=tree_ok mixedP (consAt h_i_OpOk (consAt h_i_vecOf (consAt h_i_matOf (consAt h_i_MatVec (consAt h_i_VecAdd (consAt h_i_VecScale (consAt h_i_VecRelu consNil))))))) e_i_OpForward fun x hx hp=>v_i_OpForward x hx hp

/-! impl.OpBackward -/

noncomputable def c_i_OpBackward:Con:=⟨159,(.pair tOp tPair),(.pair tInts (.pair tInts .bool)),[.val ⟨true,tOp,[]⟩,.val ⟨false,tInts,[]⟩,.val ⟨false,tInts,[]⟩],[⟨false,tInts,[2]⟩,⟨false,tInts,[2]⟩,⟨false,.bool,[0]⟩],false,none,
 ((fun _=>True):(OpD × PairD)→Prop),
 ((fun x=>opBwd x.1 x.2.1 x.2.2):(OpD × PairD)→(IntsD × (IntsD × Bool)))⟩
def t_i_OpBackward:T:=.call 0 (.p1 tOp tPair (.vr 0)) <|.prim .not (.vr 1) <|.ite (.vr 2) (.ret (mkA (.pair tInts (.pair tInts .bool)) [(.nl 3 tI),(.nl 3 tI),(.cb false)])) (.call 1 (.mk2 tInts tI (pjA (.pair tOp tPair) 1 (.vr 0)) (pjA tOp 1 (.p1 tOp tPair (.vr 0)))) <|.prim .not (.vr 3) <|.ite (.vr 4) (.ret (mkA (.pair tInts (.pair tInts .bool)) [(.nl 3 tI),(.nl 3 tI),(.cb false)])) (.call 1 (.mk2 tInts tI (prA (.pair tOp tPair) 2 (.vr 0)) (pjA tOp 2 (.p1 tOp tPair (.vr 0)))) <|.prim .not (.vr 5) <|.ite (.vr 6) (.ret (mkA (.pair tInts (.pair tInts .bool)) [(.nl 3 tI),(.nl 3 tI),(.cb false)])) (.prim (.cmp .eql .i64) (.mk2 tI tI (.p1 tI (.pair tI tItem) (.p1 tOp tPair (.vr 0))) (.ci .i64 1)) <|.ite (.vr 7) (.call 2 (.p1 tOp tPair (.vr 0)) <|.call 3 (.mk2 (.pair tI tItem) tInts (.vr 8) (prA (.pair tOp tPair) 2 (.vr 0))) <|.call 4 (.mk2 tInts tInts (prA (.pair tOp tPair) 2 (.vr 0)) (pjA (.pair tOp tPair) 1 (.vr 0))) <|.ite (prA (.pair tInts .bool) 1 (.vr 9)) (.ret (mkA (.pair tInts (.pair tInts .bool)) [(.p1 tInts .bool (.vr 9)),(prA (.pair tI tItem) 2 (.p1 (.pair tI tItem) .bool (.vr 10))),(.cb true)])) (.ret (mkA (.pair tInts (.pair tInts .bool)) [(.p1 tInts .bool (.vr 9)),(prA (.pair tI tItem) 2 (.p1 (.pair tI tItem) .bool (.vr 10))),(prA (.pair (.pair tI tItem) .bool) 1 (.vr 10))]))) (.prim (.cmp .eql .i64) (.mk2 tI tI (.p1 tI (.pair tI tItem) (.p1 tOp tPair (.vr 0))) (.ci .i64 2)) <|.ite (.vr 8) (.call 5 (prA (.pair tOp tPair) 2 (.vr 0)) <|.call 5 (prA (.pair tOp tPair) 2 (.vr 0)) <|.ret (mkA (.pair tInts (.pair tInts .bool)) [(.vr 9),(.vr 10),(.cb false)])) (.prim (.cmp .eql .i64) (.mk2 tI tI (.p1 tI (.pair tI tItem) (.p1 tOp tPair (.vr 0))) (.ci .i64 4)) <|.ite (.vr 9) (.prim (.lidx 3 tI) (.mk2 tInts tI (prA tOp 3 (.p1 tOp tPair (.vr 0))) (.ci .i64 0)) <|.call 6 (.mk2 tI tInts (.vr 10) (prA (.pair tOp tPair) 2 (.vr 0))) <|.call 7 (.mk2 tInts tInts (prA (.pair tOp tPair) 2 (.vr 0)) (pjA (.pair tOp tPair) 1 (.vr 0))) <|.prim (.lit 3 tI 1) (.p1 tI .bool (.vr 12)) <|.ite (prA (.pair tInts .bool) 1 (.vr 11)) (.ret (mkA (.pair tInts (.pair tInts .bool)) [(.p1 tInts .bool (.vr 11)),(.vr 13),(.cb true)])) (.ret (mkA (.pair tInts (.pair tInts .bool)) [(.p1 tInts .bool (.vr 11)),(.vr 13),(prA (.pair tI .bool) 1 (.vr 12))]))) (.prim (.cmp .eql .i64) (.mk2 tI tI (.p1 tI (.pair tI tItem) (.p1 tOp tPair (.vr 0))) (.ci .i64 5)) <|.ite (.vr 10) (.call 2 (.p1 tOp tPair (.vr 0)) <|.call 3 (.mk2 (.pair tI tItem) tInts (.vr 11) (prA (.pair tOp tPair) 2 (.vr 0))) <|.call 8 (.mk2 tInts tInts (prA (.pair tOp tPair) 2 (.vr 0)) (.p1 tInts .bool (.vr 12))) <|.call 4 (.mk2 tInts tInts (prA (.pair tOp tPair) 2 (.vr 0)) (pjA (.pair tOp tPair) 1 (.vr 0))) <|.ite (prA (.pair tInts .bool) 1 (.vr 12)) (.ret (mkA (.pair tInts (.pair tInts .bool)) [(.p1 tInts .bool (.vr 13)),(prA (.pair tI tItem) 2 (.p1 (.pair tI tItem) .bool (.vr 14))),(.cb true)])) (.ite (prA (.pair tInts .bool) 1 (.vr 13)) (.ret (mkA (.pair tInts (.pair tInts .bool)) [(.p1 tInts .bool (.vr 13)),(prA (.pair tI tItem) 2 (.p1 (.pair tI tItem) .bool (.vr 14))),(.cb true)])) (.ret (mkA (.pair tInts (.pair tInts .bool)) [(.p1 tInts .bool (.vr 13)),(prA (.pair tI tItem) 2 (.p1 (.pair tI tItem) .bool (.vr 14))),(prA (.pair (.pair tI tItem) .bool) 1 (.vr 14))])))) (.call 9 (prA (.pair tOp tPair) 1 (.vr 0)) <|.ret (mkA (.pair tInts (.pair tInts .bool)) [(.vr 11),(.nl 3 tI),(.cb false)]))))))))
set_option maxRecDepth 100000 in
theorem e_i_OpBackward:exFn Try.prog [c_i_OpOk,c_i_vecOf,c_i_matOf,c_i_MatBack,c_i_Outer,c_i_copyInts,c_i_VecScale,c_i_VecDot,c_i_VecAdd,c_i_VecMask] c_i_OpBackward false 3000 ⟨[],[]⟩ = .ok t_i_OpBackward:=by kernel_rfl
theorem v_i_OpBackward (x:OpD × PairD) (hx:okD (.pair tOp tPair) x) (hp:(fun _=>True) x):t_i_OpBackward.wp [c_i_OpOk,c_i_vecOf,c_i_matOf,c_i_MatBack,c_i_Outer,c_i_copyInts,c_i_VecScale,c_i_VecDot,c_i_VecAdd,c_i_VecMask] [⟨(.pair tOp tPair),x⟩] [] (fun v=>v.as (.pair tInts (.pair tInts .bool))=(fun x=>opBwd x.1 x.2.1 x.2.2) x):=by
 obtain ⟨⟨kd,i,ou,P⟩,v,d⟩:=x
 delta t_i_OpBackward c_i_OpOk c_i_vecOf c_i_matOf c_i_MatBack c_i_Outer c_i_copyInts c_i_VecScale c_i_VecDot c_i_VecAdd c_i_VecMask;refine vcx ?_;try with_reducible exact True.intro
 simp only[Bool.not_eq_true',Bool.not_eq_false']
 refine ⟨fun h=>?_,fun h1=>⟨fun h=>?_,fun h2=>⟨fun h=>?_,fun h3=>?_⟩⟩⟩
 ·unfold opBwd;rw[if_pos (by rw[h];simp)]
 ·unfold opBwd;rw[if_pos (by rw[h];simp)]
 ·unfold opBwd;rw[if_pos (by rw[h];simp)]
 have h4:=op4_len h1
 have hk:=((opB_iff _).1 h1).1
 have hd:=(vecB_iff _).1 ((vecN_iff _ _).1 h3).1
 dsimp only at h4 hk
 (refine dcx ?_;try with_reducible exact True.intro)
 (repeat' first|intro _|(with_reducible apply And.intro))
 all_goals first|omega|(obtain rfl:kd=3:=(by omega);simp[opBwd,h1,h2,h3];done)|(simp_all[opBwd];done)
theorem h_i_OpBackward:Con.Holds Try.prog c_i_OpBackward:=tree_ok mixedP (consAt h_i_OpOk (consAt h_i_vecOf (consAt h_i_matOf (consAt h_i_MatBack (consAt h_i_Outer (consAt h_i_copyInts (consAt h_i_VecScale (consAt h_i_VecDot (consAt h_i_VecAdd (consAt h_i_VecMask consNil)))))))))) e_i_OpBackward fun x hx hp=>v_i_OpBackward x hx hp

/-! spec.MatOk -/

noncomputable def c_s_MatOk:Con:=⟨151,(.pair tI tItem),.bool,[.val ⟨true,(.pair tI tItem),[]⟩],[⟨false,.bool,[0]⟩],false,none,
 ((fun _=>True):(Int × ItemD)→Prop),
 ((fun x=>matB x):(Int × ItemD)→(Bool))⟩
def t_s_MatOk:T:=.call 0 (mkA (.pair tI tIns) [(.p1 tI tItem (.vr 0)),(.ci .i64 1),(.ci .i64 6)]) <|.prim .not (.vr 1) <|.ite (.vr 2) (.ret (.cb false)) (.call 0 (mkA (.pair tI tIns) [(pjA (.pair tI tItem) 1 (.vr 0)),(.ci .i64 1),(.ci .i64 6)]) <|.prim .not (.vr 3) <|.ite (.vr 4) (.ret (.cb false)) (.prim (.llen 3 tI) (prA (.pair tI tItem) 2 (.vr 0)) <|.prim (.ar .mul .i64) (.mk2 tI tI (.p1 tI tItem (.vr 0)) (pjA (.pair tI tItem) 1 (.vr 0))) <|.prim (.cmp .neq .i64) (.mk2 tI tI (.vr 5) (.vr 6)) <|.ite (.vr 7) (.ret (.cb false)) (.loop tI (.ci .i64 0) <|.prim (.llen 3 tI) (prA (.pair tI tItem) 2 (.vr 0)) <|.prim (.cmp .lss .i64) (.mk2 tI tI (.vr 8) (.vr 9)) <|.ite (.vr 10) (.prim (.lidx 3 tI) (.mk2 tInts tI (prA (.pair tI tItem) 2 (.vr 0)) (.vr 8)) <|.call 1 (.vr 11) <|.prim .not (.vr 12) <|.ite (.vr 13) (.ret (.cb false)) (.prim (.ar .add .i64) (.mk2 tI tI (.vr 8) (.ci .i64 1)) <|.again 0 (.vr 14))) (.ret (.cb true)))))
set_option maxRecDepth 100000 in
theorem e_s_MatOk:exFn Try.prog [c_s_l1In,c_s_FixOk] c_s_MatOk false 3000 ⟨[(2988,8008,drd 24 4++[.dr 0,.tm 3 0])],[]⟩ = .ok t_s_MatOk:=by kernel_rfl
/- loops: Int -/
theorem v_s_MatOk (x:Int × ItemD) (hx:okD (.pair tI tItem) x) (hp:(fun _=>True) x):t_s_MatOk.wp [c_s_l1In,c_s_FixOk] [⟨(.pair tI tItem),x⟩] [] (fun v=>v.as .bool=(fun x=>matB x) x):=by
 have hm:List.length x.2.2≤9223372036854775807:=hx.2.2.1
 delta t_s_MatOk c_s_l1In c_s_FixOk;refine vcx ?_;try with_reducible exact True.intro
 simp only[Int.toNat_natCast,Bool.not_eq_true',Bool.not_eq_false',Bool.and_eq_true,Bool.and_eq_false_iff,decide_eq_true_eq,decide_eq_false_iff_not,Int.not_lt,Int.not_le,ge_iff_le,gt_iff_lt,List.length_cons,List.length_nil,List.length_append,Nat.zero_add,List.nil_append,beq_iff_eq,beq_eq_false_iff_ne,bne_iff_ne,bne_eq_false_iff_eq,ne_eq,toNat_pred,toNat_succ,toNat_l0,toNat_l1,neqI_t,neqI_f]
 (repeat' first|intro _|(with_reducible apply And.intro))
 all_goals first|(first|(refine (Bool.eq_false_iff.2 ?_).symm;rw[ne_eq,matB_iff];intro hh;omega)|(refine (matB_iff.2 ?_).symm;omega))|(have:=mul_b (a:=x.1) (b:=x.2.1) (by omega) (by omega) (by omega) (by omega);omega)|(refine (Bool.eq_false_iff.2 fun h=>?_).symm;rw[matB_iff] at h;exact absurd h.1.2.2.2.2 (by assumption))|skip
 refine loopG (fun k=>(k:Int)) (fun k=>(List.take k x.2.2).all fixB=true) x.2.2.length rfl rfl fun I μ k hk hG _ go=>?_
 try dsimp only
 (refine dcx ?_;try with_reducible exact True.intro)
 have e:∀ h:k<x.2.2.length,(List.take (k+1) x.2.2).all fixB=fixB (x.2.2.getD k 0):=fun h=>by rw[all_next fixB x.2.2 h,hG,Bool.true_and,getD_at h]
 (repeat' first|intro _|(refine go _ ?_ ?_ ?_)|(refine go _ ?_ ?_)|(with_reducible apply And.intro))
 all_goals first|omega|(refine (Bool.eq_false_iff.2 fun hh=>?_).symm;have h1:=List.all_eq_true.1 ((matB_iff x).1 hh).2 _ (List.getElem_mem (show k<x.2.2.length by omega));rw[← getD_at (d:=0)] at h1;exact Bool.noConfusion (h1.symm.trans (by assumption:_=false)))|(exact (e (by omega)).trans (by assumption))|rfl|skip
 refine ((matB_iff x).2 ⟨⟨by omega,by omega,by omega,by omega,by omega⟩,?_⟩).symm
 rwa [List.take_of_length_le (by omega)] at hG
theorem h_s_MatOk:Con.Holds Try.prog c_s_MatOk:=tree_ok mixedP (consAt h_s_l1In (consAt h_s_FixOk consNil)) e_s_MatOk fun x hx hp=>v_s_MatOk x hx hp

/-! spec.l4Row -/

noncomputable def c_s_l4Row:Con:=⟨153,(.pair (.pair tI tItem) tI),tInts,[.val ⟨true,(.pair tI tItem),[]⟩,.val ⟨false,tI,[]⟩],[⟨false,tInts,[0]⟩],true,none,
 ((fun x=>matB x.1=true∧0≤x.2∧x.2<x.1.1):((Int × ItemD) × Int)→Prop),
 ((fun x=>rowOf x.1 x.2.toNat):((Int × ItemD) × Int)→(List Int))⟩
def t_s_l4Row:T:=.prim (.ar .mul .i64) (.mk2 tI tI (prA (.pair (.pair tI tItem) tI) 1 (.vr 0)) (pjA (.pair tI tItem) 1 (.p1 (.pair tI tItem) tI (.vr 0)))) <|.prim (.ar .add .i64) (.mk2 tI tI (prA (.pair (.pair tI tItem) tI) 1 (.vr 0)) (.ci .i64 1)) <|.prim (.ar .mul .i64) (.mk2 tI tI (.vr 2) (pjA (.pair tI tItem) 1 (.p1 (.pair tI tItem) tI (.vr 0)))) <|.prim (.lsub 3 tI) (mkA (.pair tInts tIns) [(prA (.pair tI tItem) 2 (.p1 (.pair tI tItem) tI (.vr 0))),(.vr 1),(.vr 3)]) <|.ret (.vr 4)
set_option maxRecDepth 100000 in
theorem e_s_l4Row:exFn Try.prog [] c_s_l4Row false 3000 ⟨[],[]⟩ = .ok t_s_l4Row:=by kernel_rfl
theorem v_s_l4Row (x:(Int × ItemD) × Int) (hx:okD (.pair (.pair tI tItem) tI) x) (hp:(fun x=>matB x.1=true∧0≤x.2∧x.2<x.1.1) x):t_s_l4Row.wp [] [⟨(.pair (.pair tI tItem) tI),x⟩] [] (fun v=>v.as tInts=(fun x=>rowOf x.1 x.2.toNat) x):=by
 obtain ⟨m,k⟩:=x
 obtain ⟨h1,h2,h3⟩:matB m=true∧0≤k∧k<m.1:=hp
 obtain ⟨R,C,data,rfl,g1,g2,g3,g4,g5,g6,g7⟩:=mat_shape h1
 obtain ⟨k,rfl⟩:=Int.eq_ofNat_of_zero_le h2
 have h3:k<R:=by dsimp only at h3;omega
 delta t_s_l4Row;refine vcx ?_;try with_reducible exact True.intro
 obtain ⟨p,e0⟩:∃ p,p=k * C:=⟨_,rfl⟩
 have e1:(k:Int) * (C:Int)=(p:Int):=by rw[e0];exact (Int.natCast_mul k C).symm
 have e2:((k:Int)+1) * (C:Int)=((p+C:Nat):Int):=by rw[Int.add_mul,e1,Int.one_mul];rfl
 have e4:p+C≤data.length:=by rw[e0,g5];exact row_in h3
 simp only[e1,e2,Int.toNat_natCast,Bool.not_eq_true',Bool.not_eq_false',Bool.and_eq_true,Bool.and_eq_false_iff,decide_eq_true_eq,decide_eq_false_iff_not,Int.not_lt,Int.not_le,ge_iff_le,gt_iff_lt,List.length_cons,List.length_nil,List.length_append,Nat.zero_add,List.nil_append,beq_iff_eq,beq_eq_false_iff_ne,bne_iff_ne,bne_eq_false_iff_eq,ne_eq,toNat_pred,toNat_succ,toNat_l0,toNat_l1,← rowOf_at R C k p data e0]
 (repeat' first|intro _|(with_reducible apply And.intro))
 all_goals first|omega|trivial|rfl
theorem h_s_l4Row:Con.Holds Try.prog c_s_l4Row:=tree_ok mixedP consNil e_s_l4Row fun x hx hp=>v_s_l4Row x hx hp

/-! spec.l4Col -/

noncomputable def c_s_l4Col:Con:=⟨179,(.pair (.pair tI tItem) tI),tInts,[.val ⟨true,(.pair tI tItem),[]⟩,.val ⟨false,tI,[]⟩],[⟨false,tInts,[2]⟩],false,none,
 ((fun x=>matB x.1=true∧0≤x.2∧x.2<x.1.2.1):((Int × ItemD) × Int)→Prop),
 ((fun x=>colOf x.1 x.2.toNat):((Int × ItemD) × Int)→(List Int))⟩
def t_s_l4Col:T:=.loop tItem (.mk2 tI tInts (.ci .i64 0) (.nl 3 tI)) <|.prim (.cmp .lss .i64) (.mk2 tI tI (.p1 tI tInts (.vr 1)) (.p1 tI tItem (.p1 (.pair tI tItem) tI (.vr 0)))) <|.ite (.vr 2) (.prim (.ar .mul .i64) (.mk2 tI tI (.p1 tI tInts (.vr 1)) (pjA (.pair tI tItem) 1 (.p1 (.pair tI tItem) tI (.vr 0)))) <|.prim (.ar .add .i64) (.mk2 tI tI (.vr 3) (prA (.pair (.pair tI tItem) tI) 1 (.vr 0))) <|.prim (.lidx 3 tI) (.mk2 tInts tI (prA (.pair tI tItem) 2 (.p1 (.pair tI tItem) tI (.vr 0))) (.vr 4)) <|.prim (.lit 3 tI 1) (.vr 5) <|.prim (.lapp 3 tI 8) (.mk2 tInts tInts (prA tItem 1 (.vr 1)) (.vr 6)) <|.prim (.ar .add .i64) (.mk2 tI tI (.p1 tI tInts (.vr 1)) (.ci .i64 1)) <|.again 0 (.mk2 tI tInts (.vr 8) (.vr 7))) (.ret (prA tItem 1 (.vr 1)))
set_option maxRecDepth 100000 in
theorem e_s_l4Col:exFn Try.prog [] c_s_l4Col false 3000 ⟨[(2991,1001,[.dr 7,.dr 0,.tm 6 0,.on 5,.sl 2])],[]⟩ = .ok t_s_l4Col:=by kernel_rfl
/- loops: (Int) × (List (Int)) -/
theorem v_s_l4Col (x:(Int × ItemD) × Int) (hx:okD (.pair (.pair tI tItem) tI) x) (hp:(fun x=>matB x.1=true∧0≤x.2∧x.2<x.1.2.1) x):t_s_l4Col.wp [] [⟨(.pair (.pair tI tItem) tI),x⟩] [] (fun v=>v.as tInts=(fun x=>colOf x.1 x.2.toNat) x):=by
 obtain ⟨m,c⟩:=x
 obtain ⟨h1,h2,h3⟩:matB m=true∧0≤c∧c<m.2.1:=hp
 obtain ⟨R,C,data,rfl,g1,g2,g3,g4,g5,g6,g7⟩:=mat_shape h1
 obtain ⟨c,rfl⟩:=Int.eq_ofNat_of_zero_le h2
 have h3:c<C:=by dsimp only at h3;omega
 delta t_s_l4Col;refine vcx ?_;try with_reducible exact True.intro
 refine loopF (fun r=>((r:Int),mp r fun i=>data.getD (i * C+c) 0)) R rfl fun I μ k hk _ go=>?_
 dsimp only
 obtain ⟨p,e0⟩:∃ p,p=k * C:=⟨_,rfl⟩
 have e1:(k:Int) * (C:Int)=(p:Int):=by rw[e0];exact (Int.natCast_mul k C).symm
 have e2:(p:Int)+(c:Int)=((p+c:Nat):Int):=rfl
 have e4:k<R→p+C≤data.length:=fun h=>by rw[e0,g5];exact row_in h
 simp only[e1,e2,Int.toNat_natCast,Bool.not_eq_true',Bool.not_eq_false',Bool.and_eq_true,Bool.and_eq_false_iff,decide_eq_true_eq,decide_eq_false_iff_not,Int.not_lt,Int.not_le,ge_iff_le,gt_iff_lt,List.length_cons,List.length_nil,List.length_append,Nat.zero_add,List.nil_append,beq_iff_eq,beq_eq_false_iff_ne,bne_iff_ne,bne_eq_false_iff_eq,ne_eq,toNat_pred,toNat_succ,toNat_l0,toNat_l1,mp_len]
 (repeat' first|intro _|(refine go _ ?_ ?_ ?_)|(refine go _ ?_ ?_)|(with_reducible apply And.intro))
 all_goals first|omega|(unfold maxLen;omega)|(rw[mp_succ,← e0];rfl)|(have e:k=R:=(by omega);subst e;rfl)
theorem h_s_l4Col:Con.Holds Try.prog c_s_l4Col:=tree_ok mixedP consNil e_s_l4Col fun x hx hp=>v_s_l4Col x hx hp

/-! spec.MatVec -/

noncomputable def c_s_MatVec:Con:=⟨106,(.pair (.pair tI tItem) tInts),(.pair tInts .bool),[.val ⟨true,(.pair tI tItem),[]⟩,.val ⟨false,tInts,[]⟩],[⟨false,tInts,[2]⟩,⟨false,.bool,[0]⟩],false,none,
 ((fun _=>True):((Int × ItemD) × IntsD)→Prop),
 ((fun x=>matVec x.1 x.2):((Int × ItemD) × IntsD)→(IntsD × Bool))⟩
def t_s_MatVec:T:=.call 0 (.p1 (.pair tI tItem) tInts (.vr 0)) <|.prim .not (.vr 1) <|.ite (.vr 2) (.ret (.mk2 tInts .bool (.nl 3 tI) (.cb false))) (.call 1 (prA (.pair (.pair tI tItem) tInts) 1 (.vr 0)) <|.prim .not (.vr 3) <|.ite (.vr 4) (.ret (.mk2 tInts .bool (.nl 3 tI) (.cb false))) (.prim (.llen 3 tI) (prA (.pair (.pair tI tItem) tInts) 1 (.vr 0)) <|.prim (.cmp .neq .i64) (.mk2 tI tI (.vr 5) (pjA (.pair tI tItem) 1 (.p1 (.pair tI tItem) tInts (.vr 0)))) <|.ite (.vr 6) (.ret (.mk2 tInts .bool (.nl 3 tI) (.cb false))) (.loop (.pair tI (.pair .bool tInts)) (mkA (.pair tI (.pair .bool tInts)) [(.ci .i64 0),(.cb false),(.nl 3 tI)]) <|.prim (.cmp .lss .i64) (.mk2 tI tI (.p1 tI (.pair .bool tInts) (.vr 7)) (.p1 tI tItem (.p1 (.pair tI tItem) tInts (.vr 0)))) <|.ite (.vr 8) (.call 2 (.mk2 (.pair tI tItem) tI (.p1 (.pair tI tItem) tInts (.vr 0)) (.p1 tI (.pair .bool tInts) (.vr 7))) <|.call 3 (.mk2 tInts tInts (.vr 9) (prA (.pair (.pair tI tItem) tInts) 1 (.vr 0))) <|.prim (.lit 3 tI 1) (.p1 tI .bool (.vr 10)) <|.prim (.lapp 3 tI 8) (.mk2 tInts tInts (prA (.pair tI (.pair .bool tInts)) 2 (.vr 7)) (.vr 11)) <|.ite (pjA (.pair tI (.pair .bool tInts)) 1 (.vr 7)) (.prim (.ar .add .i64) (.mk2 tI tI (.p1 tI (.pair .bool tInts) (.vr 7)) (.ci .i64 1)) <|.again 0 (mkA (.pair tI (.pair .bool tInts)) [(.vr 13),(.cb true),(.vr 12)])) (.prim (.ar .add .i64) (.mk2 tI tI (.p1 tI (.pair .bool tInts) (.vr 7)) (.ci .i64 1)) <|.again 0 (mkA (.pair tI (.pair .bool tInts)) [(.vr 13),(prA (.pair tI .bool) 1 (.vr 10)),(.vr 12)]))) (.ret (.mk2 tInts .bool (prA (.pair tI (.pair .bool tInts)) 2 (.vr 7)) (pjA (.pair tI (.pair .bool tInts)) 1 (.vr 7)))))))
set_option maxRecDepth 100000 in
theorem e_s_MatVec:exFn Try.prog [c_s_MatOk,c_s_VecOk,c_s_l4Row,c_s_VecDot] c_s_MatVec false 3000 ⟨[(2984,8007,drd 26 11++[.dr 0,.tm 8 0,.tm 7 0,.on 6,.sl 2])],[]⟩ = .ok t_s_MatVec:=by kernel_rfl
/- loops: (Int) × ((Bool) × (List (Int))) -/
theorem v_s_MatVec (x:(Int × ItemD) × IntsD) (hx:okD (.pair (.pair tI tItem) tInts) x) (hp:(fun _=>True) x):t_s_MatVec.wp [c_s_MatOk,c_s_VecOk,c_s_l4Row,c_s_VecDot] [⟨(.pair (.pair tI tItem) tInts),x⟩] [] (fun v=>v.as (.pair tInts .bool)=(fun x=>matVec x.1 x.2) x):=by
 obtain ⟨m,v⟩:=x
 delta t_s_MatVec c_s_MatOk c_s_VecOk c_s_l4Row c_s_VecDot;refine vcx ?_;try with_reducible exact True.intro
 simp only[Bool.not_eq_true',Bool.not_eq_false',neqI_t,neqI_f]
 refine ⟨fun h=>?_,fun h1=>⟨fun h=>?_,fun h2 _=>⟨fun h=>?_,fun h3=>?_⟩⟩⟩
 ·unfold matVec;rw[if_neg (by rw[h];simp)]
 ·unfold matVec vecN;rw[if_neg (by rw[h];simp)]
 ·unfold matVec vecN;rw[if_neg (fun hh=>h (by have:=hh.2;rw[Bool.and_eq_true,decide_eq_true_eq] at this;exact this.2))]
 have h4:vecN v m.2.1=true:=(vecN_iff _ _).2 ⟨h2,h3⟩
 rw[show matVec m v=_ from if_pos ⟨h1,h4⟩]
 obtain ⟨R,C,data,rfl,g1,g2,g3,g4,g5,g6,g7⟩:=mat_shape h1
 refine loopF (fun k=>((k:Int),an k (fun r=>(vecDot (rowOf ((R:Int),(C:Int),data) r) v).2),mp k fun r=>(vecDot (rowOf ((R:Int),(C:Int),data) r) v).1)) R rfl fun I μ k hk _ go=>?_
 dsimp only
 simp only[Int.toNat_natCast,Bool.not_eq_true',Bool.not_eq_false',Bool.and_eq_true,Bool.and_eq_false_iff,decide_eq_true_eq,decide_eq_false_iff_not,Int.not_lt,Int.not_le,ge_iff_le,gt_iff_lt,List.length_cons,List.length_nil,List.length_append,Nat.zero_add,List.nil_append,beq_iff_eq,beq_eq_false_iff_ne,bne_iff_ne,bne_eq_false_iff_eq,ne_eq,toNat_pred,toNat_succ,toNat_l0,toNat_l1,mp_len]
 (repeat' first|intro _|(refine go _ ?_ ?_ ?_)|(refine go _ ?_ ?_)|(with_reducible apply And.intro))
 all_goals first|omega|exact h1|(unfold maxLen;omega)|(rw[mp_succ,an_succ];first|exact Prod.ext rfl (Prod.ext (or2_t (by assumption)) rfl)|exact Prod.ext rfl (Prod.ext (or2_f (by assumption)) rfl))|(have e:k=R:=(by omega);subst e;rfl)
theorem h_s_MatVec:Con.Holds Try.prog c_s_MatVec:=tree_ok mixedP (consAt h_s_MatOk (consAt h_s_VecOk (consAt h_s_l4Row (consAt h_s_VecDot consNil)))) e_s_MatVec fun x hx hp=>v_s_MatVec x hx hp

/-! spec.MatBack -/

noncomputable def c_s_MatBack:Con:=⟨177,(.pair (.pair tI tItem) tInts),(.pair tInts .bool),[.val ⟨true,(.pair tI tItem),[]⟩,.val ⟨false,tInts,[]⟩],[⟨false,tInts,[2]⟩,⟨false,.bool,[0]⟩],false,none,
 ((fun _=>True):((Int × ItemD) × IntsD)→Prop),
 ((fun x=>matBack x.1 x.2):((Int × ItemD) × IntsD)→(IntsD × Bool))⟩
def t_s_MatBack:T:=.call 0 (.p1 (.pair tI tItem) tInts (.vr 0)) <|.prim .not (.vr 1) <|.ite (.vr 2) (.ret (.mk2 tInts .bool (.nl 3 tI) (.cb false))) (.call 1 (prA (.pair (.pair tI tItem) tInts) 1 (.vr 0)) <|.prim .not (.vr 3) <|.ite (.vr 4) (.ret (.mk2 tInts .bool (.nl 3 tI) (.cb false))) (.prim (.llen 3 tI) (prA (.pair (.pair tI tItem) tInts) 1 (.vr 0)) <|.prim (.cmp .neq .i64) (.mk2 tI tI (.vr 5) (.p1 tI tItem (.p1 (.pair tI tItem) tInts (.vr 0)))) <|.ite (.vr 6) (.ret (.mk2 tInts .bool (.nl 3 tI) (.cb false))) (.loop (.pair tI (.pair .bool tInts)) (mkA (.pair tI (.pair .bool tInts)) [(.ci .i64 0),(.cb false),(.nl 3 tI)]) <|.prim (.cmp .lss .i64) (.mk2 tI tI (.p1 tI (.pair .bool tInts) (.vr 7)) (pjA (.pair tI tItem) 1 (.p1 (.pair tI tItem) tInts (.vr 0)))) <|.ite (.vr 8) (.call 2 (.mk2 (.pair tI tItem) tI (.p1 (.pair tI tItem) tInts (.vr 0)) (.p1 tI (.pair .bool tInts) (.vr 7))) <|.call 3 (.mk2 tInts tInts (.vr 9) (prA (.pair (.pair tI tItem) tInts) 1 (.vr 0))) <|.prim (.lit 3 tI 1) (.p1 tI .bool (.vr 10)) <|.prim (.lapp 3 tI 8) (.mk2 tInts tInts (prA (.pair tI (.pair .bool tInts)) 2 (.vr 7)) (.vr 11)) <|.ite (pjA (.pair tI (.pair .bool tInts)) 1 (.vr 7)) (.prim (.ar .add .i64) (.mk2 tI tI (.p1 tI (.pair .bool tInts) (.vr 7)) (.ci .i64 1)) <|.again 0 (mkA (.pair tI (.pair .bool tInts)) [(.vr 13),(.cb true),(.vr 12)])) (.prim (.ar .add .i64) (.mk2 tI tI (.p1 tI (.pair .bool tInts) (.vr 7)) (.ci .i64 1)) <|.again 0 (mkA (.pair tI (.pair .bool tInts)) [(.vr 13),(prA (.pair tI .bool) 1 (.vr 10)),(.vr 12)]))) (.ret (.mk2 tInts .bool (prA (.pair tI (.pair .bool tInts)) 2 (.vr 7)) (pjA (.pair tI (.pair .bool tInts)) 1 (.vr 7)))))))
set_option maxRecDepth 100000 in
theorem e_s_MatBack:exFn Try.prog [c_s_MatOk,c_s_VecOk,c_s_l4Col,c_s_VecDot] c_s_MatBack false 3000 ⟨[(2984,8007,drd 26 11++[.dr 0,.tm 8 0,.tm 7 0,.on 6,.sl 2])],[]⟩ = .ok t_s_MatBack:=by kernel_rfl
/- loops: (Int) × ((Bool) × (List (Int))) -/
theorem v_s_MatBack (x:(Int × ItemD) × IntsD) (hx:okD (.pair (.pair tI tItem) tInts) x) (hp:(fun _=>True) x):t_s_MatBack.wp [c_s_MatOk,c_s_VecOk,c_s_l4Col,c_s_VecDot] [⟨(.pair (.pair tI tItem) tInts),x⟩] [] (fun v=>v.as (.pair tInts .bool)=(fun x=>matBack x.1 x.2) x):=by
 obtain ⟨m,v⟩:=x
 delta t_s_MatBack c_s_MatOk c_s_VecOk c_s_l4Col c_s_VecDot;refine vcx ?_;try with_reducible exact True.intro
 simp only[Bool.not_eq_true',Bool.not_eq_false',neqI_t,neqI_f]
 refine ⟨fun h=>?_,fun h1=>⟨fun h=>?_,fun h2 _=>⟨fun h=>?_,fun h3=>?_⟩⟩⟩
 ·unfold matBack;rw[if_neg (by rw[h];simp)]
 ·unfold matBack vecN;rw[if_neg (by rw[h];simp)]
 ·unfold matBack vecN;rw[if_neg (fun hh=>h (by have:=hh.2;rw[Bool.and_eq_true,decide_eq_true_eq] at this;exact this.2))]
 have h4:vecN v m.1=true:=(vecN_iff _ _).2 ⟨h2,h3⟩
 rw[show matBack m v=_ from if_pos ⟨h1,h4⟩]
 obtain ⟨R,C,data,rfl,g1,g2,g3,g4,g5,g6,g7⟩:=mat_shape h1
 refine loopF (fun k=>((k:Int),an k (fun r=>(vecDot (colOf ((R:Int),(C:Int),data) r) v).2),mp k fun r=>(vecDot (colOf ((R:Int),(C:Int),data) r) v).1)) C rfl fun I μ k hk _ go=>?_
 dsimp only
 simp only[Int.toNat_natCast,Bool.not_eq_true',Bool.not_eq_false',Bool.and_eq_true,Bool.and_eq_false_iff,decide_eq_true_eq,decide_eq_false_iff_not,Int.not_lt,Int.not_le,ge_iff_le,gt_iff_lt,List.length_cons,List.length_nil,List.length_append,Nat.zero_add,List.nil_append,beq_iff_eq,beq_eq_false_iff_ne,bne_iff_ne,bne_eq_false_iff_eq,ne_eq,toNat_pred,toNat_succ,toNat_l0,toNat_l1,mp_len]
 (repeat' first|intro _|(refine go _ ?_ ?_ ?_)|(refine go _ ?_ ?_)|(with_reducible apply And.intro))
 all_goals first|omega|exact h1|(unfold maxLen;omega)|(rw[mp_succ,an_succ];first|exact Prod.ext rfl (Prod.ext (or2_t (by assumption)) rfl)|exact Prod.ext rfl (Prod.ext (or2_f (by assumption)) rfl))|(have e:k=C:=(by omega);subst e;rfl)
theorem h_s_MatBack:Con.Holds Try.prog c_s_MatBack:=tree_ok mixedP (consAt h_s_MatOk (consAt h_s_VecOk (consAt h_s_l4Col (consAt h_s_VecDot consNil)))) e_s_MatBack fun x hx hp=>v_s_MatBack x hx hp

/-! spec.Outer -/

noncomputable def c_s_Outer:Con:=⟨178,tPair,(.pair (.pair tI tItem) .bool),[.val ⟨false,tInts,[]⟩,.val ⟨false,tInts,[]⟩],[⟨true,(.pair tI tItem),[0,0,2]⟩,⟨false,.bool,[0]⟩],false,none,
 ((fun _=>True):(PairD)→Prop),
 ((fun x=>outer x.1 x.2):(PairD)→((Int × ItemD) × Bool))⟩
def t_s_Outer:T:=.call 0 (.p1 tInts tInts (.vr 0)) <|.prim .not (.vr 1) <|.ite (.vr 2) (.ret (.mk2 (.pair tI tItem) .bool (mkA (.pair tI tItem) [(.ci .i64 0),(.ci .i64 0),(.nl 3 tI)]) (.cb false))) (.call 0 (prA tPair 1 (.vr 0)) <|.prim .not (.vr 3) <|.ite (.vr 4) (.ret (.mk2 (.pair tI tItem) .bool (mkA (.pair tI tItem) [(.ci .i64 0),(.ci .i64 0),(.nl 3 tI)]) (.cb false))) (.prim (.llen 3 tI) (.p1 tInts tInts (.vr 0)) <|.prim (.llen 3 tI) (prA tPair 1 (.vr 0)) <|.loop (.pair tI (.pair .bool tInts)) (mkA (.pair tI (.pair .bool tInts)) [(.ci .i64 0),(.cb false),(.nl 3 tI)]) <|.prim (.llen 3 tI) (.p1 tInts tInts (.vr 0)) <|.prim (.cmp .lss .i64) (.mk2 tI tI (.p1 tI (.pair .bool tInts) (.vr 7)) (.vr 8)) <|.ite (.vr 9) (.loop (.pair tI (.pair .bool tInts)) (.mk2 tI (.pair .bool tInts) (.ci .i64 0) (prA (.pair tI (.pair .bool tInts)) 1 (.vr 7))) <|.prim (.llen 3 tI) (prA tPair 1 (.vr 0)) <|.prim (.cmp .lss .i64) (.mk2 tI tI (.p1 tI (.pair .bool tInts) (.vr 10)) (.vr 11)) <|.ite (.vr 12) (.prim (.lidx 3 tI) (.mk2 tInts tI (.p1 tInts tInts (.vr 0)) (.p1 tI (.pair .bool tInts) (.vr 7))) <|.prim (.lidx 3 tI) (.mk2 tInts tI (prA tPair 1 (.vr 0)) (.p1 tI (.pair .bool tInts) (.vr 10))) <|.call 1 (.mk2 tI tI (.vr 13) (.vr 14)) <|.prim (.lit 3 tI 1) (.p1 tI .bool (.vr 15)) <|.prim (.lapp 3 tI 8) (.mk2 tInts tInts (prA (.pair tI (.pair .bool tInts)) 2 (.vr 10)) (.vr 16)) <|.ite (pjA (.pair tI (.pair .bool tInts)) 1 (.vr 10)) (.prim (.ar .add .i64) (.mk2 tI tI (.p1 tI (.pair .bool tInts) (.vr 10)) (.ci .i64 1)) <|.again 0 (mkA (.pair tI (.pair .bool tInts)) [(.vr 18),(.cb true),(.vr 17)])) (.prim (.ar .add .i64) (.mk2 tI tI (.p1 tI (.pair .bool tInts) (.vr 10)) (.ci .i64 1)) <|.again 0 (mkA (.pair tI (.pair .bool tInts)) [(.vr 18),(prA (.pair tI .bool) 1 (.vr 15)),(.vr 17)]))) (.prim (.ar .add .i64) (.mk2 tI tI (.p1 tI (.pair .bool tInts) (.vr 7)) (.ci .i64 1)) <|.again 1 (.mk2 tI (.pair .bool tInts) (.vr 13) (prA (.pair tI (.pair .bool tInts)) 1 (.vr 10))))) (.ret (.mk2 (.pair tI tItem) .bool (mkA (.pair tI tItem) [(.vr 5),(.vr 6),(prA (.pair tI (.pair .bool tInts)) 2 (.vr 7))]) (pjA (.pair tI (.pair .bool tInts)) 1 (.vr 7))))))
set_option maxRecDepth 100000 in
theorem e_s_Outer:exFn Try.prog [c_s_VecOk,c_s_FixMul] c_s_Outer false 3000 ⟨[(2984,4007,drd 25 21++drd 19 12++[.tm 8 0,.tm 7 0,.sl 5]),(2973,12010,[.tm 9 0,.tm 7 0,.sl 5])],[]⟩ = .ok t_s_Outer:=by kernel_rfl
/- loops: (Int) × ((Bool) × (List (Int))) ¦ (Int) × ((Bool) × (List (Int))) -/
theorem v_s_Outer (x:PairD) (hx:okD tPair x) (hp:(fun _=>True) x):t_s_Outer.wp [c_s_VecOk,c_s_FixMul] [⟨tPair,x⟩] [] (fun v=>v.as (.pair (.pair tI tItem) .bool)=(fun x=>outer x.1 x.2) x):=by
 obtain ⟨d,v⟩:=x
 delta t_s_Outer c_s_VecOk c_s_FixMul;refine vcx ?_;try with_reducible exact True.intro
 simp only[Bool.not_eq_true',Bool.not_eq_false']
 refine ⟨fun h=>?_,fun h1=>⟨fun h=>?_,fun h2 _ _=>?_⟩⟩
 ·unfold outer;rw[if_neg (by rw[h];simp)];rfl
 ·unfold outer;rw[if_neg (by rw[h];simp)];rfl
 rw[show outer d v=_ from if_pos ⟨h1,h2⟩]
 have hd:=(vecB_iff d).1 h1
 have hv:=(vecB_iff v).1 h2
 refine loopF (fun i=>((i:Int),an i (outAny d v),catK (outRow d v) i)) d.length rfl fun I μ i hi _ go=>?_
 dsimp only
 (refine dcx ?_;try with_reducible exact True.intro)
 have hl:(catK (outRow d v) i).length=i * v.length:=catK_len (fun i=>mp_len _ _) i
 have hq:i * v.length≤36:=Nat.le_trans (Nat.mul_le_mul hi (show v.length≤6 by omega)) (by omega)
 generalize hD:catK (outRow d v) i=D at *
 generalize hA:an i (outAny d v)=A at *
 intro _
 constructor
 ·intro hlt
  refine loopF (fun j=>((j:Int),A || an j (fun j=>(fixMul (d.getD i 0) (v.getD j 0)).2),D++mp j fun j=>(fixMul (d.getD i 0) (v.getD j 0)).1)) v.length (by simp[mp_zero,an_zero]) fun I2 μ2 j hj _ go2=>?_
  dsimp only
  simp only[Int.toNat_natCast,Bool.not_eq_true',Bool.not_eq_false',Bool.and_eq_true,Bool.and_eq_false_iff,decide_eq_true_eq,decide_eq_false_iff_not,Int.not_lt,Int.not_le,ge_iff_le,gt_iff_lt,List.length_cons,List.length_nil,List.length_append,Nat.zero_add,List.nil_append,beq_iff_eq,beq_eq_false_iff_ne,bne_iff_ne,bne_eq_false_iff_eq,ne_eq,toNat_pred,toNat_succ,toNat_l0,toNat_l1,mp_len]
  have ea:(A || an (j+1) (fun j=>(fixMul (d.getD i 0) (v.getD j 0)).2))=((A || an j (fun j=>(fixMul (d.getD i 0) (v.getD j 0)).2)) || (fixMul (d.getD i 0) (v.getD j 0)).2):=by rw[an_succ,Bool.or_assoc]
  (repeat' first|intro _|(refine go2 _ ?_ ?_ ?_)|(refine go2 _ ?_ ?_)|(refine go _ ?_ ?_ ?_)|(refine go _ ?_ ?_)|(with_reducible apply And.intro))
  all_goals first|omega|(unfold maxLen;omega)|(rw[mp_succ,← List.append_assoc,ea];first|exact Prod.ext rfl (Prod.ext (or2_t (by assumption)) rfl)|exact Prod.ext rfl (Prod.ext (or2_f (by assumption)) rfl))|(have e:j=v.length:=(by omega);subst e;rw[catK,hD,an_succ,hA];rfl)
 ·intro hge
  have e:i=d.length:=by omega
  subst e
  rw[← hD,← hA]
theorem h_s_Outer:Con.Holds Try.prog c_s_Outer:=tree_ok mixedP (consAt h_s_VecOk (consAt h_s_FixMul consNil)) e_s_Outer fun x hx hp=>v_s_Outer x hx hp

/-! spec.l5Mat -/

noncomputable def c_s_l5Mat:Con:=⟨107,tOp,(.pair tI tItem),[.val ⟨true,tOp,[]⟩],[⟨true,(.pair tI tItem),[0,0,0]⟩],true,none,
 ((fun _=>True):(OpD)→Prop),
 ((fun x=>opMat x):(OpD)→(Int × ItemD))⟩
def t_s_l5Mat:T:=.ret (mkA (.pair tI tItem) [(pjA tOp 2 (.vr 0)),(pjA tOp 1 (.vr 0)),(prA tOp 3 (.vr 0))])
set_option maxRecDepth 100000 in
theorem e_s_l5Mat:exFn Try.prog [] c_s_l5Mat false 3000 ⟨[],[]⟩ = .ok t_s_l5Mat:=by kernel_rfl
theorem v_s_l5Mat (x:OpD) (hx:okD tOp x) (hp:(fun _=>True) x):t_s_l5Mat.wp [] [⟨tOp,x⟩] [] (fun v=>v.as (.pair tI tItem)=(fun x=>opMat x) x):=by
 delta t_s_l5Mat;refine vcx ?_;try with_reducible exact True.intro
 rfl
theorem h_s_l5Mat:Con.Holds Try.prog c_s_l5Mat:=tree_ok mixedP consNil e_s_l5Mat fun x hx hp=>v_s_l5Mat x hx hp

/-! spec.OpForward -/

noncomputable def c_s_OpForward:Con:=⟨49,(.pair tOp tInts),(.pair tInts .bool),[.val ⟨true,tOp,[]⟩,.val ⟨false,tInts,[]⟩],[⟨false,tInts,[2]⟩,⟨false,.bool,[0]⟩],false,none,
 ((fun _=>True):(OpD × IntsD)→Prop),
 ((fun x=>opFwd x.1 x.2):(OpD × IntsD)→(IntsD × Bool))⟩
def t_s_OpForward:T:=.call 0 (.p1 tOp tInts (.vr 0)) <|.prim .not (.vr 1) <|.ite (.vr 2) (.ret (.mk2 tInts .bool (.nl 3 tI) (.cb false))) (.call 1 (prA (.pair tOp tInts) 1 (.vr 0)) <|.prim .not (.vr 3) <|.ite (.vr 4) (.ret (.mk2 tInts .bool (.nl 3 tI) (.cb false))) (.prim (.llen 3 tI) (prA (.pair tOp tInts) 1 (.vr 0)) <|.prim (.cmp .neq .i64) (.mk2 tI tI (.vr 5) (pjA tOp 1 (.p1 tOp tInts (.vr 0)))) <|.ite (.vr 6) (.ret (.mk2 tInts .bool (.nl 3 tI) (.cb false))) (.prim (.cmp .eql .i64) (.mk2 tI tI (.p1 tI (.pair tI tItem) (.p1 tOp tInts (.vr 0))) (.ci .i64 1)) <|.ite (.vr 7) (.call 2 (.p1 tOp tInts (.vr 0)) <|.call 3 (.mk2 (.pair tI tItem) tInts (.vr 8) (prA (.pair tOp tInts) 1 (.vr 0))) <|.ret (.vr 9)) (.prim (.cmp .eql .i64) (.mk2 tI tI (.p1 tI (.pair tI tItem) (.p1 tOp tInts (.vr 0))) (.ci .i64 2)) <|.ite (.vr 8) (.call 4 (.mk2 tInts tInts (prA (.pair tOp tInts) 1 (.vr 0)) (prA tOp 3 (.p1 tOp tInts (.vr 0)))) <|.ret (.vr 9)) (.prim (.cmp .eql .i64) (.mk2 tI tI (.p1 tI (.pair tI tItem) (.p1 tOp tInts (.vr 0))) (.ci .i64 3)) <|.ite (.vr 9) (.call 5 (prA (.pair tOp tInts) 1 (.vr 0)) <|.ret (.mk2 tInts .bool (.vr 10) (.cb false))) (.prim (.cmp .eql .i64) (.mk2 tI tI (.p1 tI (.pair tI tItem) (.p1 tOp tInts (.vr 0))) (.ci .i64 4)) <|.ite (.vr 10) (.prim (.lidx 3 tI) (.mk2 tInts tI (prA tOp 3 (.p1 tOp tInts (.vr 0))) (.ci .i64 0)) <|.call 6 (.mk2 tI tInts (.vr 11) (prA (.pair tOp tInts) 1 (.vr 0))) <|.ret (.vr 12)) (.call 2 (.p1 tOp tInts (.vr 0)) <|.call 3 (.mk2 (.pair tI tItem) tInts (.vr 11) (prA (.pair tOp tInts) 1 (.vr 0))) <|.call 4 (.mk2 tInts tInts (prA (.pair tOp tInts) 1 (.vr 0)) (.p1 tInts .bool (.vr 12))) <|.ite (prA (.pair tInts .bool) 1 (.vr 12)) (.ret (.mk2 tInts .bool (.p1 tInts .bool (.vr 13)) (.cb true))) (.ret (.vr 13)))))))))
set_option maxRecDepth 100000 in
theorem e_s_OpForward:exFn Try.prog [c_s_OpOk,c_s_VecOk,c_s_l5Mat,c_s_MatVec,c_s_VecAdd,c_s_VecRelu,c_s_VecScale] c_s_OpForward false 3000 ⟨[],[]⟩ = .ok t_s_OpForward:=by kernel_rfl
theorem v_s_OpForward (x:OpD × IntsD) (hx:okD (.pair tOp tInts) x) (hp:(fun _=>True) x):t_s_OpForward.wp [c_s_OpOk,c_s_VecOk,c_s_l5Mat,c_s_MatVec,c_s_VecAdd,c_s_VecRelu,c_s_VecScale] [⟨(.pair tOp tInts),x⟩] [] (fun v=>v.as (.pair tInts .bool)=(fun x=>opFwd x.1 x.2) x):=by
 obtain ⟨⟨kd,i,ou,P⟩,v⟩:=x
 delta t_s_OpForward c_s_OpOk c_s_VecOk c_s_l5Mat c_s_MatVec c_s_VecAdd c_s_VecRelu c_s_VecScale;refine vcx ?_;try with_reducible exact True.intro
 simp only[Bool.not_eq_true',Bool.not_eq_false',neqI_t,neqI_f]
 refine ⟨fun h=>?_,fun h1=>⟨fun h=>?_,fun h2 _=>⟨fun h=>?_,fun h3=>?_⟩⟩⟩
 ·unfold opFwd;rw[if_pos (by rw[h];simp)]
 ·unfold opFwd vecN;rw[if_pos (by rw[h];simp)]
 ·unfold opFwd;rw[if_pos (fun hh=>h ((vecN_iff _ _).1 hh.2).2)]
 have h9:vecN v i=true:=(vecN_iff _ _).2 ⟨h2,h3⟩
 clear h2 h3
 have h4:=op4_len h1
 have hk:=((opB_iff _).1 h1).1
 dsimp only at h4 hk
 (refine dcx ?_;try with_reducible exact True.intro)
 (repeat' first|intro _|(with_reducible apply And.intro))
 all_goals first|omega|(simp_all[opFwd];done)|(have e5:kd=5:=(by omega);subst e5;simp_all[opFwd];done)
theorem h_s_OpForward:Con.Holds Try.prog c_s_OpForward:=tree_ok mixedP (consAt h_s_OpOk (consAt h_s_VecOk (consAt h_s_l5Mat (consAt h_s_MatVec (consAt h_s_VecAdd (consAt h_s_VecRelu (consAt h_s_VecScale consNil))))))) e_s_OpForward fun x hx hp=>v_s_OpForward x hx hp

/-! spec.OpBackward -/

noncomputable def c_s_OpBackward:Con:=⟨174,(.pair tOp tPair),(.pair tInts (.pair tInts .bool)),[.val ⟨true,tOp,[]⟩,.val ⟨false,tInts,[]⟩,.val ⟨false,tInts,[]⟩],[⟨false,tInts,[2]⟩,⟨false,tInts,[2]⟩,⟨false,.bool,[0]⟩],false,none,
 ((fun _=>True):(OpD × PairD)→Prop),
 ((fun x=>opBwd x.1 x.2.1 x.2.2):(OpD × PairD)→(IntsD × (IntsD × Bool)))⟩
def t_s_OpBackward:T:=.call 0 (.p1 tOp tPair (.vr 0)) <|.prim .not (.vr 1) <|.ite (.vr 2) (.ret (mkA (.pair tInts (.pair tInts .bool)) [(.nl 3 tI),(.nl 3 tI),(.cb false)])) (.call 1 (pjA (.pair tOp tPair) 1 (.vr 0)) <|.prim .not (.vr 3) <|.ite (.vr 4) (.ret (mkA (.pair tInts (.pair tInts .bool)) [(.nl 3 tI),(.nl 3 tI),(.cb false)])) (.prim (.llen 3 tI) (pjA (.pair tOp tPair) 1 (.vr 0)) <|.prim (.cmp .neq .i64) (.mk2 tI tI (.vr 5) (pjA tOp 1 (.p1 tOp tPair (.vr 0)))) <|.ite (.vr 6) (.ret (mkA (.pair tInts (.pair tInts .bool)) [(.nl 3 tI),(.nl 3 tI),(.cb false)])) (.call 1 (prA (.pair tOp tPair) 2 (.vr 0)) <|.prim .not (.vr 7) <|.ite (.vr 8) (.ret (mkA (.pair tInts (.pair tInts .bool)) [(.nl 3 tI),(.nl 3 tI),(.cb false)])) (.prim (.llen 3 tI) (prA (.pair tOp tPair) 2 (.vr 0)) <|.prim (.cmp .neq .i64) (.mk2 tI tI (.vr 9) (pjA tOp 2 (.p1 tOp tPair (.vr 0)))) <|.ite (.vr 10) (.ret (mkA (.pair tInts (.pair tInts .bool)) [(.nl 3 tI),(.nl 3 tI),(.cb false)])) (.prim (.cmp .eql .i64) (.mk2 tI tI (.p1 tI (.pair tI tItem) (.p1 tOp tPair (.vr 0))) (.ci .i64 2)) <|.ite (.vr 11) (.prim (.lapp 3 tI 8) (.mk2 tInts tInts (.nl 3 tI) (prA (.pair tOp tPair) 2 (.vr 0))) <|.prim (.lapp 3 tI 8) (.mk2 tInts tInts (.nl 3 tI) (prA (.pair tOp tPair) 2 (.vr 0))) <|.ret (mkA (.pair tInts (.pair tInts .bool)) [(.vr 12),(.vr 13),(.cb false)])) (.prim (.cmp .eql .i64) (.mk2 tI tI (.p1 tI (.pair tI tItem) (.p1 tOp tPair (.vr 0))) (.ci .i64 3)) <|.ite (.vr 12) (.call 2 (prA (.pair tOp tPair) 1 (.vr 0)) <|.ret (mkA (.pair tInts (.pair tInts .bool)) [(.vr 13),(.nl 3 tI),(.cb false)])) (.prim (.cmp .eql .i64) (.mk2 tI tI (.p1 tI (.pair tI tItem) (.p1 tOp tPair (.vr 0))) (.ci .i64 4)) <|.ite (.vr 13) (.prim (.lidx 3 tI) (.mk2 tInts tI (prA tOp 3 (.p1 tOp tPair (.vr 0))) (.ci .i64 0)) <|.call 3 (.mk2 tI tInts (.vr 14) (prA (.pair tOp tPair) 2 (.vr 0))) <|.call 4 (.mk2 tInts tInts (prA (.pair tOp tPair) 2 (.vr 0)) (pjA (.pair tOp tPair) 1 (.vr 0))) <|.prim (.lit 3 tI 1) (.p1 tI .bool (.vr 16)) <|.ite (prA (.pair tInts .bool) 1 (.vr 15)) (.ret (mkA (.pair tInts (.pair tInts .bool)) [(.p1 tInts .bool (.vr 15)),(.vr 17),(.cb true)])) (.ret (mkA (.pair tInts (.pair tInts .bool)) [(.p1 tInts .bool (.vr 15)),(.vr 17),(prA (.pair tI .bool) 1 (.vr 16))]))) (.call 5 (.p1 tOp tPair (.vr 0)) <|.call 6 (.mk2 (.pair tI tItem) tInts (.vr 14) (prA (.pair tOp tPair) 2 (.vr 0))) <|.call 7 (.mk2 tInts tInts (prA (.pair tOp tPair) 2 (.vr 0)) (pjA (.pair tOp tPair) 1 (.vr 0))) <|.prim (.cmp .eql .i64) (.mk2 tI tI (.p1 tI (.pair tI tItem) (.p1 tOp tPair (.vr 0))) (.ci .i64 1)) <|.ite (.vr 17) (.ite (prA (.pair tInts .bool) 1 (.vr 15)) (.ret (mkA (.pair tInts (.pair tInts .bool)) [(.p1 tInts .bool (.vr 15)),(prA (.pair tI tItem) 2 (.p1 (.pair tI tItem) .bool (.vr 16))),(.cb true)])) (.ret (mkA (.pair tInts (.pair tInts .bool)) [(.p1 tInts .bool (.vr 15)),(prA (.pair tI tItem) 2 (.p1 (.pair tI tItem) .bool (.vr 16))),(prA (.pair (.pair tI tItem) .bool) 1 (.vr 16))]))) (.call 8 (.mk2 tInts tInts (prA (.pair tOp tPair) 2 (.vr 0)) (.p1 tInts .bool (.vr 15))) <|.ite (prA (.pair tInts .bool) 1 (.vr 15)) (.ret (mkA (.pair tInts (.pair tInts .bool)) [(.p1 tInts .bool (.vr 18)),(prA (.pair tI tItem) 2 (.p1 (.pair tI tItem) .bool (.vr 16))),(.cb true)])) (.ite (prA (.pair (.pair tI tItem) .bool) 1 (.vr 16)) (.ret (mkA (.pair tInts (.pair tInts .bool)) [(.p1 tInts .bool (.vr 18)),(prA (.pair tI tItem) 2 (.p1 (.pair tI tItem) .bool (.vr 16))),(.cb true)])) (.ret (mkA (.pair tInts (.pair tInts .bool)) [(.p1 tInts .bool (.vr 18)),(prA (.pair tI tItem) 2 (.p1 (.pair tI tItem) .bool (.vr 16))),(prA (.pair tInts .bool) 1 (.vr 18))]))))))))))))
set_option maxRecDepth 100000 in
theorem e_s_OpBackward:exFn Try.prog [c_s_OpOk,c_s_VecOk,c_s_VecMask,c_s_VecScale,c_s_VecDot,c_s_l5Mat,c_s_MatBack,c_s_Outer,c_s_VecAdd] c_s_OpBackward false 3000 ⟨[],[]⟩ = .ok t_s_OpBackward:=by kernel_rfl
theorem v_s_OpBackward (x:OpD × PairD) (hx:okD (.pair tOp tPair) x) (hp:(fun _=>True) x):t_s_OpBackward.wp [c_s_OpOk,c_s_VecOk,c_s_VecMask,c_s_VecScale,c_s_VecDot,c_s_l5Mat,c_s_MatBack,c_s_Outer,c_s_VecAdd] [⟨(.pair tOp tPair),x⟩] [] (fun v=>v.as (.pair tInts (.pair tInts .bool))=(fun x=>opBwd x.1 x.2.1 x.2.2) x):=by
 obtain ⟨⟨kd,i,ou,P⟩,v,d⟩:=x
 delta t_s_OpBackward c_s_OpOk c_s_VecOk c_s_VecMask c_s_VecScale c_s_VecDot c_s_l5Mat c_s_MatBack c_s_Outer c_s_VecAdd;refine vcx ?_;try with_reducible exact True.intro
 simp only[Bool.not_eq_true',Bool.not_eq_false',neqI_t,neqI_f]
 refine ⟨fun h=>?_,fun h1=>⟨fun h=>?_,fun h2 _=>⟨fun h=>?_,fun h3=>⟨fun h=>?_,fun h5 _=>⟨fun h=>?_,fun h6=>?_⟩⟩⟩⟩⟩
 ·unfold opBwd;rw[if_pos (by rw[h];simp)]
 ·unfold opBwd vecN;rw[if_pos (by rw[h];simp)]
 ·unfold opBwd;rw[if_pos (fun hh=>h ((vecN_iff _ _).1 hh.2.1).2)]
 ·unfold opBwd vecN;rw[if_pos (by rw[h];simp)]
 ·unfold opBwd;rw[if_pos (fun hh=>h ((vecN_iff _ _).1 hh.2.2).2)]
 have h9:vecN v i=true:=(vecN_iff _ _).2 ⟨h2,h3⟩
 have h10:vecN d ou=true:=(vecN_iff _ _).2 ⟨h5,h6⟩
 have hd:=(vecB_iff d).1 h5
 clear h2 h3 h5 h6
 have h4:=op4_len h1
 have hk:=((opB_iff _).1 h1).1
 dsimp only at h4 hk
 rcases (show kd=1∨kd=2∨kd=3∨kd=4∨kd=5 by omega) with rfl|rfl|rfl|rfl|rfl
 all_goals
  (refine dcx ?_;try with_reducible exact True.intro)
  clear hk hx
  (repeat' first|intro _|(with_reducible apply And.intro))
  all_goals first|omega|(unfold maxLen;omega)|exact absurd trivial (by assumption)|(unfold opBwd;rw[if_neg (by simp[h1,h9,h10]),if_neg (by simp),if_neg (by simp),if_pos rfl];first|exact Prod.ext rfl (Prod.ext rfl (or2_t (by assumption)))|exact Prod.ext rfl (Prod.ext rfl (or2_f (by assumption))))|(simp[opBwd,h1,h9,h10, *];done)
theorem h_s_OpBackward:Con.Holds Try.prog c_s_OpBackward:=tree_ok mixedP (consAt h_s_OpOk (consAt h_s_VecOk (consAt h_s_VecMask (consAt h_s_VecScale (consAt h_s_VecDot (consAt h_s_l5Mat (consAt h_s_MatBack (consAt h_s_Outer (consAt h_s_VecAdd consNil))))))))) e_s_OpBackward fun x hx hp=>v_s_OpBackward x hx hp
end Go.Proofs.Ytahggdiafncdhaa
