/- Lin2: trees, and what they say. -/
import Derived.Test.YtahggdiafncdhaaLoop
import Derived.Test.YtahggdiafncdhaaStage3
namespace Go.Proofs.Ytahggdiafncdhaa
open Go.ChangeShapes Go.WideShapes Go.ChangeAt Go.RowKit Go.Deep
set_option linter.unusedVariables false
set_option linter.unusedSimpArgs false
/-- Rows by places. -/
def mp {α:Type} (n:Nat) (g:Nat→α):List α:=(List.range n).map g
def an (n:Nat) (h:Nat→Bool):Bool:=(List.range n).any h
theorem mp_zero {α:Type} (g:Nat→α):mp 0 g=[]:=rfl
theorem an_zero (h:Nat→Bool):an 0 h=false:=rfl
theorem mp_succ {α:Type} (n:Nat) (g:Nat→α):mp (n+1) g=mp n g++[g n]:=by unfold mp;rw[List.range_succ,List.map_append];rfl
theorem an_succ (n:Nat) (h:Nat→Bool):an (n+1) h=(an n h || h n):=by unfold an;rw[List.range_succ,List.any_append];simp
theorem mp_len {α:Type} (n:Nat) (g:Nat→α):(mp n g).length=n:=by unfold mp;simp
theorem mp_getD {α:Type} (n:Nat) (g:Nat→α) (d:α) {i:Nat} (h:i<n):(mp n g).getD i d=g i:=by unfold mp;simp[h]
theorem mp_self {α:Type} (l:List α) (d:α):mp l.length (fun i=>l.getD i d)=l:=by
 refine List.ext_getElem (mp_len _ _) fun i h1 h2=>?_
 rw[← getD_at h1 (d:=d),mp_getD _ _ _ h2,getD_at h2]
theorem mp_cong {α:Type} {n:Nat} {g h:Nat→α} (e:∀ i,i<n→g i=h i):mp n g=mp n h:=List.map_congr_left fun i hi=>e i (List.mem_range.1 hi)
theorem an_cong {n:Nat} {g h:Nat→Bool} (e:∀ i,i<n→g i=h i):an n g=an n h:=by
 rw[Bool.eq_iff_iff];unfold an;simp only[List.any_eq_true,List.mem_range]
 exact ⟨fun ⟨i,h1,h2⟩=>⟨i,h1,by rw[← e i h1];exact h2⟩,fun ⟨i,h1,h2⟩=>⟨i,h1,by rw[e i h1];exact h2⟩⟩
theorem or2_t {a b:Bool} (h:a=true):true=(a || b):=by rw[h];rfl
theorem or2_f {a b:Bool} (h:a=false):b=(a || b):=by rw[h];rfl
theorem or3_t {a b c:Bool} (h:a=true):true=((a || b) || c):=by rw[h];rfl
theorem or3_u {a b c:Bool} (h:a=false) (h2:b=true):true=((a || b) || c):=by rw[h,h2];rfl
theorem or3_f {a b c:Bool} (h:a=false) (h2:b=false):c=((a || b) || c):=by rw[h,h2];rfl
def fixSub (a b:Int):Int × Bool:=satI (clampI a - clampI b)
def fixMul (a b:Int):Int × Bool:=satI ((clampI a * clampI b).fdiv 65536)
def reluI (x:Int):Int:=max 0 (clampI x)
theorem mulB {x y:Int} (h1:-2147483647≤x∧x≤2147483647) (h2:-2147483647≤y∧y≤2147483647):-4611686014132420609≤x * y∧x * y≤4611686014132420609:=by
 have h:(x * y).natAbs≤2147483647 * 2147483647:=by
  rw[Int.natAbs_mul];exact Nat.mul_le_mul (by omega) (by omega)
 omega
theorem tdivB {a:Int} (h:-9223372036854775808≤a∧a≤9223372036854775807):-140737488355328≤a.tdiv 65536∧a.tdiv 65536≤140737488355328:=by
 rcases Int.le_total 0 a with h1|h1
 ·rw[Int.tdiv_eq_ediv_of_nonneg h1];omega
 ·have e1:a.tdiv 65536 = -((-a) / 65536):=by
   rw[← Int.neg_neg a,Int.neg_tdiv,Int.tdiv_eq_ediv_of_nonneg (by omega),Int.neg_neg]
  omega
theorem floor_eq (x:Int):x.fdiv 65536=(if x.tmod 65536≠0∧x<0 then x.tdiv 65536 - 1 else x.tdiv 65536):=by
 rw[Int.fdiv_eq_ediv_of_nonneg _ (by decide)]
 rcases Int.le_total 0 x with h|h
 ·rw[Int.tdiv_eq_ediv_of_nonneg h,if_neg (by omega)]
 ·have e1:x.tdiv 65536 = -((-x) / 65536):=by
   rw[← Int.neg_neg x,Int.neg_tdiv,Int.tdiv_eq_ediv_of_nonneg (by omega),Int.neg_neg]
  have e2:x.tmod 65536 = -((-x) % 65536):=by
   rw[← Int.neg_neg x,Int.neg_tmod,Int.tmod_eq_emod_of_nonneg (by omega),Int.neg_neg]
  rw[e1,e2]
  split <;> omega
def pairB (a b:List Int):Bool:=vecB a&&vecN b (a.length:Int)
def vz (f:Int→Int→Int × Bool) (a b:List Int) (n:Nat):List Int × Bool:=(mp n fun i=>(f (a.getD i 0) (b.getD i 0)).1,an n fun i=>(f (a.getD i 0) (b.getD i 0)).2)
def vecZ (f:Int→Int→Int × Bool) (a b:List Int):List Int × Bool:=if pairB a b=true then vz f a b a.length else ([],false)
def vecS1 (c:Int) (a:List Int):List Int × Bool:=if fixB c=true∧vecB a=true then (mp a.length fun i=>(fixMul c (a.getD i 0)).1,an a.length fun i=>(fixMul c (a.getD i 0)).2) else ([],false)
def dotK (a b:List Int):Nat→Int × Bool
 | 0=>(0,false)
 | k+1=>((fixAdd (dotK a b k).1 (fixMul (a.getD k 0) (b.getD k 0)).1).1,(dotK a b k).2 || (fixMul (a.getD k 0) (b.getD k 0)).2 || (fixAdd (dotK a b k).1 (fixMul (a.getD k 0) (b.getD k 0)).1).2)
def vecDot (a b:List Int):Int × Bool:=if pairB a b=true then dotK a b a.length else (0,false)
def vecRelu (a:List Int):List Int:=if vecB a=true then mp a.length fun i=>reluI (a.getD i 0) else []
def vecMask (x d:List Int):List Int:=if pairB x d=true then mp x.length fun i=>if 0<x.getD i 0 then d.getD i 0 else 0 else []
theorem pairB_iff (a b:List Int):pairB a b=true↔vecB a=true∧vecN b (a.length:Int)=true:=by unfold pairB;rw[Bool.and_eq_true]
theorem pairB_len {a b:List Int} (h:pairB a b=true):a.length≤6∧b.length=a.length:=by
 obtain ⟨h1,h2⟩:=(pairB_iff a b).1 h
 have:=(vecB_iff a).1 h1
 have:=(vecN_iff _ _).1 h2
 omega
theorem vecZ_no {f:Int→Int→Int × Bool} {a b:List Int} (h:pairB a b=false):([],false)=vecZ f a b:=by unfold vecZ;rw[if_neg (by rw[h];exact Bool.false_ne_true)]
theorem vecZ_yes {f:Int→Int→Int × Bool} {a b:List Int} (h:pairB a b=true):vecZ f a b=vz f a b a.length:=if_pos h
theorem dotK_succ (a b:List Int) (k:Nat):dotK a b (k+1)=((fixAdd (dotK a b k).1 (fixMul (a.getD k 0) (b.getD k 0)).1).1,(dotK a b k).2 || (fixMul (a.getD k 0) (b.getD k 0)).2 || (fixAdd (dotK a b k).1 (fixMul (a.getD k 0) (b.getD k 0)).1).2):=rfl
theorem l3_eq (a b:List Int):(vecB a&&(vecB b&&decide (a.length=b.length)))=pairB a b:=by
 unfold pairB vecN
 congr 2
 rw[Bool.eq_iff_iff,decide_eq_true_eq,decide_eq_true_eq];omega

/-! impl.FixSub -/

noncomputable def c_i_FixSub:Con:=⟨77,tIns,(.pair tI .bool),[.val ⟨false,tI,[]⟩,.val ⟨false,tI,[]⟩],[⟨false,tI,[0]⟩,⟨false,.bool,[0]⟩],false,none,
 ((fun _=>True):(Int × Int)→Prop),
 ((fun x=>fixSub x.1 x.2):(Int × Int)→(Int × Bool))⟩
def t_i_FixSub:T:=.call 0 (.p1 tI tI (.vr 0)) <|.call 0 (prA tIns 1 (.vr 0)) <|.prim (.ar .sub .i64) (.mk2 tI tI (.vr 1) (.vr 2)) <|.call 1 (.vr 3) <|.ret (.vr 4)
set_option maxRecDepth 100000 in
theorem e_i_FixSub:exFn Try.prog [c_i_clamp,c_i_settle] c_i_FixSub false 3000 ⟨[],[]⟩ = .ok t_i_FixSub:=by kernel_rfl
theorem v_i_FixSub (x:Int × Int) (hx:okD tIns x) (hp:(fun _=>True) x):t_i_FixSub.wp [c_i_clamp,c_i_settle] [⟨tIns,x⟩] [] (fun v=>v.as (.pair tI .bool)=(fun x=>fixSub x.1 x.2) x):=by
 delta t_i_FixSub c_i_clamp c_i_settle;refine vcx ?_;try with_reducible exact True.intro
 intro _ _
 have h1:=clampI_b x.1
 have h2:=clampI_b x.2
 exact ⟨by omega,fun _ _=>rfl⟩
theorem h_i_FixSub:Con.Holds Try.prog c_i_FixSub:=tree_ok mixedP (consAt h_i_clamp (consAt h_i_settle consNil)) e_i_FixSub fun x hx hp=>v_i_FixSub x hx hp

/-! impl.FixMul -/

noncomputable def c_i_FixMul:Con:=⟨76,tIns,(.pair tI .bool),[.val ⟨false,tI,[]⟩,.val ⟨false,tI,[]⟩],[⟨false,tI,[0]⟩,⟨false,.bool,[0]⟩],false,none,
 ((fun _=>True):(Int × Int)→Prop),
 ((fun x=>fixMul x.1 x.2):(Int × Int)→(Int × Bool))⟩
def t_i_FixMul:T:=.call 0 (.p1 tI tI (.vr 0)) <|.call 0 (prA tIns 1 (.vr 0)) <|.prim (.ar .mul .i64) (.mk2 tI tI (.vr 1) (.vr 2)) <|.prim (.shr .i64 .u64) (.mk2 tI (.int .u64) (.vr 3) (.ci .u64 16)) <|.call 1 (.vr 4) <|.ret (.vr 5)
set_option maxRecDepth 100000 in
theorem e_i_FixMul:exFn Try.prog [c_i_clamp,c_i_settle] c_i_FixMul false 3000 ⟨[],[]⟩ = .ok t_i_FixMul:=by kernel_rfl
theorem v_i_FixMul (x:Int × Int) (hx:okD tIns x) (hp:(fun _=>True) x):t_i_FixMul.wp [c_i_clamp,c_i_settle] [⟨tIns,x⟩] [] (fun v=>v.as (.pair tI .bool)=(fun x=>fixMul x.1 x.2) x):=by
 delta t_i_FixMul c_i_clamp c_i_settle;refine vcx ?_;try with_reducible exact True.intro
 have h:=mulB (clampI_b x.1) (clampI_b x.2)
 exact fun _ _=>⟨by omega,fun _=>⟨by omega,fun _ _=>rfl⟩⟩
theorem h_i_FixMul:Con.Holds Try.prog c_i_FixMul:=tree_ok mixedP (consAt h_i_clamp (consAt h_i_settle consNil)) e_i_FixMul fun x hx hp=>v_i_FixMul x hx hp

/-! impl.Relu -/

noncomputable def c_i_Relu:Con:=⟨170,tI,tI,[.val ⟨false,tI,[]⟩],[⟨false,tI,[0]⟩],false,none,
 ((fun _=>True):(Int)→Prop),
 ((fun x=>reluI x):(Int)→(Int))⟩
def t_i_Relu:T:=.call 0 (.vr 0) <|.prim (.mx .i64) (.mk2 tI tI (.ci .i64 0) (.vr 1)) <|.ret (.vr 2)
set_option maxRecDepth 100000 in
theorem e_i_Relu:exFn Try.prog [c_i_clamp] c_i_Relu false 3000 ⟨[],[]⟩ = .ok t_i_Relu:=by kernel_rfl
theorem v_i_Relu (x:Int) (hx:okD tI x) (hp:(fun _=>True) x):t_i_Relu.wp [c_i_clamp] [⟨tI,x⟩] [] (fun v=>v.as tI=(fun x=>reluI x) x):=by
 delta t_i_Relu c_i_clamp;refine vcx ?_;try with_reducible exact True.intro
 exact fun _ _=>rfl
theorem h_i_Relu:Con.Holds Try.prog c_i_Relu:=tree_ok mixedP (consAt h_i_clamp consNil) e_i_Relu fun x hx hp=>v_i_Relu x hx hp

/-! impl.pairOk -/

noncomputable def c_i_pairOk:Con:=⟨158,tPair,.bool,[.val ⟨false,tInts,[]⟩,.val ⟨false,tInts,[]⟩],[⟨false,.bool,[0]⟩],false,none,
 ((fun _=>True):(PairD)→Prop),
 ((fun x=>pairB x.1 x.2):(PairD)→(Bool))⟩
def t_i_pairOk:T:=.call 0 (.p1 tInts tInts (.vr 0)) <|.ite (.vr 1) (.prim (.llen 3 tI) (.p1 tInts tInts (.vr 0)) <|.call 1 (.mk2 tInts tI (prA tPair 1 (.vr 0)) (.vr 2)) <|.ret (.vr 3)) (.ret (.cb false))
set_option maxRecDepth 100000 in
theorem e_i_pairOk:exFn Try.prog [c_i_VecOk,c_i_vecOf] c_i_pairOk false 3000 ⟨[],[]⟩ = .ok t_i_pairOk:=by kernel_rfl
theorem v_i_pairOk (x:PairD) (hx:okD tPair x) (hp:(fun _=>True) x):t_i_pairOk.wp [c_i_VecOk,c_i_vecOf] [⟨tPair,x⟩] [] (fun v=>v.as .bool=(fun x=>pairB x.1 x.2) x):=by
 delta t_i_pairOk c_i_VecOk c_i_vecOf;refine vcx ?_;try with_reducible exact True.intro
 refine ⟨fun h _=>?_,fun h=>?_⟩
 ·unfold pairB;rw[h,Bool.true_and]
 ·unfold pairB;rw[h,Bool.false_and]
theorem h_i_pairOk:Con.Holds Try.prog c_i_pairOk:=tree_ok mixedP (consAt h_i_VecOk (consAt h_i_vecOf consNil)) e_i_pairOk fun x hx hp=>v_i_pairOk x hx hp

/-! impl.VecAdd -/

noncomputable def c_i_VecAdd:Con:=⟨148,tPair,(.pair tInts .bool),[.val ⟨false,tInts,[]⟩,.val ⟨false,tInts,[]⟩],[⟨false,tInts,[2]⟩,⟨false,.bool,[0]⟩],false,none,
 ((fun _=>True):(PairD)→Prop),
 ((fun x=>vecZ fixAdd x.1 x.2):(PairD)→(IntsD × Bool))⟩
def t_i_VecAdd:T:=.call 0 (.vr 0) <|.prim .not (.vr 1) <|.ite (.vr 2) (.ret (.mk2 tInts .bool (.nl 3 tI) (.cb false))) (.prim (.llen 3 tI) (.p1 tInts tInts (.vr 0)) <|.loop (.pair tI (.pair .bool tInts)) (mkA (.pair tI (.pair .bool tInts)) [(.ci .i64 0),(.cb false),(.nl 3 tI)]) <|.prim (.cmp .lss .i64) (.mk2 tI tI (.p1 tI (.pair .bool tInts) (.vr 4)) (.vr 3)) <|.ite (.vr 5) (.prim (.lidx 3 tI) (.mk2 tInts tI (.p1 tInts tInts (.vr 0)) (.p1 tI (.pair .bool tInts) (.vr 4))) <|.prim (.lidx 3 tI) (.mk2 tInts tI (prA tPair 1 (.vr 0)) (.p1 tI (.pair .bool tInts) (.vr 4))) <|.call 1 (.mk2 tI tI (.vr 6) (.vr 7)) <|.prim (.lit 3 tI 1) (.p1 tI .bool (.vr 8)) <|.prim (.lapp 3 tI 8) (.mk2 tInts tInts (prA (.pair tI (.pair .bool tInts)) 2 (.vr 4)) (.vr 9)) <|.ite (pjA (.pair tI (.pair .bool tInts)) 1 (.vr 4)) (.prim (.ar .add .i64) (.mk2 tI tI (.p1 tI (.pair .bool tInts) (.vr 4)) (.ci .i64 1)) <|.again 0 (mkA (.pair tI (.pair .bool tInts)) [(.vr 11),(.cb true),(.vr 10)])) (.prim (.ar .add .i64) (.mk2 tI tI (.p1 tI (.pair .bool tInts) (.vr 4)) (.ci .i64 1)) <|.again 0 (mkA (.pair tI (.pair .bool tInts)) [(.vr 11),(prA (.pair tI .bool) 1 (.vr 8)),(.vr 10)]))) (.ret (.mk2 tInts .bool (prA (.pair tI (.pair .bool tInts)) 2 (.vr 4)) (pjA (.pair tI (.pair .bool tInts)) 1 (.vr 4)))))
set_option maxRecDepth 100000 in
theorem e_i_VecAdd:exFn Try.prog [c_i_pairOk,c_i_FixAdd] c_i_VecAdd false 3000 ⟨[(2984,2004,drd 16 11++[.tm 18 0,.tm 7 0,.on 6,.sl 1])],[]⟩ = .ok t_i_VecAdd:=by kernel_rfl
/- loops: (Int) × ((Bool) × (List (Int))) -/
theorem v_i_VecAdd (x:PairD) (hx:okD tPair x) (hp:(fun _=>True) x):t_i_VecAdd.wp [c_i_pairOk,c_i_FixAdd] [⟨tPair,x⟩] [] (fun v=>v.as (.pair tInts .bool)=(fun x=>vecZ fixAdd x.1 x.2) x):=by
 obtain ⟨a,b⟩:=x
 delta t_i_VecAdd c_i_pairOk c_i_FixAdd;refine vcx ?_;try with_reducible exact True.intro
 simp only[Bool.not_eq_true',Bool.not_eq_false']
 refine ⟨vecZ_no,fun h _=>?_⟩
 have hl:=pairB_len h
 rw[vecZ_yes h]
 refine loopF (fun k=>((k:Int),an k (fun i=>(fixAdd (a.getD i 0) (b.getD i 0)).2),mp k fun i=>(fixAdd (a.getD i 0) (b.getD i 0)).1)) a.length rfl fun I μ k hk _ go=>?_
 dsimp only
 simp only[Int.toNat_natCast,Bool.not_eq_true',Bool.not_eq_false',Bool.and_eq_true,Bool.and_eq_false_iff,decide_eq_true_eq,decide_eq_false_iff_not,Int.not_lt,Int.not_le,ge_iff_le,gt_iff_lt,List.length_cons,List.length_nil,List.length_append,Nat.zero_add,List.nil_append,beq_iff_eq,beq_eq_false_iff_ne,bne_iff_ne,bne_eq_false_iff_eq,ne_eq,toNat_pred,toNat_succ,toNat_l0,toNat_l1,mp_len]
 (repeat' first|intro _|(refine go _ ?_ ?_ ?_)|(refine go _ ?_ ?_)|(with_reducible apply And.intro))
 all_goals first|omega|(unfold maxLen;omega)|(rw[mp_succ,an_succ];first|exact Prod.ext rfl (Prod.ext (or2_t (by assumption)) rfl)|exact Prod.ext rfl (Prod.ext (or2_f (by assumption)) rfl))|(have e:k=a.length:=(by omega);subst e;rfl)
theorem h_i_VecAdd:Con.Holds Try.prog c_i_VecAdd:=tree_ok mixedP (consAt h_i_pairOk (consAt h_i_FixAdd consNil)) e_i_VecAdd fun x hx hp=>v_i_VecAdd x hx hp

/-! impl.VecSub -/

noncomputable def c_i_VecSub:Con:=⟨113,tPair,(.pair tInts .bool),[.val ⟨false,tInts,[]⟩,.val ⟨false,tInts,[]⟩],[⟨false,tInts,[2]⟩,⟨false,.bool,[0]⟩],false,none,
 ((fun _=>True):(PairD)→Prop),
 ((fun x=>vecZ fixSub x.1 x.2):(PairD)→(IntsD × Bool))⟩
def t_i_VecSub:T:=.call 0 (.vr 0) <|.prim .not (.vr 1) <|.ite (.vr 2) (.ret (.mk2 tInts .bool (.nl 3 tI) (.cb false))) (.prim (.llen 3 tI) (.p1 tInts tInts (.vr 0)) <|.loop (.pair tI (.pair .bool tInts)) (mkA (.pair tI (.pair .bool tInts)) [(.ci .i64 0),(.cb false),(.nl 3 tI)]) <|.prim (.cmp .lss .i64) (.mk2 tI tI (.p1 tI (.pair .bool tInts) (.vr 4)) (.vr 3)) <|.ite (.vr 5) (.prim (.lidx 3 tI) (.mk2 tInts tI (.p1 tInts tInts (.vr 0)) (.p1 tI (.pair .bool tInts) (.vr 4))) <|.prim (.lidx 3 tI) (.mk2 tInts tI (prA tPair 1 (.vr 0)) (.p1 tI (.pair .bool tInts) (.vr 4))) <|.call 1 (.mk2 tI tI (.vr 6) (.vr 7)) <|.prim (.lit 3 tI 1) (.p1 tI .bool (.vr 8)) <|.prim (.lapp 3 tI 8) (.mk2 tInts tInts (prA (.pair tI (.pair .bool tInts)) 2 (.vr 4)) (.vr 9)) <|.ite (pjA (.pair tI (.pair .bool tInts)) 1 (.vr 4)) (.prim (.ar .add .i64) (.mk2 tI tI (.p1 tI (.pair .bool tInts) (.vr 4)) (.ci .i64 1)) <|.again 0 (mkA (.pair tI (.pair .bool tInts)) [(.vr 11),(.cb true),(.vr 10)])) (.prim (.ar .add .i64) (.mk2 tI tI (.p1 tI (.pair .bool tInts) (.vr 4)) (.ci .i64 1)) <|.again 0 (mkA (.pair tI (.pair .bool tInts)) [(.vr 11),(prA (.pair tI .bool) 1 (.vr 8)),(.vr 10)]))) (.ret (.mk2 tInts .bool (prA (.pair tI (.pair .bool tInts)) 2 (.vr 4)) (pjA (.pair tI (.pair .bool tInts)) 1 (.vr 4)))))
set_option maxRecDepth 100000 in
theorem e_i_VecSub:exFn Try.prog [c_i_pairOk,c_i_FixSub] c_i_VecSub false 3000 ⟨[(2984,2004,drd 16 11++[.tm 18 0,.tm 7 0,.on 6,.sl 1])],[]⟩ = .ok t_i_VecSub:=by kernel_rfl
/- loops: (Int) × ((Bool) × (List (Int))) -/
theorem v_i_VecSub (x:PairD) (hx:okD tPair x) (hp:(fun _=>True) x):t_i_VecSub.wp [c_i_pairOk,c_i_FixSub] [⟨tPair,x⟩] [] (fun v=>v.as (.pair tInts .bool)=(fun x=>vecZ fixSub x.1 x.2) x):=by
 obtain ⟨a,b⟩:=x
 delta t_i_VecSub c_i_pairOk c_i_FixSub;refine vcx ?_;try with_reducible exact True.intro
 simp only[Bool.not_eq_true',Bool.not_eq_false']
 refine ⟨vecZ_no,fun h _=>?_⟩
 have hl:=pairB_len h
 rw[vecZ_yes h]
 refine loopF (fun k=>((k:Int),an k (fun i=>(fixSub (a.getD i 0) (b.getD i 0)).2),mp k fun i=>(fixSub (a.getD i 0) (b.getD i 0)).1)) a.length rfl fun I μ k hk _ go=>?_
 dsimp only
 simp only[Int.toNat_natCast,Bool.not_eq_true',Bool.not_eq_false',Bool.and_eq_true,Bool.and_eq_false_iff,decide_eq_true_eq,decide_eq_false_iff_not,Int.not_lt,Int.not_le,ge_iff_le,gt_iff_lt,List.length_cons,List.length_nil,List.length_append,Nat.zero_add,List.nil_append,beq_iff_eq,beq_eq_false_iff_ne,bne_iff_ne,bne_eq_false_iff_eq,ne_eq,toNat_pred,toNat_succ,toNat_l0,toNat_l1,mp_len]
 (repeat' first|intro _|(refine go _ ?_ ?_ ?_)|(refine go _ ?_ ?_)|(with_reducible apply And.intro))
 all_goals first|omega|(unfold maxLen;omega)|(rw[mp_succ,an_succ];first|exact Prod.ext rfl (Prod.ext (or2_t (by assumption)) rfl)|exact Prod.ext rfl (Prod.ext (or2_f (by assumption)) rfl))|(have e:k=a.length:=(by omega);subst e;rfl)
theorem h_i_VecSub:Con.Holds Try.prog c_i_VecSub:=tree_ok mixedP (consAt h_i_pairOk (consAt h_i_FixSub consNil)) e_i_VecSub fun x hx hp=>v_i_VecSub x hx hp

/-! impl.VecScale -/

noncomputable def c_i_VecScale:Con:=⟨149,tItem,(.pair tInts .bool),[.val ⟨false,tI,[]⟩,.val ⟨false,tInts,[]⟩],[⟨false,tInts,[2]⟩,⟨false,.bool,[0]⟩],false,none,
 ((fun _=>True):(ItemD)→Prop),
 ((fun x=>vecS1 x.1 x.2):(ItemD)→(IntsD × Bool))⟩
def t_i_VecScale:T:=.call 0 (.p1 tI tInts (.vr 0)) <|.prim .not (.vr 1) <|.ite (.vr 2) (.ret (.mk2 tInts .bool (.nl 3 tI) (.cb false))) (.call 1 (prA tItem 1 (.vr 0)) <|.prim .not (.vr 3) <|.ite (.vr 4) (.ret (.mk2 tInts .bool (.nl 3 tI) (.cb false))) (.prim (.llen 3 tI) (prA tItem 1 (.vr 0)) <|.loop (.pair tI (.pair .bool tInts)) (mkA (.pair tI (.pair .bool tInts)) [(.ci .i64 0),(.cb false),(.nl 3 tI)]) <|.prim (.cmp .lss .i64) (.mk2 tI tI (.p1 tI (.pair .bool tInts) (.vr 6)) (.vr 5)) <|.ite (.vr 7) (.prim (.lidx 3 tI) (.mk2 tInts tI (prA tItem 1 (.vr 0)) (.p1 tI (.pair .bool tInts) (.vr 6))) <|.call 2 (.mk2 tI tI (.p1 tI tInts (.vr 0)) (.vr 8)) <|.prim (.lit 3 tI 1) (.p1 tI .bool (.vr 9)) <|.prim (.lapp 3 tI 8) (.mk2 tInts tInts (prA (.pair tI (.pair .bool tInts)) 2 (.vr 6)) (.vr 10)) <|.ite (pjA (.pair tI (.pair .bool tInts)) 1 (.vr 6)) (.prim (.ar .add .i64) (.mk2 tI tI (.p1 tI (.pair .bool tInts) (.vr 6)) (.ci .i64 1)) <|.again 0 (mkA (.pair tI (.pair .bool tInts)) [(.vr 12),(.cb true),(.vr 11)])) (.prim (.ar .add .i64) (.mk2 tI tI (.p1 tI (.pair .bool tInts) (.vr 6)) (.ci .i64 1)) <|.again 0 (mkA (.pair tI (.pair .bool tInts)) [(.vr 12),(prA (.pair tI .bool) 1 (.vr 9)),(.vr 11)]))) (.ret (.mk2 tInts .bool (prA (.pair tI (.pair .bool tInts)) 2 (.vr 6)) (pjA (.pair tI (.pair .bool tInts)) 1 (.vr 6))))))
set_option maxRecDepth 100000 in
theorem e_i_VecScale:exFn Try.prog [c_i_FixOk,c_i_VecOk,c_i_FixMul] c_i_VecScale false 3000 ⟨[(2984,4006,drd 20 11++[.tm 22 0,.tm 7 0,.on 6,.sl 1])],[]⟩ = .ok t_i_VecScale:=by kernel_rfl
/- loops: (Int) × ((Bool) × (List (Int))) -/
theorem v_i_VecScale (x:ItemD) (hx:okD tItem x) (hp:(fun _=>True) x):t_i_VecScale.wp [c_i_FixOk,c_i_VecOk,c_i_FixMul] [⟨tItem,x⟩] [] (fun v=>v.as (.pair tInts .bool)=(fun x=>vecS1 x.1 x.2) x):=by
 obtain ⟨c,a⟩:=x
 delta t_i_VecScale c_i_FixOk c_i_VecOk c_i_FixMul;refine vcx ?_;try with_reducible exact True.intro
 simp only[Bool.not_eq_true',Bool.not_eq_false']
 refine ⟨fun h=>?_,fun h1=>⟨fun h=>?_,fun h2 _=>?_⟩⟩
 ·unfold vecS1;rw[if_neg (by rw[h];simp)]
 ·unfold vecS1;rw[if_neg (by rw[h];simp)]
 have hl:=(vecB_iff a).1 h2
 rw[show vecS1 c a=_ from if_pos ⟨h1,h2⟩]
 refine loopF (fun k=>((k:Int),an k (fun i=>(fixMul c (a.getD i 0)).2),mp k fun i=>(fixMul c (a.getD i 0)).1)) a.length rfl fun I μ k hk _ go=>?_
 dsimp only
 simp only[Int.toNat_natCast,Bool.not_eq_true',Bool.not_eq_false',Bool.and_eq_true,Bool.and_eq_false_iff,decide_eq_true_eq,decide_eq_false_iff_not,Int.not_lt,Int.not_le,ge_iff_le,gt_iff_lt,List.length_cons,List.length_nil,List.length_append,Nat.zero_add,List.nil_append,beq_iff_eq,beq_eq_false_iff_ne,bne_iff_ne,bne_eq_false_iff_eq,ne_eq,toNat_pred,toNat_succ,toNat_l0,toNat_l1,mp_len]
 (repeat' first|intro _|(refine go _ ?_ ?_ ?_)|(refine go _ ?_ ?_)|(with_reducible apply And.intro))
 all_goals first|omega|(unfold maxLen;omega)|(rw[mp_succ,an_succ];first|exact Prod.ext rfl (Prod.ext (or2_t (by assumption)) rfl)|exact Prod.ext rfl (Prod.ext (or2_f (by assumption)) rfl))|(have e:k=a.length:=(by omega);subst e;rfl)
theorem h_i_VecScale:Con.Holds Try.prog c_i_VecScale:=tree_ok mixedP (consAt h_i_FixOk (consAt h_i_VecOk (consAt h_i_FixMul consNil))) e_i_VecScale fun x hx hp=>v_i_VecScale x hx hp

/-! impl.VecDot -/

noncomputable def c_i_VecDot:Con:=⟨157,tPair,(.pair tI .bool),[.val ⟨false,tInts,[]⟩,.val ⟨false,tInts,[]⟩],[⟨false,tI,[0]⟩,⟨false,.bool,[0]⟩],false,none,
 ((fun _=>True):(PairD)→Prop),
 ((fun x=>vecDot x.1 x.2):(PairD)→(Int × Bool))⟩
def t_i_VecDot:T:=.call 0 (.vr 0) <|.prim .not (.vr 1) <|.ite (.vr 2) (.ret (.mk2 tI .bool (.ci .i64 0) (.cb false))) (.prim (.llen 3 tI) (.p1 tInts tInts (.vr 0)) <|.loop (.pair tI (.pair .bool tI)) (mkA (.pair tI (.pair .bool tI)) [(.ci .i64 0),(.cb false),(.ci .i64 0)]) <|.prim (.cmp .lss .i64) (.mk2 tI tI (.p1 tI (.pair .bool tI) (.vr 4)) (.vr 3)) <|.ite (.vr 5) (.prim (.lidx 3 tI) (.mk2 tInts tI (.p1 tInts tInts (.vr 0)) (.p1 tI (.pair .bool tI) (.vr 4))) <|.prim (.lidx 3 tI) (.mk2 tInts tI (prA tPair 1 (.vr 0)) (.p1 tI (.pair .bool tI) (.vr 4))) <|.call 1 (.mk2 tI tI (.vr 6) (.vr 7)) <|.call 2 (.mk2 tI tI (prA (.pair tI (.pair .bool tI)) 2 (.vr 4)) (.p1 tI .bool (.vr 8))) <|.ite (pjA (.pair tI (.pair .bool tI)) 1 (.vr 4)) (.prim (.ar .add .i64) (.mk2 tI tI (.p1 tI (.pair .bool tI) (.vr 4)) (.ci .i64 1)) <|.again 0 (mkA (.pair tI (.pair .bool tI)) [(.vr 10),(.cb true),(.p1 tI .bool (.vr 9))])) (.ite (prA (.pair tI .bool) 1 (.vr 8)) (.prim (.ar .add .i64) (.mk2 tI tI (.p1 tI (.pair .bool tI) (.vr 4)) (.ci .i64 1)) <|.again 0 (mkA (.pair tI (.pair .bool tI)) [(.vr 10),(.cb true),(.p1 tI .bool (.vr 9))])) (.prim (.ar .add .i64) (.mk2 tI tI (.p1 tI (.pair .bool tI) (.vr 4)) (.ci .i64 1)) <|.again 0 (mkA (.pair tI (.pair .bool tI)) [(.vr 10),(prA (.pair tI .bool) 1 (.vr 9)),(.p1 tI .bool (.vr 9))])))) (.ret (.mk2 tI .bool (prA (.pair tI (.pair .bool tI)) 2 (.vr 4)) (pjA (.pair tI (.pair .bool tI)) 1 (.vr 4)))))
set_option maxRecDepth 100000 in
theorem e_i_VecDot:exFn Try.prog [c_i_pairOk,c_i_FixMul,c_i_FixAdd] c_i_VecDot false 3000 ⟨[(2984,2004,drd 17 13++[.tm 19 0,.tm 7 0,.tm 6 0])],[]⟩ = .ok t_i_VecDot:=by kernel_rfl
/- loops: (Int) × ((Bool) × (Int)) -/
theorem v_i_VecDot (x:PairD) (hx:okD tPair x) (hp:(fun _=>True) x):t_i_VecDot.wp [c_i_pairOk,c_i_FixMul,c_i_FixAdd] [⟨tPair,x⟩] [] (fun v=>v.as (.pair tI .bool)=(fun x=>vecDot x.1 x.2) x):=by
 obtain ⟨a,b⟩:=x
 delta t_i_VecDot c_i_pairOk c_i_FixMul c_i_FixAdd;refine vcx ?_;try with_reducible exact True.intro
 simp only[Bool.not_eq_true',Bool.not_eq_false']
 refine ⟨fun h=>by unfold vecDot;rw[if_neg (by rw[h];exact Bool.false_ne_true)],fun h _=>?_⟩
 have hl:=pairB_len h
 rw[show vecDot a b=_ from if_pos h]
 refine loopF (fun k=>((k:Int),(dotK a b k).2,(dotK a b k).1)) a.length rfl fun I μ k hk _ go=>?_
 dsimp only
 (refine dcx ?_;try with_reducible exact True.intro)
 (repeat' first|intro _|(refine go _ ?_ ?_ ?_)|(refine go _ ?_ ?_)|(with_reducible apply And.intro))
 all_goals first|omega|(rw[dotK_succ];first|exact Prod.ext rfl (Prod.ext (or3_t (by assumption)) rfl)|exact Prod.ext rfl (Prod.ext (or3_u (by assumption) (by assumption)) rfl)|exact Prod.ext rfl (Prod.ext (or3_f (by assumption) (by assumption)) rfl))|(have e:k=a.length:=(by omega);subst e;rfl)
theorem h_i_VecDot:Con.Holds Try.prog c_i_VecDot:=tree_ok mixedP (consAt h_i_pairOk (consAt h_i_FixMul (consAt h_i_FixAdd consNil))) e_i_VecDot fun x hx hp=>v_i_VecDot x hx hp

/-! impl.VecRelu -/

noncomputable def c_i_VecRelu:Con:=⟨150,tInts,tInts,[.val ⟨false,tInts,[]⟩],[⟨false,tInts,[2]⟩],false,none,
 ((fun _=>True):(List Int)→Prop),
 ((fun x=>vecRelu x):(List Int)→(List Int))⟩
def t_i_VecRelu:T:=.call 0 (.vr 0) <|.prim .not (.vr 1) <|.ite (.vr 2) (.ret (.nl 3 tI)) (.prim (.llen 3 tI) (.vr 0) <|.loop tItem (.mk2 tI tInts (.ci .i64 0) (.nl 3 tI)) <|.prim (.cmp .lss .i64) (.mk2 tI tI (.p1 tI tInts (.vr 4)) (.vr 3)) <|.ite (.vr 5) (.prim (.lidx 3 tI) (.mk2 tInts tI (.vr 0) (.p1 tI tInts (.vr 4))) <|.call 1 (.vr 6) <|.prim (.lit 3 tI 1) (.vr 7) <|.prim (.lapp 3 tI 8) (.mk2 tInts tInts (prA tItem 1 (.vr 4)) (.vr 8)) <|.prim (.ar .add .i64) (.mk2 tI tI (.p1 tI tInts (.vr 4)) (.ci .i64 1)) <|.again 0 (.mk2 tI tInts (.vr 10) (.vr 9))) (.ret (prA tItem 1 (.vr 4))))
set_option maxRecDepth 100000 in
theorem e_i_VecRelu:exFn Try.prog [c_i_VecOk,c_i_Relu] c_i_VecRelu false 3000 ⟨[(2986,2004,drd 9 6++[.dr 0,.tm 12 0,.on 3,.sl 1])],[]⟩ = .ok t_i_VecRelu:=by kernel_rfl
/- loops: (Int) × (List (Int)) -/
theorem v_i_VecRelu (x:List Int) (hx:okD tInts x) (hp:(fun _=>True) x):t_i_VecRelu.wp [c_i_VecOk,c_i_Relu] [⟨tInts,x⟩] [] (fun v=>v.as tInts=(fun x=>vecRelu x) x):=by
 obtain ⟨a,rfl⟩:∃ a,a=x:=⟨_,rfl⟩
 delta t_i_VecRelu c_i_VecOk c_i_Relu;refine vcx ?_;try with_reducible exact True.intro
 simp only[Bool.not_eq_true',Bool.not_eq_false']
 refine ⟨fun h=>by unfold vecRelu;rw[if_neg (by rw[h];exact Bool.false_ne_true)],fun h _=>?_⟩
 have hl:=(vecB_iff a).1 h
 rw[show vecRelu a=_ from if_pos h]
 refine loopF (fun k=>((k:Int),mp k fun i=>reluI (a.getD i 0))) a.length rfl fun I μ k hk _ go=>?_
 dsimp only
 simp only[Int.toNat_natCast,Bool.not_eq_true',Bool.not_eq_false',Bool.and_eq_true,Bool.and_eq_false_iff,decide_eq_true_eq,decide_eq_false_iff_not,Int.not_lt,Int.not_le,ge_iff_le,gt_iff_lt,List.length_cons,List.length_nil,List.length_append,Nat.zero_add,List.nil_append,beq_iff_eq,beq_eq_false_iff_ne,bne_iff_ne,bne_eq_false_iff_eq,ne_eq,toNat_pred,toNat_succ,toNat_l0,toNat_l1,mp_len]
 (repeat' first|intro _|(refine go _ ?_ ?_ ?_)|(refine go _ ?_ ?_)|(with_reducible apply And.intro))
 all_goals first|omega|(unfold maxLen;omega)|(rw[mp_succ];rfl)|(have e:k=a.length:=(by omega);subst e;rfl)
theorem h_i_VecRelu:Con.Holds Try.prog c_i_VecRelu:=tree_ok mixedP (consAt h_i_VecOk (consAt h_i_Relu consNil)) e_i_VecRelu fun x hx hp=>v_i_VecRelu x hx hp

/-! impl.VecMask -/

noncomputable def c_i_VecMask:Con:=⟨173,tPair,tInts,[.val ⟨false,tInts,[]⟩,.val ⟨false,tInts,[]⟩],[⟨false,tInts,[2]⟩],false,none,
 ((fun _=>True):(PairD)→Prop),
 ((fun x=>vecMask x.1 x.2):(PairD)→(List Int))⟩
def t_i_VecMask:T:=.call 0 (.vr 0) <|.prim .not (.vr 1) <|.ite (.vr 2) (.ret (.nl 3 tI)) (.prim (.llen 3 tI) (.p1 tInts tInts (.vr 0)) <|.loop tItem (.mk2 tI tInts (.ci .i64 0) (.nl 3 tI)) <|.prim (.cmp .lss .i64) (.mk2 tI tI (.p1 tI tInts (.vr 4)) (.vr 3)) <|.ite (.vr 5) (.prim (.lidx 3 tI) (.mk2 tInts tI (.p1 tInts tInts (.vr 0)) (.p1 tI tInts (.vr 4))) <|.prim (.cmp .gtr .i64) (.mk2 tI tI (.vr 6) (.ci .i64 0)) <|.ite (.vr 7) (.prim (.lidx 3 tI) (.mk2 tInts tI (prA tPair 1 (.vr 0)) (.p1 tI tInts (.vr 4))) <|.prim (.lit 3 tI 1) (.vr 8) <|.prim (.lapp 3 tI 8) (.mk2 tInts tInts (prA tItem 1 (.vr 4)) (.vr 9)) <|.prim (.ar .add .i64) (.mk2 tI tI (.p1 tI tInts (.vr 4)) (.ci .i64 1)) <|.again 0 (.mk2 tI tInts (.vr 11) (.vr 10))) (.prim (.lit 3 tI 1) (.ci .i64 0) <|.prim (.lapp 3 tI 8) (.mk2 tInts tInts (prA tItem 1 (.vr 4)) (.vr 8)) <|.prim (.ar .add .i64) (.mk2 tI tI (.p1 tI tInts (.vr 4)) (.ci .i64 1)) <|.again 0 (.mk2 tI tInts (.vr 10) (.vr 9)))) (.ret (prA tItem 1 (.vr 4))))
set_option maxRecDepth 100000 in
theorem e_i_VecMask:exFn Try.prog [c_i_pairOk] c_i_VecMask false 3000 ⟨[(2986,2004,drd 12 7++[.tm 14 0,.on 5,.sl 1])],[]⟩ = .ok t_i_VecMask:=by kernel_rfl
/- loops: (Int) × (List (Int)) -/
theorem v_i_VecMask (x:PairD) (hx:okD tPair x) (hp:(fun _=>True) x):t_i_VecMask.wp [c_i_pairOk] [⟨tPair,x⟩] [] (fun v=>v.as tInts=(fun x=>vecMask x.1 x.2) x):=by
 obtain ⟨a,b⟩:=x
 delta t_i_VecMask c_i_pairOk;refine vcx ?_;try with_reducible exact True.intro
 simp only[Bool.not_eq_true',Bool.not_eq_false']
 refine ⟨fun h=>by unfold vecMask;rw[if_neg (by rw[h];exact Bool.false_ne_true)],fun h _=>?_⟩
 have hl:=pairB_len h
 rw[show vecMask a b=_ from if_pos h]
 refine loopF (fun k=>((k:Int),mp k fun i=>if 0<a.getD i 0 then b.getD i 0 else 0)) a.length rfl fun I μ k hk _ go=>?_
 dsimp only
 simp only[Int.toNat_natCast,Bool.not_eq_true',Bool.not_eq_false',Bool.and_eq_true,Bool.and_eq_false_iff,decide_eq_true_eq,decide_eq_false_iff_not,Int.not_lt,Int.not_le,ge_iff_le,gt_iff_lt,List.length_cons,List.length_nil,List.length_append,Nat.zero_add,List.nil_append,beq_iff_eq,beq_eq_false_iff_ne,bne_iff_ne,bne_eq_false_iff_eq,ne_eq,toNat_pred,toNat_succ,toNat_l0,toNat_l1,mp_len]
 have e1:0<a.getD k 0→b.getD k 0=if 0<a.getD k 0 then b.getD k 0 else 0:=fun h=>(if_pos h).symm
 have e2:a.getD k 0≤0→0=if 0<a.getD k 0 then b.getD k 0 else 0:=fun h=>(if_neg (by omega)).symm
 (repeat' first|intro _|(refine go _ ?_ ?_ ?_)|(refine go _ ?_ ?_)|(with_reducible apply And.intro))
 all_goals first|omega|(unfold maxLen;omega)|(rw[mp_succ];first|exact Prod.ext rfl (congrArg (mp k _++[·]) (e1 (by assumption)))|exact Prod.ext rfl (congrArg (mp k _++[·]) (e2 (by assumption))))|(have e:k=a.length:=(by omega);subst e;rfl)
theorem h_i_VecMask:Con.Holds Try.prog c_i_VecMask:=tree_ok mixedP (consAt h_i_pairOk consNil) e_i_VecMask fun x hx hp=>v_i_VecMask x hx hp

/-! spec.FixSub -/

noncomputable def c_s_FixSub:Con:=⟨134,tIns,(.pair tI .bool),[.val ⟨false,tI,[]⟩,.val ⟨false,tI,[]⟩],[⟨false,tI,[0]⟩,⟨false,.bool,[0]⟩],false,none,
 ((fun _=>True):(Int × Int)→Prop),
 ((fun x=>fixSub x.1 x.2):(Int × Int)→(Int × Bool))⟩
def t_s_FixSub:T:=.call 0 (.p1 tI tI (.vr 0)) <|.call 0 (prA tIns 1 (.vr 0)) <|.prim (.ar .sub .i64) (.mk2 tI tI (.vr 1) (.vr 2)) <|.call 1 (.vr 3) <|.ret (.vr 4)
set_option maxRecDepth 100000 in
theorem e_s_FixSub:exFn Try.prog [c_s_l2In,c_s_l2Sat] c_s_FixSub false 3000 ⟨[],[]⟩ = .ok t_s_FixSub:=by kernel_rfl
theorem v_s_FixSub (x:Int × Int) (hx:okD tIns x) (hp:(fun _=>True) x):t_s_FixSub.wp [c_s_l2In,c_s_l2Sat] [⟨tIns,x⟩] [] (fun v=>v.as (.pair tI .bool)=(fun x=>fixSub x.1 x.2) x):=by
 delta t_s_FixSub c_s_l2In c_s_l2Sat;refine vcx ?_;try with_reducible exact True.intro
 intro _ _
 have h1:=clampI_b x.1
 have h2:=clampI_b x.2
 exact ⟨by omega,fun _ _=>rfl⟩
theorem h_s_FixSub:Con.Holds Try.prog c_s_FixSub:=tree_ok mixedP (consAt h_s_l2In (consAt h_s_l2Sat consNil)) e_s_FixSub fun x hx hp=>v_s_FixSub x hx hp

/-! spec.l2Floor -/

noncomputable def c_s_l2Floor:Con:=⟨135,tIns,tI,[.val ⟨false,tI,[]⟩,.val ⟨false,tI,[]⟩],[⟨false,tI,[0]⟩],false,none,
 ((fun x=>x.2=65536):(Int × Int)→Prop),
 ((fun x=>x.1.fdiv 65536):(Int × Int)→(Int))⟩
def t_s_l2Floor:T:=.prim (.quo .i64) (.mk2 tI tI (.p1 tI tI (.vr 0)) (prA tIns 1 (.vr 0))) <|.prim (.rem .i64) (.mk2 tI tI (.p1 tI tI (.vr 0)) (prA tIns 1 (.vr 0))) <|.prim (.cmp .neq .i64) (.mk2 tI tI (.vr 2) (.ci .i64 0)) <|.ite (.vr 3) (.prim (.cmp .lss .i64) (.mk2 tI tI (.p1 tI tI (.vr 0)) (.ci .i64 0)) <|.prim (.cmp .lss .i64) (.mk2 tI tI (prA tIns 1 (.vr 0)) (.ci .i64 0)) <|.prim (.eqv true .bool) (.mk2 .bool .bool (.vr 4) (.vr 5)) <|.ite (.vr 6) (.prim (.ar .sub .i64) (.mk2 tI tI (.vr 1) (.ci .i64 1)) <|.ret (.vr 7)) (.ret (.vr 1))) (.ret (.vr 1))
set_option maxRecDepth 100000 in
theorem e_s_l2Floor:exFn Try.prog [] c_s_l2Floor false 3000 ⟨[],[]⟩ = .ok t_s_l2Floor:=by kernel_rfl
theorem v_s_l2Floor (x:Int × Int) (hx:okD tIns x) (hp:(fun x=>x.2=65536) x):t_s_l2Floor.wp [] [⟨tIns,x⟩] [] (fun v=>v.as tI=(fun x=>x.1.fdiv 65536) x):=by
 obtain ⟨a,b⟩:=x
 obtain rfl:b=65536:=hp
 have e:=floor_eq a
 have ha:-9223372036854775808≤a∧a≤9223372036854775807:=hx.1
 have hd:=tdivB ha
 delta t_s_l2Floor;refine vcx ?_;try with_reducible exact True.intro
 simp only[beqB_t,beqB_f,neqI_t,neqI_f,show decide ((65536:Int)<0)=false from rfl,decide_eq_false_iff_not,Classical.not_not]
 rw[e]
 (repeat' first|intro _|(with_reducible apply And.intro))
 all_goals first|omega|(rw[if_pos ⟨by assumption,by assumption⟩])|(rw[if_neg (fun h=>by have:=h.2;omega)])|(rw[if_neg (fun h=>h.1 (by assumption))])
theorem h_s_l2Floor:Con.Holds Try.prog c_s_l2Floor:=tree_ok mixedP consNil e_s_l2Floor fun x hx hp=>v_s_l2Floor x hx hp

/-! spec.FixMul -/

noncomputable def c_s_FixMul:Con:=⟨86,tIns,(.pair tI .bool),[.val ⟨false,tI,[]⟩,.val ⟨false,tI,[]⟩],[⟨false,tI,[0]⟩,⟨false,.bool,[0]⟩],false,none,
 ((fun _=>True):(Int × Int)→Prop),
 ((fun x=>fixMul x.1 x.2):(Int × Int)→(Int × Bool))⟩
def t_s_FixMul:T:=.call 0 (.p1 tI tI (.vr 0)) <|.call 0 (prA tIns 1 (.vr 0)) <|.prim (.ar .mul .i64) (.mk2 tI tI (.vr 1) (.vr 2)) <|.call 1 (.mk2 tI tI (.vr 3) (.ci .i64 65536)) <|.call 2 (.vr 4) <|.ret (.vr 5)
set_option maxRecDepth 100000 in
theorem e_s_FixMul:exFn Try.prog [c_s_l2In,c_s_l2Floor,c_s_l2Sat] c_s_FixMul false 3000 ⟨[],[]⟩ = .ok t_s_FixMul:=by kernel_rfl
theorem v_s_FixMul (x:Int × Int) (hx:okD tIns x) (hp:(fun _=>True) x):t_s_FixMul.wp [c_s_l2In,c_s_l2Floor,c_s_l2Sat] [⟨tIns,x⟩] [] (fun v=>v.as (.pair tI .bool)=(fun x=>fixMul x.1 x.2) x):=by
 delta t_s_FixMul c_s_l2In c_s_l2Floor c_s_l2Sat;refine vcx ?_;try with_reducible exact True.intro
 have h:=mulB (clampI_b x.1) (clampI_b x.2)
 exact fun _ _=>⟨by omega,fun _ _ _=>rfl⟩
theorem h_s_FixMul:Con.Holds Try.prog c_s_FixMul:=tree_ok mixedP (consAt h_s_l2In (consAt h_s_l2Floor (consAt h_s_l2Sat consNil))) e_s_FixMul fun x hx hp=>v_s_FixMul x hx hp

/-! spec.Relu -/

noncomputable def c_s_Relu:Con:=⟨155,tI,tI,[.val ⟨false,tI,[]⟩],[⟨false,tI,[0]⟩],false,none,
 ((fun _=>True):(Int)→Prop),
 ((fun x=>reluI x):(Int)→(Int))⟩
def t_s_Relu:T:=.call 0 (.vr 0) <|.prim (.mx .i64) (.mk2 tI tI (.ci .i64 0) (.vr 1)) <|.ret (.vr 2)
set_option maxRecDepth 100000 in
theorem e_s_Relu:exFn Try.prog [c_s_l2In] c_s_Relu false 3000 ⟨[],[]⟩ = .ok t_s_Relu:=by kernel_rfl
theorem v_s_Relu (x:Int) (hx:okD tI x) (hp:(fun _=>True) x):t_s_Relu.wp [c_s_l2In] [⟨tI,x⟩] [] (fun v=>v.as tI=(fun x=>reluI x) x):=by
 delta t_s_Relu c_s_l2In;refine vcx ?_;try with_reducible exact True.intro
 exact fun _ _=>rfl
theorem h_s_Relu:Con.Holds Try.prog c_s_Relu:=tree_ok mixedP (consAt h_s_l2In consNil) e_s_Relu fun x hx hp=>v_s_Relu x hx hp

/-! spec.VecAdd -/

noncomputable def c_s_VecAdd:Con:=⟨108,tPair,(.pair tInts .bool),[.val ⟨false,tInts,[]⟩,.val ⟨false,tInts,[]⟩],[⟨false,tInts,[2]⟩,⟨false,.bool,[0]⟩],false,none,
 ((fun _=>True):(PairD)→Prop),
 ((fun x=>vecZ fixAdd x.1 x.2):(PairD)→(IntsD × Bool))⟩
def t_s_VecAdd:T:=.loop (.pair tI (.pair .bool tInts)) (mkA (.pair tI (.pair .bool tInts)) [(.ci .i64 0),(.cb false),(.nl 3 tI)]) <|.prim (.llen 3 tI) (.p1 tInts tInts (.vr 0)) <|.prim (.cmp .lss .i64) (.mk2 tI tI (.p1 tI (.pair .bool tInts) (.vr 1)) (.vr 2)) <|.ite (.vr 3) (.call 0 (.vr 0) <|.ite (.vr 4) (.prim (.lidx 3 tI) (.mk2 tInts tI (.p1 tInts tInts (.vr 0)) (.p1 tI (.pair .bool tInts) (.vr 1))) <|.prim (.lidx 3 tI) (.mk2 tInts tI (prA tPair 1 (.vr 0)) (.p1 tI (.pair .bool tInts) (.vr 1))) <|.call 1 (.mk2 tI tI (.vr 5) (.vr 6)) <|.prim (.lit 3 tI 1) (.p1 tI .bool (.vr 7)) <|.prim (.lapp 3 tI 8) (.mk2 tInts tInts (prA (.pair tI (.pair .bool tInts)) 2 (.vr 1)) (.vr 8)) <|.ite (pjA (.pair tI (.pair .bool tInts)) 1 (.vr 1)) (.prim (.ar .add .i64) (.mk2 tI tI (.p1 tI (.pair .bool tInts) (.vr 1)) (.ci .i64 1)) <|.again 0 (mkA (.pair tI (.pair .bool tInts)) [(.vr 10),(.cb true),(.vr 9)])) (.prim (.ar .add .i64) (.mk2 tI tI (.p1 tI (.pair .bool tInts) (.vr 1)) (.ci .i64 1)) <|.again 0 (mkA (.pair tI (.pair .bool tInts)) [(.vr 10),(prA (.pair tI .bool) 1 (.vr 7)),(.vr 9)]))) (.ret (.mk2 tInts .bool (prA (.pair tI (.pair .bool tInts)) 2 (.vr 1)) (pjA (.pair tI (.pair .bool tInts)) 1 (.vr 1))))) (.ret (.mk2 tInts .bool (prA (.pair tI (.pair .bool tInts)) 2 (.vr 1)) (pjA (.pair tI (.pair .bool tInts)) 1 (.vr 1))))
set_option maxRecDepth 100000 in
theorem e_s_VecAdd:exFn Try.prog [c_s_l3Pair,c_s_FixAdd] c_s_VecAdd false 3000 ⟨[(2989,1001,[.dr 11,.tm 8 0,.tm 7 0,.on 6,.sl 1])],[]⟩ = .ok t_s_VecAdd:=by kernel_rfl
/- loops: (Int) × ((Bool) × (List (Int))) -/
theorem v_s_VecAdd (x:PairD) (hx:okD tPair x) (hp:(fun _=>True) x):t_s_VecAdd.wp [c_s_l3Pair,c_s_FixAdd] [⟨tPair,x⟩] [] (fun v=>v.as (.pair tInts .bool)=(fun x=>vecZ fixAdd x.1 x.2) x):=by
 obtain ⟨a,b⟩:=x
 delta t_s_VecAdd c_s_l3Pair c_s_FixAdd;refine vcx ?_;try with_reducible exact True.intro
 simp only[l3_eq]
 cases h:pairB a b
 ·refine loopF (fun _=>((0:Int),false,([]:List Int))) 0 rfl fun I μ k hk _ go=>?_
  dsimp only
  simp only[reduceCtorEq,false_implies,true_implies,forall_const,and_true,true_and,implies_true,Int.toNat_natCast,Bool.not_eq_true',Bool.not_eq_false',Bool.and_eq_true,Bool.and_eq_false_iff,decide_eq_true_eq,decide_eq_false_iff_not,Int.not_lt,Int.not_le,ge_iff_le,gt_iff_lt,List.length_cons,List.length_nil,List.length_append,Nat.zero_add,List.nil_append,beq_iff_eq,beq_eq_false_iff_ne,bne_iff_ne,bne_eq_false_iff_eq,ne_eq,toNat_pred,toNat_succ,toNat_l0,toNat_l1]
  (repeat' first|intro _|(refine go _ ?_ ?_ ?_)|(refine go _ ?_ ?_)|(with_reducible apply And.intro))
  all_goals first|omega|exact vecZ_no h
 ·have hl:=pairB_len h
  rw[vecZ_yes h]
  refine loopF (fun k=>((k:Int),an k (fun i=>(fixAdd (a.getD i 0) (b.getD i 0)).2),mp k fun i=>(fixAdd (a.getD i 0) (b.getD i 0)).1)) a.length rfl fun I μ k hk _ go=>?_
  dsimp only
  simp only[reduceCtorEq,false_implies,true_implies,forall_const,and_true,true_and,implies_true,Int.toNat_natCast,Bool.not_eq_true',Bool.not_eq_false',Bool.and_eq_true,Bool.and_eq_false_iff,decide_eq_true_eq,decide_eq_false_iff_not,Int.not_lt,Int.not_le,ge_iff_le,gt_iff_lt,List.length_cons,List.length_nil,List.length_append,Nat.zero_add,List.nil_append,beq_iff_eq,beq_eq_false_iff_ne,bne_iff_ne,bne_eq_false_iff_eq,ne_eq,toNat_pred,toNat_succ,toNat_l0,toNat_l1,mp_len]
  (repeat' first|intro _|(refine go _ ?_ ?_ ?_)|(refine go _ ?_ ?_)|(with_reducible apply And.intro))
  all_goals first|omega|(unfold maxLen;omega)|(rw[mp_succ,an_succ];first|exact Prod.ext rfl (Prod.ext (or2_t (by assumption)) rfl)|exact Prod.ext rfl (Prod.ext (or2_f (by assumption)) rfl))|(have e:k=a.length:=(by omega);subst e;rfl)
theorem h_s_VecAdd:Con.Holds Try.prog c_s_VecAdd:=tree_ok mixedP (consAt h_s_l3Pair (consAt h_s_FixAdd consNil)) e_s_VecAdd fun x hx hp=>v_s_VecAdd x hx hp

/-! spec.VecSub -/

noncomputable def c_s_VecSub:Con:=⟨163,tPair,(.pair tInts .bool),[.val ⟨false,tInts,[]⟩,.val ⟨false,tInts,[]⟩],[⟨false,tInts,[2]⟩,⟨false,.bool,[0]⟩],false,none,
 ((fun _=>True):(PairD)→Prop),
 ((fun x=>vecZ fixSub x.1 x.2):(PairD)→(IntsD × Bool))⟩
def t_s_VecSub:T:=.loop (.pair tI (.pair .bool tInts)) (mkA (.pair tI (.pair .bool tInts)) [(.ci .i64 0),(.cb false),(.nl 3 tI)]) <|.prim (.llen 3 tI) (.p1 tInts tInts (.vr 0)) <|.prim (.cmp .lss .i64) (.mk2 tI tI (.p1 tI (.pair .bool tInts) (.vr 1)) (.vr 2)) <|.ite (.vr 3) (.call 0 (.vr 0) <|.ite (.vr 4) (.prim (.lidx 3 tI) (.mk2 tInts tI (.p1 tInts tInts (.vr 0)) (.p1 tI (.pair .bool tInts) (.vr 1))) <|.prim (.lidx 3 tI) (.mk2 tInts tI (prA tPair 1 (.vr 0)) (.p1 tI (.pair .bool tInts) (.vr 1))) <|.call 1 (.mk2 tI tI (.vr 5) (.vr 6)) <|.prim (.lit 3 tI 1) (.p1 tI .bool (.vr 7)) <|.prim (.lapp 3 tI 8) (.mk2 tInts tInts (prA (.pair tI (.pair .bool tInts)) 2 (.vr 1)) (.vr 8)) <|.ite (pjA (.pair tI (.pair .bool tInts)) 1 (.vr 1)) (.prim (.ar .add .i64) (.mk2 tI tI (.p1 tI (.pair .bool tInts) (.vr 1)) (.ci .i64 1)) <|.again 0 (mkA (.pair tI (.pair .bool tInts)) [(.vr 10),(.cb true),(.vr 9)])) (.prim (.ar .add .i64) (.mk2 tI tI (.p1 tI (.pair .bool tInts) (.vr 1)) (.ci .i64 1)) <|.again 0 (mkA (.pair tI (.pair .bool tInts)) [(.vr 10),(prA (.pair tI .bool) 1 (.vr 7)),(.vr 9)]))) (.ret (.mk2 tInts .bool (prA (.pair tI (.pair .bool tInts)) 2 (.vr 1)) (pjA (.pair tI (.pair .bool tInts)) 1 (.vr 1))))) (.ret (.mk2 tInts .bool (prA (.pair tI (.pair .bool tInts)) 2 (.vr 1)) (pjA (.pair tI (.pair .bool tInts)) 1 (.vr 1))))
set_option maxRecDepth 100000 in
theorem e_s_VecSub:exFn Try.prog [c_s_l3Pair,c_s_FixSub] c_s_VecSub false 3000 ⟨[(2989,1001,[.dr 11,.tm 8 0,.tm 7 0,.on 6,.sl 1])],[]⟩ = .ok t_s_VecSub:=by kernel_rfl
/- loops: (Int) × ((Bool) × (List (Int))) -/
theorem v_s_VecSub (x:PairD) (hx:okD tPair x) (hp:(fun _=>True) x):t_s_VecSub.wp [c_s_l3Pair,c_s_FixSub] [⟨tPair,x⟩] [] (fun v=>v.as (.pair tInts .bool)=(fun x=>vecZ fixSub x.1 x.2) x):=by
 obtain ⟨a,b⟩:=x
 delta t_s_VecSub c_s_l3Pair c_s_FixSub;refine vcx ?_;try with_reducible exact True.intro
 simp only[l3_eq]
 cases h:pairB a b
 ·refine loopF (fun _=>((0:Int),false,([]:List Int))) 0 rfl fun I μ k hk _ go=>?_
  dsimp only
  simp only[reduceCtorEq,false_implies,true_implies,forall_const,and_true,true_and,implies_true,Int.toNat_natCast,Bool.not_eq_true',Bool.not_eq_false',Bool.and_eq_true,Bool.and_eq_false_iff,decide_eq_true_eq,decide_eq_false_iff_not,Int.not_lt,Int.not_le,ge_iff_le,gt_iff_lt,List.length_cons,List.length_nil,List.length_append,Nat.zero_add,List.nil_append,beq_iff_eq,beq_eq_false_iff_ne,bne_iff_ne,bne_eq_false_iff_eq,ne_eq,toNat_pred,toNat_succ,toNat_l0,toNat_l1]
  (repeat' first|intro _|(refine go _ ?_ ?_ ?_)|(refine go _ ?_ ?_)|(with_reducible apply And.intro))
  all_goals first|omega|exact vecZ_no h
 ·have hl:=pairB_len h
  rw[vecZ_yes h]
  refine loopF (fun k=>((k:Int),an k (fun i=>(fixSub (a.getD i 0) (b.getD i 0)).2),mp k fun i=>(fixSub (a.getD i 0) (b.getD i 0)).1)) a.length rfl fun I μ k hk _ go=>?_
  dsimp only
  simp only[reduceCtorEq,false_implies,true_implies,forall_const,and_true,true_and,implies_true,Int.toNat_natCast,Bool.not_eq_true',Bool.not_eq_false',Bool.and_eq_true,Bool.and_eq_false_iff,decide_eq_true_eq,decide_eq_false_iff_not,Int.not_lt,Int.not_le,ge_iff_le,gt_iff_lt,List.length_cons,List.length_nil,List.length_append,Nat.zero_add,List.nil_append,beq_iff_eq,beq_eq_false_iff_ne,bne_iff_ne,bne_eq_false_iff_eq,ne_eq,toNat_pred,toNat_succ,toNat_l0,toNat_l1,mp_len]
  (repeat' first|intro _|(refine go _ ?_ ?_ ?_)|(refine go _ ?_ ?_)|(with_reducible apply And.intro))
  all_goals first|omega|(unfold maxLen;omega)|(rw[mp_succ,an_succ];first|exact Prod.ext rfl (Prod.ext (or2_t (by assumption)) rfl)|exact Prod.ext rfl (Prod.ext (or2_f (by assumption)) rfl))|(have e:k=a.length:=(by omega);subst e;rfl)
theorem h_s_VecSub:Con.Holds Try.prog c_s_VecSub:=tree_ok mixedP (consAt h_s_l3Pair (consAt h_s_FixSub consNil)) e_s_VecSub fun x hx hp=>v_s_VecSub x hx hp

/-! spec.VecScale -/

noncomputable def c_s_VecScale:Con:=⟨110,tItem,(.pair tInts .bool),[.val ⟨false,tI,[]⟩,.val ⟨false,tInts,[]⟩],[⟨false,tInts,[2]⟩,⟨false,.bool,[0]⟩],false,none,
 ((fun _=>True):(ItemD)→Prop),
 ((fun x=>vecS1 x.1 x.2):(ItemD)→(IntsD × Bool))⟩
def t_s_VecScale:T:=.loop (.pair tI (.pair .bool tInts)) (mkA (.pair tI (.pair .bool tInts)) [(.ci .i64 0),(.cb false),(.nl 3 tI)]) <|.prim (.llen 3 tI) (prA tItem 1 (.vr 0)) <|.prim (.cmp .lss .i64) (.mk2 tI tI (.p1 tI (.pair .bool tInts) (.vr 1)) (.vr 2)) <|.ite (.vr 3) (.call 0 (prA tItem 1 (.vr 0)) <|.ite (.vr 4) (.call 1 (.p1 tI tInts (.vr 0)) <|.ite (.vr 5) (.prim (.lidx 3 tI) (.mk2 tInts tI (prA tItem 1 (.vr 0)) (.p1 tI (.pair .bool tInts) (.vr 1))) <|.call 2 (.mk2 tI tI (.p1 tI tInts (.vr 0)) (.vr 6)) <|.prim (.lit 3 tI 1) (.p1 tI .bool (.vr 7)) <|.prim (.lapp 3 tI 8) (.mk2 tInts tInts (prA (.pair tI (.pair .bool tInts)) 2 (.vr 1)) (.vr 8)) <|.ite (pjA (.pair tI (.pair .bool tInts)) 1 (.vr 1)) (.prim (.ar .add .i64) (.mk2 tI tI (.p1 tI (.pair .bool tInts) (.vr 1)) (.ci .i64 1)) <|.again 0 (mkA (.pair tI (.pair .bool tInts)) [(.vr 10),(.cb true),(.vr 9)])) (.prim (.ar .add .i64) (.mk2 tI tI (.p1 tI (.pair .bool tInts) (.vr 1)) (.ci .i64 1)) <|.again 0 (mkA (.pair tI (.pair .bool tInts)) [(.vr 10),(prA (.pair tI .bool) 1 (.vr 7)),(.vr 9)]))) (.ret (.mk2 tInts .bool (prA (.pair tI (.pair .bool tInts)) 2 (.vr 1)) (pjA (.pair tI (.pair .bool tInts)) 1 (.vr 1))))) (.ret (.mk2 tInts .bool (prA (.pair tI (.pair .bool tInts)) 2 (.vr 1)) (pjA (.pair tI (.pair .bool tInts)) 1 (.vr 1))))) (.ret (.mk2 tInts .bool (prA (.pair tI (.pair .bool tInts)) 2 (.vr 1)) (pjA (.pair tI (.pair .bool tInts)) 1 (.vr 1))))
set_option maxRecDepth 100000 in
theorem e_s_VecScale:exFn Try.prog [c_s_VecOk,c_s_FixOk,c_s_FixMul] c_s_VecScale false 3000 ⟨[(2989,1001,[.dr 11,.tm 8 0,.tm 7 0,.on 6,.sl 1])],[]⟩ = .ok t_s_VecScale:=by kernel_rfl
/- loops: (Int) × ((Bool) × (List (Int))) -/
theorem v_s_VecScale (x:ItemD) (hx:okD tItem x) (hp:(fun _=>True) x):t_s_VecScale.wp [c_s_VecOk,c_s_FixOk,c_s_FixMul] [⟨tItem,x⟩] [] (fun v=>v.as (.pair tInts .bool)=(fun x=>vecS1 x.1 x.2) x):=by
 obtain ⟨c,a⟩:=x
 delta t_s_VecScale c_s_VecOk c_s_FixOk c_s_FixMul;refine vcx ?_;try with_reducible exact True.intro
 cases h:vecB a
 ·refine loopF (fun _=>((0:Int),false,([]:List Int))) 0 rfl fun I μ k hk _ go=>?_
  dsimp only
  simp only[reduceCtorEq,false_implies,true_implies,forall_const,and_true,true_and,implies_true,Int.toNat_natCast,Bool.not_eq_true',Bool.not_eq_false',Bool.and_eq_true,Bool.and_eq_false_iff,decide_eq_true_eq,decide_eq_false_iff_not,Int.not_lt,Int.not_le,ge_iff_le,gt_iff_lt,List.length_cons,List.length_nil,List.length_append,Nat.zero_add,List.nil_append,beq_iff_eq,beq_eq_false_iff_ne,bne_iff_ne,bne_eq_false_iff_eq,ne_eq,toNat_pred,toNat_succ,toNat_l0,toNat_l1]
  (repeat' first|intro _|(refine go _ ?_ ?_ ?_)|(refine go _ ?_ ?_)|(with_reducible apply And.intro))
  all_goals first|omega|(unfold vecS1;rw[if_neg (by rw[h];simp)])
 cases h2:fixB c
 ·refine loopF (fun _=>((0:Int),false,([]:List Int))) 0 rfl fun I μ k hk _ go=>?_
  dsimp only
  simp only[reduceCtorEq,false_implies,true_implies,forall_const,and_true,true_and,implies_true,Int.toNat_natCast,Bool.not_eq_true',Bool.not_eq_false',Bool.and_eq_true,Bool.and_eq_false_iff,decide_eq_true_eq,decide_eq_false_iff_not,Int.not_lt,Int.not_le,ge_iff_le,gt_iff_lt,List.length_cons,List.length_nil,List.length_append,Nat.zero_add,List.nil_append,beq_iff_eq,beq_eq_false_iff_ne,bne_iff_ne,bne_eq_false_iff_eq,ne_eq,toNat_pred,toNat_succ,toNat_l0,toNat_l1]
  (repeat' first|intro _|(refine go _ ?_ ?_ ?_)|(refine go _ ?_ ?_)|(with_reducible apply And.intro))
  all_goals first|omega|(unfold vecS1;rw[if_neg (by rw[h2];simp)])
 ·have hl:=(vecB_iff a).1 h
  rw[show vecS1 c a=_ from if_pos ⟨h2,h⟩]
  refine loopF (fun k=>((k:Int),an k (fun i=>(fixMul c (a.getD i 0)).2),mp k fun i=>(fixMul c (a.getD i 0)).1)) a.length rfl fun I μ k hk _ go=>?_
  dsimp only
  simp only[reduceCtorEq,false_implies,true_implies,forall_const,and_true,true_and,implies_true,Int.toNat_natCast,Bool.not_eq_true',Bool.not_eq_false',Bool.and_eq_true,Bool.and_eq_false_iff,decide_eq_true_eq,decide_eq_false_iff_not,Int.not_lt,Int.not_le,ge_iff_le,gt_iff_lt,List.length_cons,List.length_nil,List.length_append,Nat.zero_add,List.nil_append,beq_iff_eq,beq_eq_false_iff_ne,bne_iff_ne,bne_eq_false_iff_eq,ne_eq,toNat_pred,toNat_succ,toNat_l0,toNat_l1,mp_len]
  (repeat' first|intro _|(refine go _ ?_ ?_ ?_)|(refine go _ ?_ ?_)|(with_reducible apply And.intro))
  all_goals first|omega|(unfold maxLen;omega)|(rw[mp_succ,an_succ];first|exact Prod.ext rfl (Prod.ext (or2_t (by assumption)) rfl)|exact Prod.ext rfl (Prod.ext (or2_f (by assumption)) rfl))|(have e:k=a.length:=(by omega);subst e;rfl)
theorem h_s_VecScale:Con.Holds Try.prog c_s_VecScale:=tree_ok mixedP (consAt h_s_VecOk (consAt h_s_FixOk (consAt h_s_FixMul consNil))) e_s_VecScale fun x hx hp=>v_s_VecScale x hx hp

/-! spec.VecDot -/

noncomputable def c_s_VecDot:Con:=⟨152,tPair,(.pair tI .bool),[.val ⟨false,tInts,[]⟩,.val ⟨false,tInts,[]⟩],[⟨false,tI,[0]⟩,⟨false,.bool,[0]⟩],false,none,
 ((fun _=>True):(PairD)→Prop),
 ((fun x=>vecDot x.1 x.2):(PairD)→(Int × Bool))⟩
def t_s_VecDot:T:=.loop (.pair tI (.pair .bool tI)) (mkA (.pair tI (.pair .bool tI)) [(.ci .i64 0),(.cb false),(.ci .i64 0)]) <|.prim (.llen 3 tI) (.p1 tInts tInts (.vr 0)) <|.prim (.cmp .lss .i64) (.mk2 tI tI (.p1 tI (.pair .bool tI) (.vr 1)) (.vr 2)) <|.ite (.vr 3) (.call 0 (.vr 0) <|.ite (.vr 4) (.prim (.lidx 3 tI) (.mk2 tInts tI (.p1 tInts tInts (.vr 0)) (.p1 tI (.pair .bool tI) (.vr 1))) <|.prim (.lidx 3 tI) (.mk2 tInts tI (prA tPair 1 (.vr 0)) (.p1 tI (.pair .bool tI) (.vr 1))) <|.call 1 (.mk2 tI tI (.vr 5) (.vr 6)) <|.call 2 (.mk2 tI tI (prA (.pair tI (.pair .bool tI)) 2 (.vr 1)) (.p1 tI .bool (.vr 7))) <|.ite (pjA (.pair tI (.pair .bool tI)) 1 (.vr 1)) (.prim (.ar .add .i64) (.mk2 tI tI (.p1 tI (.pair .bool tI) (.vr 1)) (.ci .i64 1)) <|.again 0 (mkA (.pair tI (.pair .bool tI)) [(.vr 9),(.cb true),(.p1 tI .bool (.vr 8))])) (.ite (prA (.pair tI .bool) 1 (.vr 7)) (.prim (.ar .add .i64) (.mk2 tI tI (.p1 tI (.pair .bool tI) (.vr 1)) (.ci .i64 1)) <|.again 0 (mkA (.pair tI (.pair .bool tI)) [(.vr 9),(.cb true),(.p1 tI .bool (.vr 8))])) (.prim (.ar .add .i64) (.mk2 tI tI (.p1 tI (.pair .bool tI) (.vr 1)) (.ci .i64 1)) <|.again 0 (mkA (.pair tI (.pair .bool tI)) [(.vr 9),(prA (.pair tI .bool) 1 (.vr 8)),(.p1 tI .bool (.vr 8))])))) (.ret (.mk2 tI .bool (prA (.pair tI (.pair .bool tI)) 2 (.vr 1)) (pjA (.pair tI (.pair .bool tI)) 1 (.vr 1))))) (.ret (.mk2 tI .bool (prA (.pair tI (.pair .bool tI)) 2 (.vr 1)) (pjA (.pair tI (.pair .bool tI)) 1 (.vr 1))))
set_option maxRecDepth 100000 in
theorem e_s_VecDot:exFn Try.prog [c_s_l3Pair,c_s_FixMul,c_s_FixAdd] c_s_VecDot false 3000 ⟨[(2989,1001,[.tm 8 0,.tm 7 0,.tm 6 0])],[]⟩ = .ok t_s_VecDot:=by kernel_rfl
/- loops: (Int) × ((Bool) × (Int)) -/
theorem v_s_VecDot (x:PairD) (hx:okD tPair x) (hp:(fun _=>True) x):t_s_VecDot.wp [c_s_l3Pair,c_s_FixMul,c_s_FixAdd] [⟨tPair,x⟩] [] (fun v=>v.as (.pair tI .bool)=(fun x=>vecDot x.1 x.2) x):=by
 obtain ⟨a,b⟩:=x
 delta t_s_VecDot c_s_l3Pair c_s_FixMul c_s_FixAdd;refine vcx ?_;try with_reducible exact True.intro
 simp only[l3_eq]
 cases h:pairB a b
 ·refine loopF (fun _=>((0:Int),false,(0:Int))) 0 rfl fun I μ k hk _ go=>?_
  dsimp only
  simp only[reduceCtorEq,false_implies,true_implies,forall_const,and_true,true_and,implies_true,Int.toNat_natCast,Bool.not_eq_true',Bool.not_eq_false',Bool.and_eq_true,Bool.and_eq_false_iff,decide_eq_true_eq,decide_eq_false_iff_not,Int.not_lt,Int.not_le,ge_iff_le,gt_iff_lt,List.length_cons,List.length_nil,List.length_append,Nat.zero_add,List.nil_append,beq_iff_eq,beq_eq_false_iff_ne,bne_iff_ne,bne_eq_false_iff_eq,ne_eq,toNat_pred,toNat_succ,toNat_l0,toNat_l1]
  (repeat' first|intro _|(refine go _ ?_ ?_ ?_)|(refine go _ ?_ ?_)|(with_reducible apply And.intro))
  all_goals first|omega|(unfold vecDot;rw[if_neg (by rw[h];exact Bool.false_ne_true)])
 ·have hl:=pairB_len h
  rw[show vecDot a b=_ from if_pos h]
  refine loopF (fun k=>((k:Int),(dotK a b k).2,(dotK a b k).1)) a.length rfl fun I μ k hk _ go=>?_
  dsimp only
  simp only[reduceCtorEq,false_implies,true_implies,forall_const,and_true,true_and,implies_true,Int.toNat_natCast,Bool.not_eq_true',Bool.not_eq_false',Bool.and_eq_true,Bool.and_eq_false_iff,decide_eq_true_eq,decide_eq_false_iff_not,Int.not_lt,Int.not_le,ge_iff_le,gt_iff_lt,List.length_cons,List.length_nil,List.length_append,Nat.zero_add,List.nil_append,beq_iff_eq,beq_eq_false_iff_ne,bne_iff_ne,bne_eq_false_iff_eq,ne_eq,toNat_pred,toNat_succ,toNat_l0,toNat_l1]
  (repeat' first|intro _|(refine go _ ?_ ?_ ?_)|(refine go _ ?_ ?_)|(with_reducible apply And.intro))
  all_goals first|omega|(rw[dotK_succ];first|exact Prod.ext rfl (Prod.ext (or3_t (by assumption)) rfl)|exact Prod.ext rfl (Prod.ext (or3_u (by assumption) (by assumption)) rfl)|exact Prod.ext rfl (Prod.ext (or3_f (by assumption) (by assumption)) rfl))|(have e:k=a.length:=(by omega);subst e;rfl)
theorem h_s_VecDot:Con.Holds Try.prog c_s_VecDot:=tree_ok mixedP (consAt h_s_l3Pair (consAt h_s_FixMul (consAt h_s_FixAdd consNil))) e_s_VecDot fun x hx hp=>v_s_VecDot x hx hp

/-! spec.VecRelu -/

noncomputable def c_s_VecRelu:Con:=⟨109,tInts,tInts,[.val ⟨false,tInts,[]⟩],[⟨false,tInts,[2]⟩],false,none,
 ((fun _=>True):(List Int)→Prop),
 ((fun x=>vecRelu x):(List Int)→(List Int))⟩
def t_s_VecRelu:T:=.loop tItem (.mk2 tI tInts (.ci .i64 0) (.nl 3 tI)) <|.prim (.llen 3 tI) (.vr 0) <|.prim (.cmp .lss .i64) (.mk2 tI tI (.p1 tI tInts (.vr 1)) (.vr 2)) <|.ite (.vr 3) (.call 0 (.vr 0) <|.ite (.vr 4) (.prim (.lidx 3 tI) (.mk2 tInts tI (.vr 0) (.p1 tI tInts (.vr 1))) <|.call 1 (.vr 5) <|.prim (.lit 3 tI 1) (.vr 6) <|.prim (.lapp 3 tI 8) (.mk2 tInts tInts (prA tItem 1 (.vr 1)) (.vr 7)) <|.prim (.ar .add .i64) (.mk2 tI tI (.p1 tI tInts (.vr 1)) (.ci .i64 1)) <|.again 0 (.mk2 tI tInts (.vr 9) (.vr 8))) (.ret (prA tItem 1 (.vr 1)))) (.ret (prA tItem 1 (.vr 1)))
set_option maxRecDepth 100000 in
theorem e_s_VecRelu:exFn Try.prog [c_s_VecOk,c_s_Relu] c_s_VecRelu false 3000 ⟨[(2991,1001,[.dr 5,.tm 4 0,.on 3,.sl 1])],[]⟩ = .ok t_s_VecRelu:=by kernel_rfl
/- loops: (Int) × (List (Int)) -/
theorem v_s_VecRelu (x:List Int) (hx:okD tInts x) (hp:(fun _=>True) x):t_s_VecRelu.wp [c_s_VecOk,c_s_Relu] [⟨tInts,x⟩] [] (fun v=>v.as tInts=(fun x=>vecRelu x) x):=by
 obtain ⟨a,rfl⟩:∃ a,a=x:=⟨_,rfl⟩
 delta t_s_VecRelu c_s_VecOk c_s_Relu;refine vcx ?_;try with_reducible exact True.intro
 cases h:vecB a
 ·refine loopF (fun _=>((0:Int),([]:List Int))) 0 rfl fun I μ k hk _ go=>?_
  dsimp only
  simp only[reduceCtorEq,false_implies,true_implies,forall_const,and_true,true_and,implies_true,Int.toNat_natCast,Bool.not_eq_true',Bool.not_eq_false',Bool.and_eq_true,Bool.and_eq_false_iff,decide_eq_true_eq,decide_eq_false_iff_not,Int.not_lt,Int.not_le,ge_iff_le,gt_iff_lt,List.length_cons,List.length_nil,List.length_append,Nat.zero_add,List.nil_append,beq_iff_eq,beq_eq_false_iff_ne,bne_iff_ne,bne_eq_false_iff_eq,ne_eq,toNat_pred,toNat_succ,toNat_l0,toNat_l1]
  (repeat' first|intro _|(refine go _ ?_ ?_ ?_)|(refine go _ ?_ ?_)|(with_reducible apply And.intro))
  all_goals first|omega|(unfold vecRelu;rw[if_neg (by rw[h];exact Bool.false_ne_true)])
 ·have hl:=(vecB_iff a).1 h
  rw[show vecRelu a=_ from if_pos h]
  refine loopF (fun k=>((k:Int),mp k fun i=>reluI (a.getD i 0))) a.length rfl fun I μ k hk _ go=>?_
  dsimp only
  simp only[reduceCtorEq,false_implies,true_implies,forall_const,and_true,true_and,implies_true,Int.toNat_natCast,Bool.not_eq_true',Bool.not_eq_false',Bool.and_eq_true,Bool.and_eq_false_iff,decide_eq_true_eq,decide_eq_false_iff_not,Int.not_lt,Int.not_le,ge_iff_le,gt_iff_lt,List.length_cons,List.length_nil,List.length_append,Nat.zero_add,List.nil_append,beq_iff_eq,beq_eq_false_iff_ne,bne_iff_ne,bne_eq_false_iff_eq,ne_eq,toNat_pred,toNat_succ,toNat_l0,toNat_l1,mp_len]
  (repeat' first|intro _|(refine go _ ?_ ?_ ?_)|(refine go _ ?_ ?_)|(with_reducible apply And.intro))
  all_goals first|omega|(unfold maxLen;omega)|(rw[mp_succ];rfl)|(have e:k=a.length:=(by omega);subst e;rfl)
theorem h_s_VecRelu:Con.Holds Try.prog c_s_VecRelu:=tree_ok mixedP (consAt h_s_VecOk (consAt h_s_Relu consNil)) e_s_VecRelu fun x hx hp=>v_s_VecRelu x hx hp

/-! spec.VecMask -/

noncomputable def c_s_VecMask:Con:=⟨176,tPair,tInts,[.val ⟨false,tInts,[]⟩,.val ⟨false,tInts,[]⟩],[⟨false,tInts,[2]⟩],false,none,
 ((fun _=>True):(PairD)→Prop),
 ((fun x=>vecMask x.1 x.2):(PairD)→(List Int))⟩
def t_s_VecMask:T:=.loop tItem (.mk2 tI tInts (.ci .i64 0) (.nl 3 tI)) <|.prim (.llen 3 tI) (.p1 tInts tInts (.vr 0)) <|.prim (.cmp .lss .i64) (.mk2 tI tI (.p1 tI tInts (.vr 1)) (.vr 2)) <|.ite (.vr 3) (.call 0 (.vr 0) <|.ite (.vr 4) (.prim (.lidx 3 tI) (.mk2 tInts tI (.p1 tInts tInts (.vr 0)) (.p1 tI tInts (.vr 1))) <|.prim (.cmp .gtr .i64) (.mk2 tI tI (.vr 5) (.ci .i64 0)) <|.ite (.vr 6) (.prim (.lidx 3 tI) (.mk2 tInts tI (prA tPair 1 (.vr 0)) (.p1 tI tInts (.vr 1))) <|.prim (.lit 3 tI 1) (.vr 7) <|.prim (.lapp 3 tI 8) (.mk2 tInts tInts (prA tItem 1 (.vr 1)) (.vr 8)) <|.prim (.ar .add .i64) (.mk2 tI tI (.p1 tI tInts (.vr 1)) (.ci .i64 1)) <|.again 0 (.mk2 tI tInts (.vr 10) (.vr 9))) (.prim (.lit 3 tI 1) (.ci .i64 0) <|.prim (.lapp 3 tI 8) (.mk2 tInts tInts (prA tItem 1 (.vr 1)) (.vr 7)) <|.prim (.ar .add .i64) (.mk2 tI tI (.p1 tI tInts (.vr 1)) (.ci .i64 1)) <|.again 0 (.mk2 tI tInts (.vr 9) (.vr 8)))) (.ret (prA tItem 1 (.vr 1)))) (.ret (prA tItem 1 (.vr 1)))
set_option maxRecDepth 100000 in
theorem e_s_VecMask:exFn Try.prog [c_s_l3Pair] c_s_VecMask false 3000 ⟨[(2991,1001,[.dr 7,.tm 6 0,.on 5,.sl 1])],[]⟩ = .ok t_s_VecMask:=by kernel_rfl
/- loops: (Int) × (List (Int)) -/
theorem v_s_VecMask (x:PairD) (hx:okD tPair x) (hp:(fun _=>True) x):t_s_VecMask.wp [c_s_l3Pair] [⟨tPair,x⟩] [] (fun v=>v.as tInts=(fun x=>vecMask x.1 x.2) x):=by
 obtain ⟨a,b⟩:=x
 delta t_s_VecMask c_s_l3Pair;refine vcx ?_;try with_reducible exact True.intro
 simp only[l3_eq]
 cases h:pairB a b
 ·refine loopF (fun _=>((0:Int),([]:List Int))) 0 rfl fun I μ k hk _ go=>?_
  dsimp only
  simp only[reduceCtorEq,false_implies,true_implies,forall_const,and_true,true_and,implies_true,Int.toNat_natCast,Bool.not_eq_true',Bool.not_eq_false',Bool.and_eq_true,Bool.and_eq_false_iff,decide_eq_true_eq,decide_eq_false_iff_not,Int.not_lt,Int.not_le,ge_iff_le,gt_iff_lt,List.length_cons,List.length_nil,List.length_append,Nat.zero_add,List.nil_append,beq_iff_eq,beq_eq_false_iff_ne,bne_iff_ne,bne_eq_false_iff_eq,ne_eq,toNat_pred,toNat_succ,toNat_l0,toNat_l1]
  (repeat' first|intro _|(refine go _ ?_ ?_ ?_)|(refine go _ ?_ ?_)|(with_reducible apply And.intro))
  all_goals first|omega|(unfold vecMask;rw[if_neg (by rw[h];exact Bool.false_ne_true)])
 ·have hl:=pairB_len h
  rw[show vecMask a b=_ from if_pos h]
  refine loopF (fun k=>((k:Int),mp k fun i=>if 0<a.getD i 0 then b.getD i 0 else 0)) a.length rfl fun I μ k hk _ go=>?_
  dsimp only
  simp only[reduceCtorEq,false_implies,true_implies,forall_const,and_true,true_and,implies_true,Int.toNat_natCast,Bool.not_eq_true',Bool.not_eq_false',Bool.and_eq_true,Bool.and_eq_false_iff,decide_eq_true_eq,decide_eq_false_iff_not,Int.not_lt,Int.not_le,ge_iff_le,gt_iff_lt,List.length_cons,List.length_nil,List.length_append,Nat.zero_add,List.nil_append,beq_iff_eq,beq_eq_false_iff_ne,bne_iff_ne,bne_eq_false_iff_eq,ne_eq,toNat_pred,toNat_succ,toNat_l0,toNat_l1,mp_len]
  have e1:0<a.getD k 0→b.getD k 0=if 0<a.getD k 0 then b.getD k 0 else 0:=fun h=>(if_pos h).symm
  have e2:a.getD k 0≤0→0=if 0<a.getD k 0 then b.getD k 0 else 0:=fun h=>(if_neg (by omega)).symm
  (repeat' first|intro _|(refine go _ ?_ ?_ ?_)|(refine go _ ?_ ?_)|(with_reducible apply And.intro))
  all_goals first|omega|(unfold maxLen;omega)|(rw[mp_succ];first|exact Prod.ext rfl (congrArg (mp k _++[·]) (e1 (by assumption)))|exact Prod.ext rfl (congrArg (mp k _++[·]) (e2 (by assumption))))|(have e:k=a.length:=(by omega);subst e;rfl)
theorem h_s_VecMask:Con.Holds Try.prog c_s_VecMask:=tree_ok mixedP (consAt h_s_l3Pair consNil) e_s_VecMask fun x hx hp=>v_s_VecMask x hx hp
end Go.Proofs.Ytahggdiafncdhaa
