/- Fix2: trees, and what they say. -/
import Derived.Test.YtahggdiafncdhaaCe
namespace Go.Proofs.Ytahggdiafncdhaa
open Go.ChangeShapes Go.WideShapes Go.ChangeAt Go.RowKit Go.Deep
set_option linter.unusedVariables false
set_option linter.unusedSimpArgs false
theorem clampI_b (x:Int):-2147483647≤clampI x∧clampI x≤2147483647:=by unfold clampI;omega
theorem clampI_id {x:Int} (h1:-2147483647≤x) (h2:x≤2147483647):clampI x=x:=by unfold clampI;omega
theorem take_next {α:Type} {l:List α} {k:Nat} (h:k<l.length) (d:α):l.take k++[l.getD k d]=l.take (k+1):=by
 rw[List.take_succ_eq_append_getElem h,List.getD_eq_getElem?_getD,List.getElem?_eq_getElem h];rfl
def fixB (x:Int):Bool:=decide (clampI x=x)
theorem fixB_iff (x:Int):fixB x=true↔-2147483647≤x∧x≤2147483647:=by unfold fixB clampI;rw[decide_eq_true_eq];omega
theorem all_next {α:Type} (F:α→Bool) (l:List α) {k:Nat} (h:k<l.length):(l.take (k+1)).all F=((l.take k).all F&&F l[k]):=by
 rw[List.take_succ_eq_append_getElem h,List.all_append];simp
theorem all_bad {α:Type} {F:α→Bool} {l:List α} {k:Nat} (h:k<l.length) (hb:F l[k]=false):l.all F=false:=by
 rw[List.all_eq_false]
 exact ⟨l[k],List.getElem_mem h,by simp[hb]⟩
theorem rng_next (F:Nat→Bool) (k:Nat):(List.range (k+1)).all F=((List.range k).all F&&F k):=by
 rw[List.range_succ,List.all_append];simp

/-! impl.clamp -/

noncomputable def c_i_clamp:Con:=⟨64,tI,tI,[.val ⟨false,tI,[]⟩],[⟨false,tI,[0]⟩],false,none,
 ((fun _=>True):(Int)→Prop),
 ((fun x=>clampI x):(Int)→(Int))⟩
def t_i_clamp:T:=.prim (.mx .i64) (.mk2 tI tI (.vr 0) (.ci .i64 (-2147483647))) <|.prim (.mn .i64) (.mk2 tI tI (.vr 1) (.ci .i64 2147483647)) <|.ret (.vr 2)
set_option maxRecDepth 100000 in
theorem e_i_clamp:exFn Try.prog [] c_i_clamp false 3000 ⟨[],[]⟩ = .ok t_i_clamp:=by kernel_rfl
theorem v_i_clamp (x:Int) (hx:okD tI x) (hp:(fun _=>True) x):t_i_clamp.wp [] [⟨tI,x⟩] [] (fun v=>v.as tI=(fun x=>clampI x) x):=by
 delta t_i_clamp;refine vcx ?_;try with_reducible exact True.intro
 exact fun _ _=>rfl
theorem h_i_clamp:Con.Holds Try.prog c_i_clamp:=tree_ok mixedP consNil e_i_clamp fun x hx hp=>v_i_clamp x hx hp

/-! impl.FixOk -/

noncomputable def c_i_FixOk:Con:=⟨74,tI,.bool,[.val ⟨false,tI,[]⟩],[⟨false,.bool,[0]⟩],false,none,
 ((fun _=>True):(Int)→Prop),
 ((fun x=>fixB x):(Int)→(Bool))⟩
def t_i_FixOk:T:=.prim (.cmp .geq .i64) (.mk2 tI tI (.vr 0) (.ci .i64 (-2147483647))) <|.ite (.vr 1) (.prim (.cmp .leq .i64) (.mk2 tI tI (.vr 0) (.ci .i64 2147483647)) <|.ret (.vr 2)) (.ret (.cb false))
set_option maxRecDepth 100000 in
theorem e_i_FixOk:exFn Try.prog [] c_i_FixOk false 3000 ⟨[],[]⟩ = .ok t_i_FixOk:=by kernel_rfl
theorem v_i_FixOk (x:Int) (hx:okD tI x) (hp:(fun _=>True) x):t_i_FixOk.wp [] [⟨tI,x⟩] [] (fun v=>v.as .bool=(fun x=>fixB x) x):=by
 delta t_i_FixOk;refine vcx ?_;try with_reducible exact True.intro
 show (decide (x ≥ -2147483647)=true→decide (x≤2147483647)=decide (clampI x=x))∧(decide (x ≥ -2147483647)=false→false=decide (clampI x=x))
 unfold clampI
 constructor
 ·intro h;simp at h ⊢;omega
 ·intro h;simp at h ⊢;omega
theorem h_i_FixOk:Con.Holds Try.prog c_i_FixOk:=tree_ok mixedP consNil e_i_FixOk fun x hx hp=>v_i_FixOk x hx hp

/-! impl.settle -/

noncomputable def c_i_settle:Con:=⟨129,tI,(.pair tI .bool),[.val ⟨false,tI,[]⟩],[⟨false,tI,[0]⟩,⟨false,.bool,[0]⟩],false,none,
 ((fun _=>True):(Int)→Prop),
 ((fun x=>satI x):(Int)→(Int × Bool))⟩
def t_i_settle:T:=.call 0 (.vr 0) <|.call 1 (.vr 0) <|.prim .not (.vr 2) <|.ret (.mk2 tI .bool (.vr 1) (.vr 3))
set_option maxRecDepth 100000 in
theorem e_i_settle:exFn Try.prog [c_i_clamp,c_i_FixOk] c_i_settle false 3000 ⟨[],[]⟩ = .ok t_i_settle:=by kernel_rfl
theorem v_i_settle (x:Int) (hx:okD tI x) (hp:(fun _=>True) x):t_i_settle.wp [c_i_clamp,c_i_FixOk] [⟨tI,x⟩] [] (fun v=>v.as (.pair tI .bool)=(fun x=>satI x) x):=by
 delta t_i_settle c_i_clamp c_i_FixOk;refine vcx ?_;try with_reducible exact True.intro
 intro _
 show (clampI x,!decide (clampI x=x))=satI x
 unfold satI
 simp[eq_comm]
theorem h_i_settle:Con.Holds Try.prog c_i_settle:=tree_ok mixedP (consAt h_i_clamp (consAt h_i_FixOk consNil)) e_i_settle fun x hx hp=>v_i_settle x hx hp

/-! impl.FixAdd -/

noncomputable def c_i_FixAdd:Con:=⟨91,tIns,(.pair tI .bool),[.val ⟨false,tI,[]⟩,.val ⟨false,tI,[]⟩],[⟨false,tI,[0]⟩,⟨false,.bool,[0]⟩],false,none,
 ((fun _=>True):(Int × Int)→Prop),
 ((fun x=>fixAdd x.1 x.2):(Int × Int)→(Int × Bool))⟩
def t_i_FixAdd:T:=.call 0 (.p1 tI tI (.vr 0)) <|.call 0 (prA tIns 1 (.vr 0)) <|.prim (.ar .add .i64) (.mk2 tI tI (.vr 1) (.vr 2)) <|.call 1 (.vr 3) <|.ret (.vr 4)
set_option maxRecDepth 100000 in
theorem e_i_FixAdd:exFn Try.prog [c_i_clamp,c_i_settle] c_i_FixAdd false 3000 ⟨[],[]⟩ = .ok t_i_FixAdd:=by kernel_rfl
theorem v_i_FixAdd (x:Int × Int) (hx:okD tIns x) (hp:(fun _=>True) x):t_i_FixAdd.wp [c_i_clamp,c_i_settle] [⟨tIns,x⟩] [] (fun v=>v.as (.pair tI .bool)=(fun x=>fixAdd x.1 x.2) x):=by
 delta t_i_FixAdd c_i_clamp c_i_settle;refine vcx ?_;try with_reducible exact True.intro
 intro _ _
 have h1:=clampI_b x.1
 have h2:=clampI_b x.2
 exact ⟨by omega,fun _ _=>rfl⟩
theorem h_i_FixAdd:Con.Holds Try.prog c_i_FixAdd:=tree_ok mixedP (consAt h_i_clamp (consAt h_i_settle consNil)) e_i_FixAdd fun x hx hp=>v_i_FixAdd x hx hp

/-! impl.copyInts -/

noncomputable def c_i_copyInts:Con:=⟨104,tInts,tInts,[.val ⟨false,tInts,[]⟩],[⟨false,tInts,[2]⟩],false,none,
 ((fun x=>List.length x≤1000000000):(List Int)→Prop),
 ((fun x=>x):(List Int)→(List Int))⟩
def t_i_copyInts:T:=.prim (.lapp 3 tI 8) (.mk2 tInts tInts (.nl 3 tI) (.vr 0)) <|.ret (.vr 1)
set_option maxRecDepth 100000 in
theorem e_i_copyInts:exFn Try.prog [] c_i_copyInts false 3000 ⟨[],[]⟩ = .ok t_i_copyInts:=by kernel_rfl
theorem v_i_copyInts (x:List Int) (hx:okD tInts x) (hp:(fun x=>List.length x≤1000000000) x):t_i_copyInts.wp [] [⟨tInts,x⟩] [] (fun v=>v.as tInts=(fun x=>x) x):=by
 have hp:List.length x≤1000000000:=hp
 delta t_i_copyInts;refine vcx ?_;try with_reducible exact True.intro
 simp only[List.length_nil,Nat.zero_add,List.nil_append]
 exact ⟨by unfold maxLen;omega,fun _=>by first|rfl|trivial⟩
theorem h_i_copyInts:Con.Holds Try.prog c_i_copyInts:=tree_ok mixedP consNil e_i_copyInts fun x hx hp=>v_i_copyInts x hx hp

/-! impl.copyRows -/

noncomputable def c_i_copyRows:Con:=⟨90,tRows,tRows,[.val ⟨false,tRows,[]⟩],[⟨false,tRows,[2]⟩],false,none,
 ((fun x=>List.length x≤1000000000∧∀ y∈x,List.length y≤1000000000):(RowsD)→Prop),
 ((fun x=>x):(RowsD)→(RowsD))⟩
def t_i_copyRows:T:=.prim (.llen 92 tInts) (.vr 0) <|.loop tSaved (.mk2 tI tRows (.ci .i64 0) (.nl 92 tInts)) <|.prim (.cmp .lss .i64) (.mk2 tI tI (.p1 tI tRows (.vr 2)) (.vr 1)) <|.ite (.vr 3) (.prim (.lidx 92 tInts) (.mk2 tRows tI (.vr 0) (.p1 tI tRows (.vr 2))) <|.call 0 (.vr 4) <|.prim (.lit 92 tInts 1) (.vr 5) <|.prim (.lapp 92 tInts 24) (.mk2 tRows tRows (prA tSaved 1 (.vr 2)) (.vr 6)) <|.prim (.ar .add .i64) (.mk2 tI tI (.p1 tI tRows (.vr 2)) (.ci .i64 1)) <|.again 0 (.mk2 tI tRows (.vr 8) (.vr 7))) (.ret (prA tSaved 1 (.vr 2)))
set_option maxRecDepth 100000 in
theorem e_i_copyRows:exFn Try.prog [c_i_copyInts] c_i_copyRows false 3000 ⟨[(2991,1002,[.dr 6,.dr 0,.tm 9 0,.on 3,.sl 1])],[(2981,3005,[16],[])]⟩ = .ok t_i_copyRows:=by kernel_rfl
/- loops: (Int) × (List (List (Int))) -/
theorem v_i_copyRows (x:RowsD) (hx:okD tRows x) (hp:(fun x=>List.length x≤1000000000∧∀ y∈x,List.length y≤1000000000) x):t_i_copyRows.wp [c_i_copyInts] [⟨tRows,x⟩] [] (fun v=>v.as tRows=(fun x=>x) x):=by
 obtain ⟨hp1,hp2⟩:List.length x≤1000000000∧∀ y∈x,List.length y≤1000000000:=hp
 delta t_i_copyRows c_i_copyInts;refine vcx ?_;try with_reducible exact True.intro
 intro _
 refine ⟨fun s=>∃ k:Nat,k≤x.length∧s=((k:Int),x.take k),fun s=>x.length - (s.1:Int).toNat,⟨0,Nat.zero_le _,by simp⟩,fun s hs hI=>?_⟩
 obtain ⟨k,hk,rfl⟩:=hI
 dsimp only
 (refine dcx ?_;try with_reducible exact True.intro)
 constructor
 ·intro hlt
  have hk':k<x.length:=by omega
  rw[getD_at hk']
  have hm:=hp2 _ (List.getElem_mem hk')
  have hl:(x.take k).length=k:=List.length_take_of_le hk
  (repeat' first|intro _|(with_reducible apply And.intro))
  all_goals first|omega|(unfold maxLen;omega)|(exact ⟨k+1,by omega,by rw[take_at hk'];rfl⟩)
 ·intro hge
  have:k=x.length:=by omega
  subst this
  show x.take x.length=x
  simp
theorem h_i_copyRows:Con.Holds Try.prog c_i_copyRows:=tree_ok mixedP (consAt h_i_copyInts consNil) e_i_copyRows fun x hx hp=>v_i_copyRows x hx hp
end Go.Proofs.Ytahggdiafncdhaa
