/- Show3: trees, and what they say. -/
import Derived.Test.YtepjkojfjdcegaaGreatStage3
import Derived.Test.YtepjkojfjdcegaaGreatVec2
namespace Go.Proofs.YtepjkojfjdcegaaGreat
open Go.ChangeShapes Go.WideShapes Go.ChangeAt Go.RowKit Go.Deep
set_option linter.unusedVariables false
set_option linter.unusedSimpArgs false
def okV (v:List Int):Bool:=decide (v.length≤200) && v.all small
theorem numS_pos (n:Int):1≤(numS n).size:=by
 unfold numS
 split <;> rw [ba_size] <;> (show 1≤1 + _) <;> omega
theorem numsS_ge (s:ByteArray):(l:List Int)→s.size≤(numsS s l).size
 | []=>Nat.le_refl _
 | x :: l=>by
  have h:=numsS_ge (s ++ numS x) l
  rw [ba_size] at h
  show s.size≤(numsS (s ++ numS x) l).size
  omega
def isE (p:ByteArray):Bool:=decide (p = ⟨#[]⟩)
theorem isE_num (n:Int):isE (numS n) = false:=by
 unfold isE;rw [decide_eq_false_iff_not];intro h
 have:=numS_pos n;rw [h] at this;exact absurd this (by decide)
theorem isE_vec (v:List Int):isE (vecS v) = !okV v:=by
 unfold isE vecS okV
 by_cases h:v.length≤200∧v.all small = true
 ·rw [if_pos h,decide_eq_true h.1,h.2]
  rw [decide_eq_false_iff_not.2 (fun e=>?_)];· rfl
  have h1:=numsS_ge (numS v.length) v
  have h2:=numS_pos v.length
  rw [e] at h1;exact absurd (Nat.le_trans h2 h1) (by decide)
 ·rw [if_neg h,decide_eq_true rfl]
  cases ha:v.all small
  ·simp
  ·rw [decide_eq_false (fun h2=>h ⟨h2,ha⟩)];rfl
def cat (s:ByteArray) (l:List ByteArray):ByteArray:=l.foldl (fun a b=>a ++ b) s
theorem cat_app (s:ByteArray) (a b:List ByteArray):cat s (a ++ b) = cat (cat s a) b:=List.foldl_append
theorem ba_assoc (a b c:ByteArray):a ++ b ++ c = a ++ (b ++ c):=by apply ByteArray.ext;simp [ByteArray.data_append,Array.append_assoc]
theorem nil_app (a:ByteArray):(⟨#[]⟩:ByteArray) ++ a = a:=by apply ByteArray.ext;simp [ByteArray.data_append]
theorem cat_cat (s:ByteArray):(l:List ByteArray)→cat s l = s ++ cat ⟨#[]⟩ l
 | []=>(app_nil s).symm
 | x :: l=>by
  show cat (s ++ x) l = s ++ cat (⟨#[]⟩ ++ x) l
  rw [cat_cat (s ++ x) l,cat_cat (⟨#[]⟩ ++ x) l,nil_app,ba_assoc]
theorem cat_one (s p:ByteArray):cat s [p] = s ++ p:=rfl
def szP (l:List ByteArray):Prop:=∀ p ∈ l,p.size≤1608
theorem cat_size (s:ByteArray):(l:List ByteArray)→szP l→(cat s l).size≤s.size + 1608 * l.length
 | [],_=>Nat.le_refl _
 | x :: l,h=>by
  have h1:=cat_size (s ++ x) l (fun p hp=>h p (List.mem_cons_of_mem _ hp))
  have h2:=h x List.mem_cons_self
  rw [ba_size] at h1
  show (cat (s ++ x) l).size≤_
  rw [List.length_cons];omega
theorem bytesL_app (a b:ByteArray):bytesL (a ++ b) = bytesL a ++ bytesL b:=by unfold bytesL;rw [ByteArray.data_append,Array.toList_append,List.map_append]
theorem bytesL_len (a:ByteArray):(bytesL a).length = a.size:=by unfold bytesL;rw [List.length_map];rfl
theorem ofB_bytes (a:ByteArray):ofBytesL (bytesL a) = a:=by
 unfold ofBytesL bytesL
 apply ByteArray.ext
 rw [List.map_map]
 have:∀ l:List UInt8,l.map ((fun n:Int=>UInt8.ofNat n.toNat) ∘ fun b=>(b.toNat:Int)) = l:=fun l=>by
  rw [List.map_congr_left (g:=id) fun b _=>?_,List.map_id]
  show UInt8.ofNat ((b.toNat:Int).toNat) = b
  rw [Int.toNat_natCast];simp
 rw [this]
abbrev WrD:=List Int × Bool
def putW (w:WrD) (s:ByteArray):WrD:=(w.1 ++ bytesL s,w.2 || isE s)
def putsW (w:WrD) (l:List ByteArray):WrD:=l.foldl putW w
theorem putsW_app (w:WrD) (a b:List ByteArray):putsW w (a ++ b) = putsW (putsW w a) b:=List.foldl_append
theorem putsW_eq:(l:List ByteArray)→(s:ByteArray)→(b:Bool)→putsW (bytesL s,b) l = (bytesL (cat s l),b || l.any isE)
 | [],s,b=>by simp [putsW,cat]
 | x :: l,s,b=>by
  have h:=putsW_eq l (s ++ x) (b || isE x)
  rw [bytesL_app] at h
  show putsW (bytesL s ++ bytesL x,b || isE x) l = _
  rw [h,List.any_cons,Bool.or_assoc];rfl
theorem putsW_len (w:WrD):(l:List ByteArray)→szP l→(putsW w l).1.length≤w.1.length + 1608 * l.length
 | [],_=>Nat.le_refl _
 | x :: l,h=>by
  have h1:=putsW_len (putW w x) l (fun p hp=>h p (List.mem_cons_of_mem _ hp))
  have h2:=h x List.mem_cons_self
  have h3:(putW w x).1.length = w.1.length + x.size:=by unfold putW;rw [List.length_append,bytesL_len]
  show (putsW (putW w x) l).1.length≤_
  rw [List.length_cons];omega
theorem szP_app {a b:List ByteArray} (h1:szP a) (h2:szP b):szP (a ++ b):=fun p hp=>by
 rw [List.mem_append] at hp;exact hp.elim (h1 p) (h2 p)
theorem szP_cons {a:ByteArray} {b:List ByteArray} (h1:a.size≤1608) (h2:szP b):szP (a :: b):=fun p hp=>by
 rw [List.mem_cons] at hp;rcases hp with rfl | hp;exact h1;exact h2 p hp
theorem szP_nil:szP []:=fun p hp=>by cases hp
theorem szP_fm {α:Type} {g:α→List ByteArray} (l:List α) (h:∀ a,szP (g a)):szP (l.flatMap g):=fun p hp=>by
 rw [List.mem_flatMap] at hp;obtain ⟨a,_,hp⟩:=hp;exact h a p hp
theorem num_le (n:Int):(numS n).size≤1608:=Nat.le_trans (numS_size n) (by decide)
def rowsP (l:RowsD):List ByteArray:=numS l.length :: l.map vecS
theorem rowsP_sz (l:RowsD):szP (rowsP l):=szP_cons (num_le _) fun p hp=>by
 rw [List.mem_map] at hp;obtain ⟨a,_,rfl⟩:=hp;exact vecS_size a
theorem rowsP_len (l:RowsD):(rowsP l).length = l.length + 1:=by unfold rowsP;rw [List.length_cons,List.length_map]
theorem rowsP_next (l:RowsD) {k:Nat} (h:k < l.length):(rowsP l).take (k + 1) ++ [vecS l[k]] = (rowsP l).take (k + 2):=by
 have h':k + 1 < (rowsP l).length:=by rw [rowsP_len];omega
 have e:(rowsP l)[k + 1]'h' = vecS l[k]:=by simp [rowsP]
 rw [List.take_succ_eq_append_getElem h',e]
theorem rowsP_all (l:RowsD):(rowsP l).take (l.length + 1) = rowsP l:=List.take_of_length_le (by rw [rowsP_len];exact Nat.le_refl _)
theorem rowsP_one (l:RowsD):(rowsP l).take 1 = [numS l.length]:=rfl
theorem fm_next {α β:Type} (g:α→List β) (l:List α) {k:Nat} (h:k < l.length):(l.take (k + 1)).flatMap g = (l.take k).flatMap g ++ g l[k]:=by
 rw [List.take_succ_eq_append_getElem h,List.flatMap_append,List.flatMap_singleton]
theorem fm_len {α β:Type} (g:α→List β) (B:Nat):(l:List α)→(∀ a ∈ l,(g a).length≤B)→(l.flatMap g).length≤B * l.length
 | [],_=>Nat.le_refl _
 | x :: l,h=>by
  have h1:=fm_len g B l (fun a ha=>h a (List.mem_cons_of_mem _ ha))
  have h2:=h x List.mem_cons_self
  rw [List.flatMap_cons,List.length_append,List.length_cons,Nat.mul_succ];omega
def insP (i:InsD):List ByteArray:=[vecS [i.1,i.2]]
def opP (o:OpD):List ByteArray:=[vecS [o.1,o.2.1,o.2.2.1],vecS o.2.2.2]
def savP (x:SavedD):List ByteArray:=vecS [x.1] :: rowsP x.2
theorem insP_sz (i:InsD):szP (insP i):=szP_cons (vecS_size _) szP_nil
theorem opP_sz (o:OpD):szP (opP o):=szP_cons (vecS_size _) (szP_cons (vecS_size _) szP_nil)
theorem savP_sz (x:SavedD):szP (savP x):=szP_cons (vecS_size _) (rowsP_sz _)
def b01 (b:Bool):Int:=if b = true then 1 else 0
def headV (s:StageD):List Int:=[s.1,b01 s.2.2.2.1,b01 s.2.2.2.2.1,s.2.2.2.2.2.2.2.2.2.2.2.2.1,b01 s.2.2.2.2.2.2.2.2.2.2.2.2.2,s.2.1.length,s.2.2.1.length,s.2.2.2.2.2.1.length]
def stageT (s:StageD):List ByteArray:=rowsP s.2.2.2.2.2.2.1 ++ ([vecS s.2.2.2.2.2.2.2.1,vecS s.2.2.2.2.2.2.2.2.1,vecS s.2.2.2.2.2.2.2.2.2.1,vecS s.2.2.2.2.2.2.2.2.2.2.1] ++ rowsP s.2.2.2.2.2.2.2.2.2.2.2.1)
def stageP (s:StageD):List ByteArray:=[vecS (headV s)] ++ (s.2.1.flatMap insP ++ (s.2.2.1.flatMap opP ++ (s.2.2.2.2.2.1.flatMap savP ++ stageT s)))
def stageV (s:StageD):RowsD:=[[s.1,s.2.2.2.2.2.2.2.2.2.2.2.2.1],s.2.2.2.2.2.2.2.1,s.2.2.2.2.2.2.2.2.1,s.2.2.2.2.2.2.2.2.2.1,s.2.2.2.2.2.2.2.2.2.2.1] ++ (s.2.1.flatMap (fun i=>[[i.1,i.2]]) ++ (s.2.2.1.flatMap (fun o=>[o.2.2.2]) ++ (s.2.2.2.2.2.1.flatMap (fun x=>[x.1] :: x.2) ++ (s.2.2.2.2.2.2.1 ++ s.2.2.2.2.2.2.2.2.2.2.2.1))))
def limS (s:StageD):Prop:=stageB s = true∧s.2.1.length≤100∧s.2.2.2.2.2.1.length≤5∧s.2.2.2.2.2.2.1.length≤20
instance (s:StageD):Decidable (limS s):=by unfold limS;infer_instance
def stageS (s:StageD):ByteArray:=if limS s∧(stageV s).all okV = true then cat ⟨#[]⟩ (stageP s) else ⟨#[]⟩
theorem small_b01 (b:Bool):small (b01 b) = true:=by cases b <;> decide
theorem small_len {n:Nat} (h:n≤1000):small (n:Int) = true:=by unfold small;rw [decide_eq_true_eq];omega
theorem okV_head {s:StageD} (h:limS s):okV (headV s) = okV [s.1,s.2.2.2.2.2.2.2.2.2.2.2.2.1]:=by
 obtain ⟨h1,h2,h3,_⟩:=h
 have h5:=(modelB_iff _).1 ((stageB_iff s).1 h1).1
 unfold okV headV
 simp only [List.all_cons,List.all_nil,small_b01,small_len (show s.2.1.length≤1000 by omega),small_len (show s.2.2.1.length≤1000 by omega),small_len (show s.2.2.2.2.2.1.length≤1000 by omega),Bool.true_and,Bool.and_true,List.length_cons,List.length_nil]
 rfl
theorem okV_op {m:List OpD} (h:modelB m = true):∀ o ∈ m,okV [o.1,o.2.1,o.2.2.1] = true:=fun o ho=>by
 obtain ⟨i,hi,rfl⟩:=List.getElem_of_mem ho
 have h1:=((okAt_iff m hi).1 (((modelB_iff m).1 h).2.2 i hi)).1
 have h2:=((opB_iff _).1 h1).1
 unfold okV
 simp only [List.all_cons,List.all_nil,small,List.length_cons,List.length_nil,Bool.and_true]
 simp only [Bool.and_eq_true,decide_eq_true_eq]
 exact ⟨by omega,by omega,by omega,by omega⟩
theorem any_fm {α β:Type} (g:α→List β) (q:β→Bool):(l:List α)→(l.flatMap g).any q = l.any fun a=>(g a).any q
 | []=>rfl
 | x :: l=>by rw [List.flatMap_cons,List.any_append,List.any_cons,any_fm g q l]
theorem any_cg {α:Type} {f g:α→Bool}:(l:List α)→(∀ a ∈ l,f a = g a)→l.any f = l.any g
 | [],_=>rfl
 | x :: l,h=>by rw [List.any_cons,List.any_cons,h x List.mem_cons_self,any_cg l fun a ha=>h a (List.mem_cons_of_mem _ ha)]
theorem rowsP_any (l:RowsD):(rowsP l).any isE = l.any fun v=>!okV v:=by
 unfold rowsP
 rw [List.any_cons,isE_num,Bool.false_or,List.any_map]
 exact any_cg l fun a _=>isE_vec a
theorem stage_any {s:StageD} (h:limS s):(stageP s).any isE = !(stageV s).all okV:=by
 have hm:=((stageB_iff s).1 h.1).1
 unfold stageP stageT stageV
 rw [List.not_all_eq_any_not]
 simp only [List.any_append,any_fm,rowsP_any,List.any_cons,List.any_nil,isE_vec,okV_head h,Bool.or_false,insP,savP]
 have e1:s.2.2.1.any (fun a=>(opP a).any isE) = s.2.2.1.any fun o=>!okV o.2.2.2:=any_cg _ fun o ho=>by
  unfold opP;rw [List.any_cons,List.any_cons,List.any_nil,isE_vec,isE_vec,okV_op hm o ho,Bool.or_false];rfl
 rw [e1]
 ac_rfl
theorem stage_out {s:StageD} (h:limS s):putsW ([],false) (stageP s) = (bytesL (cat ⟨#[]⟩ (stageP s)),!(stageV s).all okV):=by
 have:=putsW_eq (stageP s) ⟨#[]⟩ false
 rw [Bool.false_or,stage_any h] at this
 exact this
theorem kept_le {s:StageD} (h:stageB s = true):∀ x ∈ s.2.2.2.2.2.1,x.2.length≤9:=fun x hx=>by
 have h1:=(stageB_iff s).1 h
 have h2:=(modelB_iff _).1 h1.1
 have h3:=List.all_eq_true.1 h1.2.2.2.1 x hx
 have h4:=((savedB_iff _ _ _).1 h3).1
 unfold keptN at h4
 split at h4 <;> omega
noncomputable def c_i_writer_put:Con:=⟨49,(.pair (.pair (.slice 5 (.int .u8)) .bool) .str),(.pair (.slice 5 (.int .u8)) .bool),[.box 90 ⟨true,(.pair (.slice 5 (.int .u8)) .bool),[2,0]⟩,.val ⟨false,.str,[]⟩],[],false,none,
 ((fun x=>x.1.1.length≤1000000000000∧x.2.size≤1000000000000):((IntsD × Bool) × (ByteArray))→Prop),
 ((fun x=>putW x.1 x.2):((IntsD × Bool) × (ByteArray))→(IntsD × Bool))⟩
def t_i_writer_put:T :=
 .ite (prA (.pair (.slice 5 (.int .u8)) .bool) 1 (.p1 (.pair (.slice 5 (.int .u8)) .bool) .str (.vr 0))) (
  .prim (.lapps 5) (.mk2 (.slice 5 (.int .u8)) .str (.p1 (.slice 5 (.int .u8)) .bool (.p1 (.pair (.slice 5 (.int .u8)) .bool) .str (.vr 0))) (prA (.pair (.pair (.slice 5 (.int .u8)) .bool) .str) 1 (.vr 0))) <|
  .ret (.mk2 (.slice 5 (.int .u8)) .bool (.vr 1) (.cb true))) (
  .prim (.seq false) (.mk2 .str .str (prA (.pair (.pair (.slice 5 (.int .u8)) .bool) .str) 1 (.vr 0)) (.cs ⟨#[]⟩)) <|
  .prim (.lapps 5) (.mk2 (.slice 5 (.int .u8)) .str (.p1 (.slice 5 (.int .u8)) .bool (.p1 (.pair (.slice 5 (.int .u8)) .bool) .str (.vr 0))) (prA (.pair (.pair (.slice 5 (.int .u8)) .bool) .str) 1 (.vr 0))) <|
  .ret (.mk2 (.slice 5 (.int .u8)) .bool (.vr 2) (.vr 1)))
set_option maxRecDepth 100000 in
theorem e_i_writer_put:exFn Tryz.prog [] c_i_writer_put false 3000 ⟨[],[]⟩ = .ok t_i_writer_put:=by kernel_rfl
theorem v_i_writer_put (x:(IntsD × Bool) × (ByteArray)) (hx:okD (.pair (.pair (.slice 5 (.int .u8)) .bool) .str) x) (hp:(fun x=>x.1.1.length≤1000000000000∧x.2.size≤1000000000000) x):t_i_writer_put.wp [] [⟨(.pair (.pair (.slice 5 (.int .u8)) .bool) .str),x⟩] [] (fun v=>v.as (.pair (.slice 5 (.int .u8)) .bool) = (fun x=>putW x.1 x.2) x):=by
 obtain ⟨⟨p,b⟩,s⟩:=x
 obtain ⟨h1,h2⟩:p.length≤1000000000000∧s.size≤1000000000000:=hp
 delta t_i_writer_put;refine vcx ?_;try with_reducible exact True.intro
 refine ⟨fun hb=>⟨by omega,fun _=>?_⟩,fun hb=>⟨by omega,fun _=>?_⟩⟩
 ·unfold putW;dsimp only at hb ⊢;rw [hb];rfl
 ·unfold putW isE;dsimp only at hb ⊢;rw [hb];simp
theorem h_i_writer_put:Con.Holds Tryz.prog c_i_writer_put:=tree_ok mixedP consNil e_i_writer_put fun x hx hp=>v_i_writer_put x hx hp
noncomputable def c_i_writer_rows:Con:=⟨51,(.pair (.pair (.slice 5 (.int .u8)) .bool) tRows),(.pair (.slice 5 (.int .u8)) .bool),[.box 90 ⟨true,(.pair (.slice 5 (.int .u8)) .bool),[2,0]⟩,.val ⟨false,tRows,[]⟩],[],false,none,
 ((fun x=>x.1.1.length≤100000000000∧x.2.length≤10000000):((IntsD × Bool) × RowsD)→Prop),
 ((fun x=>putsW x.1 (rowsP x.2)):((IntsD × Bool) × RowsD)→(IntsD × Bool))⟩
def t_i_writer_rows:T :=
 .prim (.llen 158 tInts) (prA (.pair (.pair (.slice 5 (.int .u8)) .bool) tRows) 1 (.vr 0)) <|
 .call 0 (.vr 1) <|
 .call 1 (.mk2 (.pair (.slice 5 (.int .u8)) .bool) .str (.p1 (.pair (.slice 5 (.int .u8)) .bool) tRows (.vr 0)) (.vr 2)) <|
 .prim (.llen 158 tInts) (prA (.pair (.pair (.slice 5 (.int .u8)) .bool) tRows) 1 (.vr 0)) <|
 .loop (.pair tI (.pair .bool (.slice 5 (.int .u8)))) (mkA (.pair tI (.pair .bool (.slice 5 (.int .u8)))) [(.ci .i64 0),(prA (.pair (.slice 5 (.int .u8)) .bool) 1 (.vr 3)),(.p1 (.slice 5 (.int .u8)) .bool (.vr 3))]) <|
  .prim (.cmp .lss .i64) (.mk2 tI tI (.p1 tI (.pair .bool (.slice 5 (.int .u8))) (.vr 5)) (.vr 4)) <|
  .ite (.vr 6) (
   .prim (.lidx 158 tInts) (.mk2 tRows tI (prA (.pair (.pair (.slice 5 (.int .u8)) .bool) tRows) 1 (.vr 0)) (.p1 tI (.pair .bool (.slice 5 (.int .u8))) (.vr 5))) <|
   .call 2 (.vr 7) <|
   .call 1 (.mk2 (.pair (.slice 5 (.int .u8)) .bool) .str (.mk2 (.slice 5 (.int .u8)) .bool (prA (.pair tI (.pair .bool (.slice 5 (.int .u8)))) 2 (.vr 5)) (pjA (.pair tI (.pair .bool (.slice 5 (.int .u8)))) 1 (.vr 5))) (.vr 8)) <|
   .prim (.ar .add .i64) (.mk2 tI tI (.p1 tI (.pair .bool (.slice 5 (.int .u8))) (.vr 5)) (.ci .i64 1)) <|
   .again 0 (mkA (.pair tI (.pair .bool (.slice 5 (.int .u8)))) [(.vr 10),(prA (.pair (.slice 5 (.int .u8)) .bool) 1 (.vr 9)),(.p1 (.slice 5 (.int .u8)) .bool (.vr 9))])) (
   .ret (.mk2 (.slice 5 (.int .u8)) .bool (prA (.pair tI (.pair .bool (.slice 5 (.int .u8)))) 2 (.vr 5)) (pjA (.pair tI (.pair .bool (.slice 5 (.int .u8)))) 1 (.vr 5))))
set_option maxRecDepth 100000 in
theorem e_i_writer_rows:exFn Tryz.prog [c_i_showNumber,c_i_writer_put,c_i_ShowVec] c_i_writer_rows false 3000 ⟨[(2994,1005,drd 10 6 ++ [.dr 1,.tm 13 0,.bx 1 1,.sl 3])],[]⟩ = .ok t_i_writer_rows:=by kernel_rfl
theorem v_i_writer_rows (x:(IntsD × Bool) × RowsD) (hx:okD (.pair (.pair (.slice 5 (.int .u8)) .bool) tRows) x) (hp:(fun x=>x.1.1.length≤100000000000∧x.2.length≤10000000) x):t_i_writer_rows.wp [c_i_showNumber,c_i_writer_put,c_i_ShowVec] [⟨(.pair (.pair (.slice 5 (.int .u8)) .bool) tRows),x⟩] [] (fun v=>v.as (.pair (.slice 5 (.int .u8)) .bool) = (fun x=>putsW x.1 (rowsP x.2)) x):=by
 obtain ⟨w,l⟩:=x
 obtain ⟨h1,h2⟩:w.1.length≤100000000000∧l.length≤10000000:=hp
 delta t_i_writer_rows c_i_showNumber c_i_writer_put c_i_ShowVec;refine vcx ?_;try with_reducible exact True.intro
 have h3:=num_le l.length
 have h4:(putW w (numS l.length)).1.length≤w.1.length + 1608:=putsW_len w [numS l.length] (szP_cons h3 szP_nil)
 refine fun _=>⟨by omega,fun _=>⟨by omega,fun _ _=>?_⟩⟩
 refine ⟨fun s=>∃ k:Nat,k≤l.length∧s = ((k:Int),(putsW w ((rowsP l).take (k + 1))).2,(putsW w ((rowsP l).take (k + 1))).1),fun s=>l.length - (s.1:Int).toNat,⟨0,by omega,rfl⟩,fun s _ hI=>?_⟩
 obtain ⟨k,hk,rfl⟩:=hI
 dsimp only
 (refine dcx ?_;try with_reducible exact True.intro)
 constructor
 ·intro hlt
  have hk':k < l.length:=by omega
  rw [getD_at hk']
  have h5:=putsW_len w ((rowsP l).take (k + 1)) (fun p hp=>rowsP_sz l p (List.mem_of_mem_take hp))
  have h6:=vecS_size (l[k]'hk')
  rw [List.length_take] at h5
  have e:putW (putsW w ((rowsP l).take (k + 1))) (vecS (l[k]'hk')) = putsW w ((rowsP l).take (k + 2)):=by rw [← rowsP_next l hk',putsW_app];rfl
  (repeat' first | intro _ | (with_reducible apply And.intro))
  all_goals first | omega | skip
  exact ⟨k + 1,by omega,by rw [← e];rfl⟩
 ·intro hge
  have:k = l.length:=by omega
  subst this
  rw [rowsP_all]
theorem h_i_writer_rows:Con.Holds Tryz.prog c_i_writer_rows:=tree_ok mixedP (consAt h_i_showNumber (consAt h_i_writer_put (consAt h_i_ShowVec consNil))) e_i_writer_rows fun x hx hp=>v_i_writer_rows x hx hp
noncomputable def c_i_writer_text:Con:=⟨52,(.pair (.slice 5 (.int .u8)) .bool),(.pair .str (.pair (.slice 5 (.int .u8)) .bool)),[.box 90 ⟨true,(.pair (.slice 5 (.int .u8)) .bool),[2,0]⟩],[⟨false,.str,[0]⟩],false,none,
 ((fun _=>True):(IntsD × Bool)→Prop),
 ((fun x=>(if x.2 = true then ⟨#[]⟩ else ofBytesL x.1,x)):(IntsD × Bool)→((ByteArray) × (IntsD × Bool)))⟩
def t_i_writer_text:T :=
 .ite (prA (.pair (.slice 5 (.int .u8)) .bool) 1 (.vr 0)) (
  .ret (.mk2 .str (.pair (.slice 5 (.int .u8)) .bool) (.cs ⟨#[]⟩) (.vr 0))) (
  .prim (.b2s 5) (.p1 (.slice 5 (.int .u8)) .bool (.vr 0)) <|
  .ret (.mk2 .str (.pair (.slice 5 (.int .u8)) .bool) (.vr 1) (.vr 0)))
set_option maxRecDepth 100000 in
theorem e_i_writer_text:exFn Tryz.prog [] c_i_writer_text false 3000 ⟨[],[]⟩ = .ok t_i_writer_text:=by kernel_rfl
theorem v_i_writer_text (x:IntsD × Bool) (hx:okD (.pair (.slice 5 (.int .u8)) .bool) x) (hp:(fun _=>True) x):t_i_writer_text.wp [] [⟨(.pair (.slice 5 (.int .u8)) .bool),x⟩] [] (fun v=>v.as (.pair .str (.pair (.slice 5 (.int .u8)) .bool)) = (fun x=>(if x.2 = true then ⟨#[]⟩ else ofBytesL x.1,x)) x):=by
 delta t_i_writer_text;refine vcx ?_;try with_reducible exact True.intro
 refine ⟨fun h=>?_,fun h _=>?_⟩
 ·rw [if_pos h]
 ·rw [if_neg (by rw [h];decide)]
theorem h_i_writer_text:Con.Holds Tryz.prog c_i_writer_text:=tree_ok mixedP consNil e_i_writer_text fun x hx hp=>v_i_writer_text x hx hp
noncomputable def c_i_bit:Con:=⟨50,.bool,tI,[.val ⟨false,.bool,[]⟩],[⟨false,tI,[0]⟩],false,none,
 ((fun _=>True):(Bool)→Prop),
 ((fun x=>b01 x):(Bool)→(Int))⟩
def t_i_bit:T :=
 .ite (.vr 0) (
  .ret (.ci .i64 1)) (
  .ret (.ci .i64 0))
set_option maxRecDepth 100000 in
theorem e_i_bit:exFn Tryz.prog [] c_i_bit false 3000 ⟨[],[]⟩ = .ok t_i_bit:=by kernel_rfl
theorem v_i_bit (x:Bool) (hx:okD .bool x) (hp:(fun _=>True) x):t_i_bit.wp [] [⟨.bool,x⟩] [] (fun v=>v.as tI = (fun x=>b01 x) x):=by
 delta t_i_bit;refine vcx ?_;try with_reducible exact True.intro
 refine ⟨fun h=>?_,fun h=>?_⟩ <;> unfold b01 <;> rw [h] <;> rfl
theorem h_i_bit:Con.Holds Tryz.prog c_i_bit:=tree_ok mixedP consNil e_i_bit fun x hx hp=>v_i_bit x hx hp
noncomputable def c_s_l21Bool:Con:=⟨56,.bool,tI,[.val ⟨false,.bool,[]⟩],[⟨false,tI,[0]⟩],false,none,
 ((fun _=>True):(Bool)→Prop),
 ((fun x=>b01 x):(Bool)→(Int))⟩
def t_s_l21Bool:T :=
 .ite (.vr 0) (
  .ret (.ci .i64 1)) (
  .ret (.ci .i64 0))
set_option maxRecDepth 100000 in
theorem e_s_l21Bool:exFn Tryz.prog [] c_s_l21Bool false 3000 ⟨[],[]⟩ = .ok t_s_l21Bool:=by kernel_rfl
theorem v_s_l21Bool (x:Bool) (hx:okD .bool x) (hp:(fun _=>True) x):t_s_l21Bool.wp [] [⟨.bool,x⟩] [] (fun v=>v.as tI = (fun x=>b01 x) x):=by
 delta t_s_l21Bool;refine vcx ?_;try with_reducible exact True.intro
 refine ⟨fun h=>?_,fun h=>?_⟩ <;> unfold b01 <;> rw [h] <;> rfl
theorem h_s_l21Bool:Con.Holds Tryz.prog c_s_l21Bool:=tree_ok mixedP consNil e_s_l21Bool fun x hx hp=>v_s_l21Bool x hx hp
noncomputable def c_s_l21Rows:Con:=⟨57,tRows,.str,[.val ⟨false,tRows,[]⟩],[⟨false,.str,[0]⟩],false,none,
 ((fun x=>x.length≤10000000):(RowsD)→Prop),
 ((fun x=>cat ⟨#[]⟩ (rowsP x)):(RowsD)→(ByteArray))⟩
def t_s_l21Rows:T :=
 .prim (.llen 158 tInts) (.vr 0) <|
 .call 0 (.vr 1) <|
 .loop (.pair tI .str) (.mk2 tI .str (.ci .i64 0) (.vr 2)) <|
  .prim (.llen 158 tInts) (.vr 0) <|
  .prim (.cmp .lss .i64) (.mk2 tI tI (.p1 tI .str (.vr 3)) (.vr 4)) <|
  .ite (.vr 5) (
   .prim (.lidx 158 tInts) (.mk2 tRows tI (.vr 0) (.p1 tI .str (.vr 3))) <|
   .call 1 (.vr 6) <|
   .prim .sadd (.mk2 .str .str (prA (.pair tI .str) 1 (.vr 3)) (.vr 7)) <|
   .prim (.ar .add .i64) (.mk2 tI tI (.p1 tI .str (.vr 3)) (.ci .i64 1)) <|
   .again 0 (.mk2 tI .str (.vr 9) (.vr 8))) (
   .ret (prA (.pair tI .str) 1 (.vr 3)))
set_option maxRecDepth 100000 in
theorem e_s_l21Rows:exFn Tryz.prog [c_s_l21Int,c_s_ShowVec] c_s_l21Rows false 3000 ⟨[(2991,1003,drd 7 5 ++ [.tm 4 0,.tm 3 0])],[]⟩ = .ok t_s_l21Rows:=by kernel_rfl
theorem v_s_l21Rows (x:RowsD) (hx:okD tRows x) (hp:(fun x=>x.length≤10000000) x):t_s_l21Rows.wp [c_s_l21Int,c_s_ShowVec] [⟨tRows,x⟩] [] (fun v=>v.as .str = (fun x=>cat ⟨#[]⟩ (rowsP x)) x):=by
 have h2:List.length x≤10000000:=hp
 delta t_s_l21Rows c_s_l21Int c_s_ShowVec;refine vcx ?_;try with_reducible exact True.intro
 have h3:=num_le (List.length x)
 refine fun _=>⟨by omega,fun _=>?_⟩
 refine ⟨fun s=>∃ k:Nat,k≤x.length∧s = ((k:Int),cat ⟨#[]⟩ ((rowsP x).take (k + 1))),fun s=>x.length - (s.1:Int).toNat,⟨0,by omega,?_⟩,fun s _ hI=>?_⟩
 ·rw [rowsP_one,cat_one];exact Prod.ext rfl (by apply ByteArray.ext;simp [ByteArray.data_append])
 obtain ⟨k,hk,rfl⟩:=hI
 dsimp only
 (refine dcx ?_;try with_reducible exact True.intro)
 intro _
 constructor
 ·intro hlt
  have hk':k < x.length:=by omega
  rw [getD_at hk']
  have h5:=cat_size ⟨#[]⟩ ((rowsP x).take (k + 1)) (fun p hp=>rowsP_sz x p (List.mem_of_mem_take hp))
  have h6:=vecS_size (x[k]'hk')
  rw [List.length_take,show (⟨#[]⟩:ByteArray).size = 0 from rfl] at h5
  have e:cat ⟨#[]⟩ ((rowsP x).take (k + 1)) ++ vecS (x[k]'hk') = cat ⟨#[]⟩ ((rowsP x).take (k + 2)):=by rw [← rowsP_next x hk',cat_app];rfl
  (repeat' first | intro _ | (with_reducible apply And.intro))
  all_goals first | omega | (unfold maxLen;omega) | skip
  exact ⟨k + 1,by omega,by rw [← e];rfl⟩
 ·intro hge
  have:k = x.length:=by omega
  subst this
  rw [rowsP_all]
theorem h_s_l21Rows:Con.Holds Tryz.prog c_s_l21Rows:=tree_ok mixedP (consAt h_s_l21Int (consAt h_s_ShowVec consNil)) e_s_l21Rows fun x hx hp=>v_s_l21Rows x hx hp
noncomputable def c_s_l21Fits:Con:=⟨110,tRows,.bool,[.val ⟨false,tRows,[]⟩],[⟨false,.bool,[0]⟩],false,none,
 ((fun _=>True):(RowsD)→Prop),
 ((fun x=>x.all okV):(RowsD)→(Bool))⟩
def t_s_l21Fits:T :=
 .loop tI (.ci .i64 0) <|
  .prim (.llen 158 tInts) (.vr 0) <|
  .prim (.cmp .lss .i64) (.mk2 tI tI (.vr 1) (.vr 2)) <|
  .ite (.vr 3) (
   .prim (.lidx 158 tInts) (.mk2 tRows tI (.vr 0) (.vr 1)) <|
   .call 0 (.vr 4) <|
   .prim (.seq false) (.mk2 .str .str (.vr 5) (.cs ⟨#[]⟩)) <|
   .ite (.vr 6) (
    .ret (.cb false)) (
    .prim (.ar .add .i64) (.mk2 tI tI (.vr 1) (.ci .i64 1)) <|
    .again 0 (.vr 7))) (
   .ret (.cb true))
set_option maxRecDepth 100000 in
theorem e_s_l21Fits:exFn Tryz.prog [c_s_ShowVec] c_s_l21Fits false 3000 ⟨[(2993,1001,[.tm 3 0])],[]⟩ = .ok t_s_l21Fits:=by kernel_rfl
theorem v_s_l21Fits (x:RowsD) (hx:okD tRows x) (hp:(fun _=>True) x):t_s_l21Fits.wp [c_s_ShowVec] [⟨tRows,x⟩] [] (fun v=>v.as .bool = (fun x=>x.all okV) x):=by
 have h2:List.length x≤9223372036854775807:=hx.1
 delta t_s_l21Fits c_s_ShowVec;refine vcx ?_;try with_reducible exact True.intro
 refine ⟨fun s=>∃ k:Nat,k≤x.length∧s = (k:Int)∧(x.take k).all okV = true,fun s=>x.length - (s:Int).toNat,⟨0,by omega,rfl,rfl⟩,fun s _ hI=>?_⟩
 obtain ⟨k,hk,rfl,ha⟩:=hI
 (refine dcx ?_;try with_reducible exact True.intro)
 intro _
 constructor
 ·intro hlt
  have hk':k < x.length:=by omega
  rw [getD_at hk']
  have e:=all_next okV x hk'
  have e2:=isE_vec (x[k]'hk')
  unfold isE at e2
  (repeat' first | intro _ | (with_reducible apply And.intro))
  all_goals first | omega | skip
  ·refine (all_bad hk' ?_).symm;rw [decide_eq_true (Classical.not_not.1 (by assumption))] at e2;simpa using e2.symm
  ·refine ⟨k + 1,by omega,rfl,?_⟩;rw [decide_eq_false (by assumption)] at e2;rw [e,ha];simpa using e2.symm
 ·intro hge
  have:k = x.length:=by omega
  subst this
  rw [List.take_length] at ha
  exact ha.symm
theorem h_s_l21Fits:Con.Holds Tryz.prog c_s_l21Fits:=tree_ok mixedP (consAt h_s_ShowVec consNil) e_s_l21Fits fun x hx hp=>v_s_l21Fits x hx hp
theorem stageS_no {x:StageD} (h:¬ limS x):(⟨#[]⟩:ByteArray) = stageS x:=by unfold stageS;rw [if_neg (fun hh=>h hh.1)]
theorem stageS_ok {x:StageD} (h:limS x):stageS x = if (stageV x).all okV = true then cat ⟨#[]⟩ (stageP x) else ⟨#[]⟩:=by
 unfold stageS
 cases (stageV x).all okV
 ·rw [if_neg (fun hh=>by cases hh.2),if_neg (by decide)]
 ·rw [if_pos ⟨h,rfl⟩,if_pos rfl]
def vePc (v:List Int):List ByteArray:=[vecS v]
theorem vePc_sz (v:List Int):szP (vePc v):=szP_cons (vecS_size _) szP_nil
theorem out_text (W:WrD) {x:StageD} (h:limS x) (hW:W = putsW ([],false) (stageP x)):(if W.2 = true then (⟨#[]⟩:ByteArray) else ofBytesL W.1) = stageS x:=by
 rw [hW,stage_out h,stageS_ok h]
 dsimp only
 rw [ofB_bytes]
 cases (stageV x).all okV <;> rfl
noncomputable def c_i_ShowStage:Con:=⟨14,tStage,.str,[.val ⟨true,tStage,[]⟩],[⟨false,.str,[0]⟩],false,none,
 ((fun _=>True):(StageD)→Prop),
 ((fun x=>stageS x):(StageD)→(ByteArray))⟩
def t_i_ShowStage:T :=
 .call 0 (.vr 0) <|
 .prim .not (.vr 1) <|
 .ite (.vr 2) (
  .ret (.cs ⟨#[]⟩)) (
  .prim (.llen 94 tIns) (pjA tStage 1 (.vr 0)) <|
  .prim (.cmp .gtr .i64) (.mk2 tI tI (.vr 3) (.ci .i64 100)) <|
  .ite (.vr 4) (
   .ret (.cs ⟨#[]⟩)) (
   .prim (.llen 98 tSaved) (pjA tStage 5 (.vr 0)) <|
   .prim (.cmp .gtr .i64) (.mk2 tI tI (.vr 5) (.ci .i64 5)) <|
   .ite (.vr 6) (
    .ret (.cs ⟨#[]⟩)) (
    .prim (.llen 158 tInts) (pjA tStage 6 (.vr 0)) <|
    .prim (.cmp .gtr .i64) (.mk2 tI tI (.vr 7) (.ci .i64 20)) <|
    .ite (.vr 8) (
     .ret (.cs ⟨#[]⟩)) (
     .prim (.llen 94 tIns) (pjA tStage 1 (.vr 0)) <|
     .prim (.llen 96 tOp) (pjA tStage 2 (.vr 0)) <|
     .prim (.llen 98 tSaved) (pjA tStage 5 (.vr 0)) <|
     .call 1 (pjA tStage 3 (.vr 0)) <|
     .call 1 (pjA tStage 4 (.vr 0)) <|
     .call 1 (prA tStage 13 (.vr 0)) <|
     .prim (.lit 3 tI 8) (mkA (.pair tI (.pair tI (.pair tI (.pair tI (.pair tI (.pair tI tIns)))))) [(.p1 tI (.pair tPlan (.pair tModel (.pair .bool (.pair .bool (.pair (.slice 98 tSaved) (.pair tRows (.pair tInts (.pair tInts (.pair tInts (.pair tInts tGrads)))))))))) (.vr 0)),(.vr 12),(.vr 13),(pjA tStage 12 (.vr 0)),(.vr 14),(.vr 9),(.vr 10),(.vr 11)]) <|
     .call 2 (.vr 15) <|
     .call 3 (.mk2 (.pair (.slice 5 (.int .u8)) .bool) .str (.mk2 (.slice 5 (.int .u8)) .bool (.nl 5 (.int .u8)) (.cb false)) (.vr 16)) <|
     .prim (.llen 94 tIns) (pjA tStage 1 (.vr 0)) <|
     .loop (.pair tI (.pair .bool (.slice 5 (.int .u8)))) (mkA (.pair tI (.pair .bool (.slice 5 (.int .u8)))) [(.ci .i64 0),(prA (.pair (.slice 5 (.int .u8)) .bool) 1 (.vr 17)),(.p1 (.slice 5 (.int .u8)) .bool (.vr 17))]) <|
      .prim (.cmp .lss .i64) (.mk2 tI tI (.p1 tI (.pair .bool (.slice 5 (.int .u8))) (.vr 19)) (.vr 18)) <|
      .ite (.vr 20) (
       .prim (.lidx 94 tIns) (.mk2 tPlan tI (pjA tStage 1 (.vr 0)) (.p1 tI (.pair .bool (.slice 5 (.int .u8))) (.vr 19))) <|
       .prim (.lit 3 tI 2) (.vr 21) <|
       .call 2 (.vr 22) <|
       .call 3 (.mk2 (.pair (.slice 5 (.int .u8)) .bool) .str (.mk2 (.slice 5 (.int .u8)) .bool (prA (.pair tI (.pair .bool (.slice 5 (.int .u8)))) 2 (.vr 19)) (pjA (.pair tI (.pair .bool (.slice 5 (.int .u8)))) 1 (.vr 19))) (.vr 23)) <|
       .prim (.ar .add .i64) (.mk2 tI tI (.p1 tI (.pair .bool (.slice 5 (.int .u8))) (.vr 19)) (.ci .i64 1)) <|
       .again 0 (mkA (.pair tI (.pair .bool (.slice 5 (.int .u8)))) [(.vr 25),(prA (.pair (.slice 5 (.int .u8)) .bool) 1 (.vr 24)),(.p1 (.slice 5 (.int .u8)) .bool (.vr 24))])) (
       .prim (.llen 96 tOp) (pjA tStage 2 (.vr 0)) <|
       .loop (.pair tI (.pair .bool (.slice 5 (.int .u8)))) (.mk2 tI (.pair .bool (.slice 5 (.int .u8))) (.ci .i64 0) (prA (.pair tI (.pair .bool (.slice 5 (.int .u8)))) 1 (.vr 19))) <|
        .prim (.cmp .lss .i64) (.mk2 tI tI (.p1 tI (.pair .bool (.slice 5 (.int .u8))) (.vr 22)) (.vr 21)) <|
        .ite (.vr 23) (
         .prim (.lidx 96 tOp) (.mk2 tModel tI (pjA tStage 2 (.vr 0)) (.p1 tI (.pair .bool (.slice 5 (.int .u8))) (.vr 22))) <|
         .prim (.lit 3 tI 3) (mkA (.pair tI tIns) [(.p1 tI (.pair tI tItem) (.vr 24)),(pjA tOp 1 (.vr 24)),(pjA tOp 2 (.vr 24))]) <|
         .call 2 (.vr 25) <|
         .call 3 (.mk2 (.pair (.slice 5 (.int .u8)) .bool) .str (.mk2 (.slice 5 (.int .u8)) .bool (prA (.pair tI (.pair .bool (.slice 5 (.int .u8)))) 2 (.vr 22)) (pjA (.pair tI (.pair .bool (.slice 5 (.int .u8)))) 1 (.vr 22))) (.vr 26)) <|
         .call 2 (prA tOp 3 (.vr 24)) <|
         .call 3 (.mk2 (.pair (.slice 5 (.int .u8)) .bool) .str (.vr 27) (.vr 28)) <|
         .prim (.ar .add .i64) (.mk2 tI tI (.p1 tI (.pair .bool (.slice 5 (.int .u8))) (.vr 22)) (.ci .i64 1)) <|
         .again 0 (mkA (.pair tI (.pair .bool (.slice 5 (.int .u8)))) [(.vr 30),(prA (.pair (.slice 5 (.int .u8)) .bool) 1 (.vr 29)),(.p1 (.slice 5 (.int .u8)) .bool (.vr 29))])) (
         .prim (.llen 98 tSaved) (pjA tStage 5 (.vr 0)) <|
         .loop (.pair tI (.pair .bool (.slice 5 (.int .u8)))) (.mk2 tI (.pair .bool (.slice 5 (.int .u8))) (.ci .i64 0) (prA (.pair tI (.pair .bool (.slice 5 (.int .u8)))) 1 (.vr 22))) <|
          .prim (.cmp .lss .i64) (.mk2 tI tI (.p1 tI (.pair .bool (.slice 5 (.int .u8))) (.vr 25)) (.vr 24)) <|
          .ite (.vr 26) (
           .prim (.lidx 98 tSaved) (.mk2 (.slice 98 tSaved) tI (pjA tStage 5 (.vr 0)) (.p1 tI (.pair .bool (.slice 5 (.int .u8))) (.vr 25))) <|
           .prim (.lit 3 tI 1) (.p1 tI tRows (.vr 27)) <|
           .call 2 (.vr 28) <|
           .call 3 (.mk2 (.pair (.slice 5 (.int .u8)) .bool) .str (.mk2 (.slice 5 (.int .u8)) .bool (prA (.pair tI (.pair .bool (.slice 5 (.int .u8)))) 2 (.vr 25)) (pjA (.pair tI (.pair .bool (.slice 5 (.int .u8)))) 1 (.vr 25))) (.vr 29)) <|
           .call 4 (.mk2 (.pair (.slice 5 (.int .u8)) .bool) tRows (.vr 30) (prA tSaved 1 (.vr 27))) <|
           .prim (.ar .add .i64) (.mk2 tI tI (.p1 tI (.pair .bool (.slice 5 (.int .u8))) (.vr 25)) (.ci .i64 1)) <|
           .again 0 (mkA (.pair tI (.pair .bool (.slice 5 (.int .u8)))) [(.vr 32),(prA (.pair (.slice 5 (.int .u8)) .bool) 1 (.vr 31)),(.p1 (.slice 5 (.int .u8)) .bool (.vr 31))])) (
           .call 4 (.mk2 (.pair (.slice 5 (.int .u8)) .bool) tRows (.mk2 (.slice 5 (.int .u8)) .bool (prA (.pair tI (.pair .bool (.slice 5 (.int .u8)))) 2 (.vr 25)) (pjA (.pair tI (.pair .bool (.slice 5 (.int .u8)))) 1 (.vr 25))) (pjA tStage 6 (.vr 0))) <|
           .prim (.lit 24 tInts 4) (mkA (.pair tInts (.pair tInts tPair)) [(pjA tStage 7 (.vr 0)),(pjA tStage 8 (.vr 0)),(pjA tStage 9 (.vr 0)),(pjA tStage 10 (.vr 0))]) <|
           .prim (.llen 24 tInts) (.vr 28) <|
           .loop (.pair tI (.pair .bool (.slice 5 (.int .u8)))) (mkA (.pair tI (.pair .bool (.slice 5 (.int .u8)))) [(.ci .i64 0),(prA (.pair (.slice 5 (.int .u8)) .bool) 1 (.vr 27)),(.p1 (.slice 5 (.int .u8)) .bool (.vr 27))]) <|
            .prim (.cmp .lss .i64) (.mk2 tI tI (.p1 tI (.pair .bool (.slice 5 (.int .u8))) (.vr 30)) (.vr 29)) <|
            .ite (.vr 31) (
             .prim (.lidx 24 tInts) (.mk2 (.slice 24 tInts) tI (.vr 28) (.p1 tI (.pair .bool (.slice 5 (.int .u8))) (.vr 30))) <|
             .prim (.lidx 24 tInts) (.mk2 (.slice 24 tInts) tI (.vr 28) (.p1 tI (.pair .bool (.slice 5 (.int .u8))) (.vr 30))) <|
             .call 2 (.vr 33) <|
             .call 3 (.mk2 (.pair (.slice 5 (.int .u8)) .bool) .str (.mk2 (.slice 5 (.int .u8)) .bool (prA (.pair tI (.pair .bool (.slice 5 (.int .u8)))) 2 (.vr 30)) (pjA (.pair tI (.pair .bool (.slice 5 (.int .u8)))) 1 (.vr 30))) (.vr 34)) <|
             .prim (.ar .add .i64) (.mk2 tI tI (.p1 tI (.pair .bool (.slice 5 (.int .u8))) (.vr 30)) (.ci .i64 1)) <|
             .again 0 (mkA (.pair tI (.pair .bool (.slice 5 (.int .u8)))) [(.vr 36),(prA (.pair (.slice 5 (.int .u8)) .bool) 1 (.vr 35)),(.p1 (.slice 5 (.int .u8)) .bool (.vr 35))])) (
             .call 4 (.mk2 (.pair (.slice 5 (.int .u8)) .bool) tRows (.mk2 (.slice 5 (.int .u8)) .bool (prA (.pair tI (.pair .bool (.slice 5 (.int .u8)))) 2 (.vr 30)) (pjA (.pair tI (.pair .bool (.slice 5 (.int .u8)))) 1 (.vr 30))) (pjA tStage 11 (.vr 0))) <|
             .call 5 (.vr 32) <|
             .ret (.p1 .str (.pair (.slice 5 (.int .u8)) .bool) (.vr 33))))))))))
set_option maxRecDepth 100000 in
theorem e_i_ShowStage:exFn Tryz.prog [c_i_StageOk,c_i_bit,c_i_ShowVec,c_i_writer_put,c_i_writer_rows,c_i_writer_text] c_i_ShowStage false 3000 ⟨[(2984,16019,drd 63 60 ++ [.dr 50,.dr 43,.dr 40,.dr 59,.dr 58,.dr 56,.dr 55,.dr 53,.dr 52,.dr 49,.dr 46,.dr 42,.dr 39,.dr 37,.dr 57,.dr 54,.dr 51,.dr 48,.dr 47,.dr 45,.dr 44,.dr 41,.dr 38] ++ drd 36 12 ++ [.dr 0,.tm 66 0,.bx 2 1,.sl 5]),(2974,32022,[.dr 79] ++ drd 67 64 ++ [.tm 82 0,.bx 2 1,.sl 5]),(2964,64025,[.dr 102] ++ drd 83 80 ++ [.tm 105 0,.bx 2 1,.sl 5]),(2952,128030,drd 131 120 ++ drd 106 103 ++ [.tm 134 0,.bx 2 1,.sl 6])],[]⟩ = .ok t_i_ShowStage:=by kernel_rfl
theorem v_i_ShowStage (x:StageD) (hx:okD tStage x) (hp:(fun _=>True) x):t_i_ShowStage.wp [c_i_StageOk,c_i_bit,c_i_ShowVec,c_i_writer_put,c_i_writer_rows,c_i_writer_text] [⟨tStage,x⟩] [] (fun v=>v.as .str = (fun x=>stageS x) x):=by
 delta t_i_ShowStage c_i_StageOk c_i_bit c_i_ShowVec c_i_writer_put c_i_writer_rows c_i_writer_text;refine vcx ?_;try with_reducible exact True.intro
 (refine dcx ?_;try with_reducible exact True.intro)
 refine ⟨fun h=>stageS_no fun hl=>(by have:=hl.1;rw [h] at this;cases this),fun h1 _=>⟨fun h=>stageS_no fun hl=>by have:=hl.2.1;omega,fun h2 _=>⟨fun h=>stageS_no fun hl=>by have:=hl.2.2.1;omega,fun h3 _=>⟨fun h=>stageS_no fun hl=>by have:=hl.2.2.2;omega,fun h4=>?_⟩⟩⟩⟩
 have hl:limS x:=⟨h1,by omega,by omega,by omega⟩
 have hm:=(modelB_iff _).1 ((stageB_iff x).1 h1).1
 have hg:=((fitB_iff _ _).1 ((stageB_iff x).1 h1).2.2.1).1
 have hkp:=kept_le h1
 have hv:=vecS_size (headV x)
 obtain ⟨W1,hW1⟩:∃ W1,W1 = putW ([],false) (vecS (headV x)):=⟨_,rfl⟩
 have z1:W1.1.length≤1608:=by rw [hW1];exact putsW_len ([],false) [vecS (headV x)] (szP_cons hv szP_nil)
 (repeat' first | intro _ | (with_reducible apply And.intro))
 all_goals first | omega | (exact Nat.le_trans (vecS_size _) (by decide)) | skip
 refine ⟨fun s=>∃ k:Nat,k≤x.2.1.length∧s = ((k:Int),(putsW W1 ((x.2.1.take k).flatMap insP)).2,(putsW W1 ((x.2.1.take k).flatMap insP)).1),fun s=>x.2.1.length - (s.1:Int).toNat,⟨0,by omega,by rw [hW1];rfl⟩,fun s _ hI=>?_⟩
 obtain ⟨k,hk,rfl⟩:=hI
 have y1:=putsW_len W1 ((x.2.1.take k).flatMap insP) (szP_fm _ insP_sz)
 have y2:=fm_len insP 1 (x.2.1.take k) (fun _ _=>Nat.le_refl _)
 rw [List.length_take] at y2
 dsimp only
 (refine dcx ?_;try with_reducible exact True.intro)
 constructor
 ·intro hlt
  have hk':k < x.2.1.length:=by omega
  rw [getD_at hk']
  have e:putW (putsW W1 ((x.2.1.take k).flatMap insP)) (vecS [(x.2.1[k]'hk').1,(x.2.1[k]'hk').2]) = putsW W1 ((x.2.1.take (k + 1)).flatMap insP):=by rw [fm_next insP x.2.1 hk',putsW_app];rfl
  (repeat' first | intro _ | (with_reducible apply And.intro))
  all_goals first | omega | (exact Nat.le_trans (vecS_size _) (by decide)) | (exact Nat.le_trans e1 (by omega)) | skip
  exact ⟨k + 1,by omega,by rw [← e];rfl⟩
 intro hge
 obtain rfl:k = x.2.1.length:=by omega
 rw [List.take_length] at y1 y2 ⊢
 obtain ⟨W2,hW2⟩:∃ W2,W2 = putsW W1 (x.2.1.flatMap insP):=⟨_,rfl⟩
 rw [← hW2] at y1 ⊢
 intro _
 refine ⟨fun s=>∃ k:Nat,k≤x.2.2.1.length∧s = ((k:Int),(putsW W2 ((x.2.2.1.take k).flatMap opP)).2,(putsW W2 ((x.2.2.1.take k).flatMap opP)).1),fun s=>x.2.2.1.length - (s.1:Int).toNat,⟨0,by omega,rfl⟩,fun s _ hI=>?_⟩
 obtain ⟨k,hk,rfl⟩:=hI
 have y3:=putsW_len W2 ((x.2.2.1.take k).flatMap opP) (szP_fm _ opP_sz)
 have y4:=fm_len opP 2 (x.2.2.1.take k) (fun _ _=>Nat.le_refl _)
 rw [List.length_take] at y4
 dsimp only
 (refine dcx ?_;try with_reducible exact True.intro)
 constructor
 ·intro hlt
  have hk':k < x.2.2.1.length:=by omega
  rw [getD_at hk']
  have e:putW (putW (putsW W2 ((x.2.2.1.take k).flatMap opP)) (vecS [(x.2.2.1[k]'hk').1,(x.2.2.1[k]'hk').2.1,(x.2.2.1[k]'hk').2.2.1])) (vecS (x.2.2.1[k]'hk').2.2.2) = putsW W2 ((x.2.2.1.take (k + 1)).flatMap opP):=by rw [fm_next opP x.2.2.1 hk',putsW_app];rfl
  have e1:(putW (putsW W2 ((x.2.2.1.take k).flatMap opP)) (vecS [(x.2.2.1[k]'hk').1,(x.2.2.1[k]'hk').2.1,(x.2.2.1[k]'hk').2.2.1])).1.length≤(putsW W2 ((x.2.2.1.take k).flatMap opP)).1.length + 1608:=putsW_len _ [_] (szP_cons (vecS_size _) szP_nil)
  (repeat' first | intro _ | (with_reducible apply And.intro))
  all_goals first | omega | (exact Nat.le_trans (vecS_size _) (by decide)) | (exact Nat.le_trans e1 (by omega)) | skip
  exact ⟨k + 1,by omega,by rw [← e];rfl⟩
 intro hge
 obtain rfl:k = x.2.2.1.length:=by omega
 rw [List.take_length] at y3 y4 ⊢
 obtain ⟨W3,hW3⟩:∃ W3,W3 = putsW W2 (x.2.2.1.flatMap opP):=⟨_,rfl⟩
 rw [← hW3] at y3 ⊢
 intro _
 refine ⟨fun s=>∃ k:Nat,k≤x.2.2.2.2.2.1.length∧s = ((k:Int),(putsW W3 ((x.2.2.2.2.2.1.take k).flatMap savP)).2,(putsW W3 ((x.2.2.2.2.2.1.take k).flatMap savP)).1),fun s=>x.2.2.2.2.2.1.length - (s.1:Int).toNat,⟨0,by omega,rfl⟩,fun s _ hI=>?_⟩
 obtain ⟨k,hk,rfl⟩:=hI
 have y5:=putsW_len W3 ((x.2.2.2.2.2.1.take k).flatMap savP) (szP_fm _ savP_sz)
 have y6:=fm_len savP 11 (x.2.2.2.2.2.1.take k) (fun a ha=>by have:=hkp a (List.mem_of_mem_take ha);unfold savP;rw [List.length_cons,rowsP_len];omega)
 rw [List.length_take] at y6
 dsimp only
 (refine dcx ?_;try with_reducible exact True.intro)
 constructor
 ·intro hlt
  have hk':k < x.2.2.2.2.2.1.length:=by omega
  rw [getD_at hk']
  have hkk:=hkp _ (List.getElem_mem hk')
  have e:putsW (putW (putsW W3 ((x.2.2.2.2.2.1.take k).flatMap savP)) (vecS [(x.2.2.2.2.2.1[k]'hk').1])) (rowsP (x.2.2.2.2.2.1[k]'hk').2) = putsW W3 ((x.2.2.2.2.2.1.take (k + 1)).flatMap savP):=by rw [fm_next savP x.2.2.2.2.2.1 hk',putsW_app];rfl
  have e1:(putW (putsW W3 ((x.2.2.2.2.2.1.take k).flatMap savP)) (vecS [(x.2.2.2.2.2.1[k]'hk').1])).1.length≤(putsW W3 ((x.2.2.2.2.2.1.take k).flatMap savP)).1.length + 1608:=putsW_len _ [_] (szP_cons (vecS_size _) szP_nil)
  (repeat' first | intro _ | (with_reducible apply And.intro))
  all_goals first | omega | (exact Nat.le_trans (vecS_size _) (by decide)) | (exact Nat.le_trans e1 (by omega)) | skip
  exact ⟨k + 1,by omega,by rw [← e];rfl⟩
 intro hge
 obtain rfl:k = x.2.2.2.2.2.1.length:=by omega
 rw [List.take_length] at y5 y6 ⊢
 obtain ⟨W4,hW4⟩:∃ W4,W4 = putsW W3 (x.2.2.2.2.2.1.flatMap savP):=⟨_,rfl⟩
 rw [← hW4] at y5 ⊢
 obtain ⟨W5,hW5⟩:∃ W5,W5 = putsW W4 (rowsP x.2.2.2.2.2.2.1):=⟨_,rfl⟩
 have y7:=putsW_len W4 _ (rowsP_sz x.2.2.2.2.2.2.1)
 rw [rowsP_len,← hW5] at y7
 refine ⟨⟨by omega,by omega⟩,?_⟩
 rw [← hW5]
 intro _ _ _
 obtain ⟨L,hL⟩:∃ L:RowsD,L = [x.2.2.2.2.2.2.2.1,x.2.2.2.2.2.2.2.2.1,x.2.2.2.2.2.2.2.2.2.1,x.2.2.2.2.2.2.2.2.2.2.1]:=⟨_,rfl⟩
 rw [← hL]
 have hL4:L.length = 4:=by rw [hL];rfl
 refine ⟨fun s=>∃ k:Nat,k≤L.length∧s = ((k:Int),(putsW W5 ((L.take k).flatMap vePc)).2,(putsW W5 ((L.take k).flatMap vePc)).1),fun s=>L.length - (s.1:Int).toNat,⟨0,by omega,rfl⟩,fun s _ hI=>?_⟩
 obtain ⟨k,hk,rfl⟩:=hI
 have y8:=putsW_len W5 ((L.take k).flatMap vePc) (szP_fm _ vePc_sz)
 have y9:=fm_len vePc 1 (L.take k) (fun _ _=>Nat.le_refl _)
 rw [List.length_take] at y9
 dsimp only
 (refine dcx ?_;try with_reducible exact True.intro)
 constructor
 ·intro hlt
  have hk':k < L.length:=by omega
  rw [getD_at hk']
  have e:putW (putsW W5 ((L.take k).flatMap vePc)) (vecS (L[k]'hk')) = putsW W5 ((L.take (k + 1)).flatMap vePc):=by rw [fm_next vePc L hk',putsW_app];rfl
  (repeat' first | intro _ | (with_reducible apply And.intro))
  all_goals first | omega | (exact Nat.le_trans (vecS_size _) (by decide)) | (exact Nat.le_trans e1 (by omega)) | skip
  exact ⟨k + 1,by omega,by rw [← e];rfl⟩
 intro hge
 obtain rfl:k = L.length:=by omega
 rw [List.take_length] at y8 y9 ⊢
 refine ⟨⟨by omega,by omega⟩,fun _=>fun _=>?_⟩
 refine out_text _ hl ?_
 unfold stageP stageT
 simp only [putsW_app]
 show _ = putsW (putsW (putsW (putsW (putsW (putsW (putW ([],false) (vecS (headV x))) _) _) _) _) _) _
 rw [← hW1,← hW2,← hW3,← hW4,← hW5,hL]
 rfl
theorem h_i_ShowStage:Con.Holds Tryz.prog c_i_ShowStage:=tree_ok mixedP (consAt h_i_StageOk (consAt h_i_bit (consAt h_i_ShowVec (consAt h_i_writer_put (consAt h_i_writer_rows (consAt h_i_writer_text consNil)))))) e_i_ShowStage fun x hx hp=>v_i_ShowStage x hx hp
noncomputable def c_s_l21StageFits:Con:=⟨55,tStage,.bool,[.val ⟨true,tStage,[]⟩],[⟨false,.bool,[0]⟩],false,none,
 ((fun x=>limS x):(StageD)→Prop),
 ((fun x=>(stageV x).all okV):(StageD)→(Bool))⟩
def t_s_l21StageFits:T :=
 .prim (.lit 3 tI 2) (.mk2 tI tI (.p1 tI (.pair tPlan (.pair tModel (.pair .bool (.pair .bool (.pair (.slice 98 tSaved) (.pair tRows (.pair tInts (.pair tInts (.pair tInts (.pair tInts tGrads)))))))))) (.vr 0)) (pjA tStage 12 (.vr 0))) <|
 .prim (.lit 158 tInts 5) (mkA (.pair tInts (.pair tInts (.pair tInts tPair))) [(.vr 1),(pjA tStage 7 (.vr 0)),(pjA tStage 8 (.vr 0)),(pjA tStage 9 (.vr 0)),(pjA tStage 10 (.vr 0))]) <|
 .loop tSaved (.mk2 tI tRows (.ci .i64 0) (.vr 2)) <|
  .prim (.llen 94 tIns) (pjA tStage 1 (.vr 0)) <|
  .prim (.cmp .lss .i64) (.mk2 tI tI (.p1 tI tRows (.vr 3)) (.vr 4)) <|
  .ite (.vr 5) (
   .prim (.lidx 94 tIns) (.mk2 tPlan tI (pjA tStage 1 (.vr 0)) (.p1 tI tRows (.vr 3))) <|
   .prim (.lidx 94 tIns) (.mk2 tPlan tI (pjA tStage 1 (.vr 0)) (.p1 tI tRows (.vr 3))) <|
   .prim (.lit 3 tI 2) (.mk2 tI tI (.p1 tI tI (.vr 6)) (prA tIns 1 (.vr 7))) <|
   .prim (.lit 158 tInts 1) (.vr 8) <|
   .prim (.lapp 158 tInts 24) (.mk2 tRows tRows (prA tSaved 1 (.vr 3)) (.vr 9)) <|
   .prim (.ar .add .i64) (.mk2 tI tI (.p1 tI tRows (.vr 3)) (.ci .i64 1)) <|
   .again 0 (.mk2 tI tRows (.vr 11) (.vr 10))) (
   .loop tSaved (.mk2 tI tRows (.ci .i64 0) (prA tSaved 1 (.vr 3))) <|
    .prim (.llen 96 tOp) (pjA tStage 2 (.vr 0)) <|
    .prim (.cmp .lss .i64) (.mk2 tI tI (.p1 tI tRows (.vr 6)) (.vr 7)) <|
    .ite (.vr 8) (
     .prim (.lidx 96 tOp) (.mk2 tModel tI (pjA tStage 2 (.vr 0)) (.p1 tI tRows (.vr 6))) <|
     .prim (.lit 158 tInts 1) (prA tOp 3 (.vr 9)) <|
     .prim (.lapp 158 tInts 24) (.mk2 tRows tRows (prA tSaved 1 (.vr 6)) (.vr 10)) <|
     .prim (.ar .add .i64) (.mk2 tI tI (.p1 tI tRows (.vr 6)) (.ci .i64 1)) <|
     .again 0 (.mk2 tI tRows (.vr 12) (.vr 11))) (
     .loop tSaved (.mk2 tI tRows (.ci .i64 0) (prA tSaved 1 (.vr 6))) <|
      .prim (.llen 98 tSaved) (pjA tStage 5 (.vr 0)) <|
      .prim (.cmp .lss .i64) (.mk2 tI tI (.p1 tI tRows (.vr 9)) (.vr 10)) <|
      .ite (.vr 11) (
       .prim (.lidx 98 tSaved) (.mk2 (.slice 98 tSaved) tI (pjA tStage 5 (.vr 0)) (.p1 tI tRows (.vr 9))) <|
       .prim (.lit 3 tI 1) (.p1 tI tRows (.vr 12)) <|
       .prim (.lit 158 tInts 1) (.vr 13) <|
       .prim (.lapp 158 tInts 24) (.mk2 tRows tRows (prA tSaved 1 (.vr 9)) (.vr 14)) <|
       .prim (.lidx 98 tSaved) (.mk2 (.slice 98 tSaved) tI (pjA tStage 5 (.vr 0)) (.p1 tI tRows (.vr 9))) <|
       .prim (.lapp 158 tInts 24) (.mk2 tRows tRows (.vr 15) (prA tSaved 1 (.vr 16))) <|
       .prim (.ar .add .i64) (.mk2 tI tI (.p1 tI tRows (.vr 9)) (.ci .i64 1)) <|
       .again 0 (.mk2 tI tRows (.vr 18) (.vr 17))) (
       .prim (.lapp 158 tInts 24) (.mk2 tRows tRows (prA tSaved 1 (.vr 9)) (pjA tStage 6 (.vr 0))) <|
       .prim (.lapp 158 tInts 24) (.mk2 tRows tRows (.vr 12) (pjA tStage 11 (.vr 0))) <|
       .call 0 (.vr 13) <|
       .ret (.vr 14))))
set_option maxRecDepth 100000 in
theorem e_s_l21StageFits:exFn Tryz.prog [c_s_l21Fits] c_s_l21StageFits false 3000 ⟨[(2991,1003,drd 26 7 ++ [.dr 0,.tm 4 0,.sl 3]),(2981,2006,drd 31 27 ++ [.dr 4,.tm 5 0,.sl 3]),(2971,4009,drd 55 51 ++ [.dr 5,.tm 6 0,.sl 3])],[(2996,1001,[12],[]),(2983,3006,[47],[]),(2962,12012,[82],[])]⟩ = .ok t_s_l21StageFits:=by kernel_rfl
theorem v_s_l21StageFits (x:StageD) (hx:okD tStage x) (hp:(fun x=>limS x) x):t_s_l21StageFits.wp [c_s_l21Fits] [⟨tStage,x⟩] [] (fun v=>v.as .bool = (fun x=>(stageV x).all okV) x):=by
 have hl:limS x:=hp
 have hm:=(modelB_iff _).1 ((stageB_iff x).1 hl.1).1
 have hg:=((fitB_iff _ _).1 ((stageB_iff x).1 hl.1).2.2.1).1
 have hkp:=kept_le hl.1
 obtain ⟨hl0,hl1,hl2,hl3⟩:=hl
 delta t_s_l21StageFits c_s_l21Fits;refine vcx ?_;try with_reducible exact True.intro
 intro _ _
 obtain ⟨A,hA⟩:∃ A:RowsD,A = [[x.1,x.2.2.2.2.2.2.2.2.2.2.2.2.1],x.2.2.2.2.2.2.2.1,x.2.2.2.2.2.2.2.2.1,x.2.2.2.2.2.2.2.2.2.1,x.2.2.2.2.2.2.2.2.2.2.1]:=⟨_,rfl⟩
 have hA5:A.length = 5:=by rw [hA];rfl
 rw [← hA]
 refine ⟨fun s=>∃ k:Nat,k≤x.2.1.length∧s = ((k:Int),A ++ (x.2.1.take k).flatMap (fun i=>[[i.1,i.2]])),fun s=>x.2.1.length - (s.1:Int).toNat,⟨0,by omega,by simp⟩,fun s _ hI=>?_⟩
 obtain ⟨k,hk,rfl⟩:=hI
 have y2:=fm_len (fun i:InsD=>[[i.1,i.2]]) 1 (x.2.1.take k) (fun _ _=>Nat.le_refl _)
 rw [List.length_take] at y2
 dsimp only
 (refine dcx ?_;try with_reducible exact True.intro)
 intro _
 constructor
 ·intro hlt
  have hk':k < x.2.1.length:=by omega
  rw [getD_at hk']
  have e:=fm_next (fun i:InsD=>[[i.1,i.2]]) x.2.1 hk'
  (repeat' first | intro _ | (with_reducible apply And.intro))
  all_goals first | omega | (unfold maxLen;omega) | skip
  exact ⟨k + 1,by omega,by rw [e,← List.append_assoc];rfl⟩
 intro hge
 obtain rfl:k = x.2.1.length:=by omega
 rw [List.take_length] at y2 ⊢
 obtain ⟨B,hB⟩:∃ B,B = A ++ x.2.1.flatMap (fun i=>[[i.1,i.2]]):=⟨_,rfl⟩
 have zB:B.length≤105:=by rw [hB,List.length_append];omega
 rw [← hB]
 refine ⟨fun s=>∃ k:Nat,k≤x.2.2.1.length∧s = ((k:Int),B ++ (x.2.2.1.take k).flatMap (fun o=>[o.2.2.2])),fun s=>x.2.2.1.length - (s.1:Int).toNat,⟨0,by omega,by simp⟩,fun s _ hI=>?_⟩
 obtain ⟨k,hk,rfl⟩:=hI
 have y3:=fm_len (fun o:OpD=>[o.2.2.2]) 1 (x.2.2.1.take k) (fun _ _=>Nat.le_refl _)
 rw [List.length_take] at y3
 dsimp only
 (refine dcx ?_;try with_reducible exact True.intro)
 intro _
 constructor
 ·intro hlt
  have hk':k < x.2.2.1.length:=by omega
  rw [getD_at hk']
  have e:=fm_next (fun o:OpD=>[o.2.2.2]) x.2.2.1 hk'
  (repeat' first | intro _ | (with_reducible apply And.intro))
  all_goals first | omega | (unfold maxLen;omega) | skip
  exact ⟨k + 1,by omega,by rw [e,← List.append_assoc];rfl⟩
 intro hge
 obtain rfl:k = x.2.2.1.length:=by omega
 rw [List.take_length] at y3 ⊢
 obtain ⟨C,hC⟩:∃ C,C = B ++ x.2.2.1.flatMap (fun o=>[o.2.2.2]):=⟨_,rfl⟩
 have zC:C.length≤113:=by rw [hC,List.length_append];omega
 rw [← hC]
 refine ⟨fun s=>∃ k:Nat,k≤x.2.2.2.2.2.1.length∧s = ((k:Int),C ++ (x.2.2.2.2.2.1.take k).flatMap (fun x=>[x.1] :: x.2)),fun s=>x.2.2.2.2.2.1.length - (s.1:Int).toNat,⟨0,by omega,by simp⟩,fun s _ hI=>?_⟩
 obtain ⟨k,hk,rfl⟩:=hI
 have y4:=fm_len (fun x:SavedD=>[x.1] :: x.2) 10 (x.2.2.2.2.2.1.take k) (fun a ha=>by have:=hkp a (List.mem_of_mem_take ha);rw [List.length_cons];omega)
 rw [List.length_take] at y4
 dsimp only
 (refine dcx ?_;try with_reducible exact True.intro)
 intro _
 constructor
 ·intro hlt
  have hk':k < x.2.2.2.2.2.1.length:=by omega
  rw [getD_at hk']
  have hkk:=hkp _ (List.getElem_mem hk')
  have e:=fm_next (fun x:SavedD=>[x.1] :: x.2) x.2.2.2.2.2.1 hk'
  (repeat' first | intro _ | (with_reducible apply And.intro))
  all_goals first | omega | (unfold maxLen;omega) | skip
  exact ⟨k + 1,by omega,Prod.ext (by show (k:Int) + 1 = ((k + 1:Nat):Int);omega) (by rw [e];simp [List.append_assoc])⟩
 intro hge
 obtain rfl:k = x.2.2.2.2.2.1.length:=by omega
 rw [List.take_length] at y4 ⊢
 obtain ⟨D,hD⟩:∃ D,D = C ++ x.2.2.2.2.2.1.flatMap (fun x=>[x.1] :: x.2):=⟨_,rfl⟩
 have zD:D.length≤163:=by rw [hD,List.length_append];omega
 rw [← hD]
 have fin:(D ++ x.2.2.2.2.2.2.1) ++ x.2.2.2.2.2.2.2.2.2.2.2.1 = stageV x:=by rw [hD,hC,hB,hA];unfold stageV;simp only [List.append_assoc]
 (repeat' first | intro _ | (with_reducible apply And.intro))
 all_goals first | omega | (unfold maxLen;omega) | skip
 rw [← fin]
theorem h_s_l21StageFits:Con.Holds Tryz.prog c_s_l21StageFits:=tree_ok mixedP (consAt h_s_l21Fits consNil) e_s_l21StageFits fun x hx hp=>v_s_l21StageFits x hx hp
noncomputable def c_s_ShowStage:Con:=⟨16,tStage,.str,[.val ⟨true,tStage,[]⟩],[⟨false,.str,[0]⟩],false,none,
 ((fun _=>True):(StageD)→Prop),
 ((fun x=>stageS x):(StageD)→(ByteArray))⟩
def t_s_ShowStage:T :=
 .call 0 (.vr 0) <|
 .prim .not (.vr 1) <|
 .ite (.vr 2) (
  .ret (.cs ⟨#[]⟩)) (
  .prim (.llen 94 tIns) (pjA tStage 1 (.vr 0)) <|
  .prim (.cmp .gtr .i64) (.mk2 tI tI (.vr 3) (.ci .i64 100)) <|
  .ite (.vr 4) (
   .ret (.cs ⟨#[]⟩)) (
   .prim (.llen 98 tSaved) (pjA tStage 5 (.vr 0)) <|
   .prim (.cmp .gtr .i64) (.mk2 tI tI (.vr 5) (.ci .i64 5)) <|
   .ite (.vr 6) (
    .ret (.cs ⟨#[]⟩)) (
    .prim (.llen 158 tInts) (pjA tStage 6 (.vr 0)) <|
    .prim (.cmp .gtr .i64) (.mk2 tI tI (.vr 7) (.ci .i64 20)) <|
    .ite (.vr 8) (
     .ret (.cs ⟨#[]⟩)) (
     .call 1 (.vr 0) <|
     .prim .not (.vr 9) <|
     .ite (.vr 10) (
      .ret (.cs ⟨#[]⟩)) (
      .prim (.llen 94 tIns) (pjA tStage 1 (.vr 0)) <|
      .prim (.llen 96 tOp) (pjA tStage 2 (.vr 0)) <|
      .prim (.llen 98 tSaved) (pjA tStage 5 (.vr 0)) <|
      .call 2 (pjA tStage 3 (.vr 0)) <|
      .call 2 (pjA tStage 4 (.vr 0)) <|
      .call 2 (prA tStage 13 (.vr 0)) <|
      .prim (.lit 3 tI 8) (mkA (.pair tI (.pair tI (.pair tI (.pair tI (.pair tI (.pair tI tIns)))))) [(.p1 tI (.pair tPlan (.pair tModel (.pair .bool (.pair .bool (.pair (.slice 98 tSaved) (.pair tRows (.pair tInts (.pair tInts (.pair tInts (.pair tInts tGrads)))))))))) (.vr 0)),(.vr 14),(.vr 15),(pjA tStage 12 (.vr 0)),(.vr 16),(.vr 11),(.vr 12),(.vr 13)]) <|
      .call 3 (.vr 17) <|
      .loop (.pair tI .str) (.mk2 tI .str (.ci .i64 0) (.vr 18)) <|
       .prim (.llen 94 tIns) (pjA tStage 1 (.vr 0)) <|
       .prim (.cmp .lss .i64) (.mk2 tI tI (.p1 tI .str (.vr 19)) (.vr 20)) <|
       .ite (.vr 21) (
        .prim (.lidx 94 tIns) (.mk2 tPlan tI (pjA tStage 1 (.vr 0)) (.p1 tI .str (.vr 19))) <|
        .prim (.lidx 94 tIns) (.mk2 tPlan tI (pjA tStage 1 (.vr 0)) (.p1 tI .str (.vr 19))) <|
        .prim (.lit 3 tI 2) (.mk2 tI tI (.p1 tI tI (.vr 22)) (prA tIns 1 (.vr 23))) <|
        .call 3 (.vr 24) <|
        .prim .sadd (.mk2 .str .str (prA (.pair tI .str) 1 (.vr 19)) (.vr 25)) <|
        .prim (.ar .add .i64) (.mk2 tI tI (.p1 tI .str (.vr 19)) (.ci .i64 1)) <|
        .again 0 (.mk2 tI .str (.vr 27) (.vr 26))) (
        .loop (.pair tI .str) (.mk2 tI .str (.ci .i64 0) (prA (.pair tI .str) 1 (.vr 19))) <|
         .prim (.llen 96 tOp) (pjA tStage 2 (.vr 0)) <|
         .prim (.cmp .lss .i64) (.mk2 tI tI (.p1 tI .str (.vr 22)) (.vr 23)) <|
         .ite (.vr 24) (
          .prim (.lidx 96 tOp) (.mk2 tModel tI (pjA tStage 2 (.vr 0)) (.p1 tI .str (.vr 22))) <|
          .prim (.lidx 96 tOp) (.mk2 tModel tI (pjA tStage 2 (.vr 0)) (.p1 tI .str (.vr 22))) <|
          .prim (.lidx 96 tOp) (.mk2 tModel tI (pjA tStage 2 (.vr 0)) (.p1 tI .str (.vr 22))) <|
          .prim (.lidx 96 tOp) (.mk2 tModel tI (pjA tStage 2 (.vr 0)) (.p1 tI .str (.vr 22))) <|
          .prim (.lit 3 tI 3) (mkA (.pair tI tIns) [(.p1 tI (.pair tI tItem) (.vr 25)),(pjA tOp 1 (.vr 26)),(pjA tOp 2 (.vr 27))]) <|
          .call 3 (.vr 29) <|
          .prim .sadd (.mk2 .str .str (prA (.pair tI .str) 1 (.vr 22)) (.vr 30)) <|
          .call 3 (prA tOp 3 (.vr 28)) <|
          .prim .sadd (.mk2 .str .str (.vr 31) (.vr 32)) <|
          .prim (.ar .add .i64) (.mk2 tI tI (.p1 tI .str (.vr 22)) (.ci .i64 1)) <|
          .again 0 (.mk2 tI .str (.vr 34) (.vr 33))) (
          .loop (.pair tI .str) (.mk2 tI .str (.ci .i64 0) (prA (.pair tI .str) 1 (.vr 22))) <|
           .prim (.llen 98 tSaved) (pjA tStage 5 (.vr 0)) <|
           .prim (.cmp .lss .i64) (.mk2 tI tI (.p1 tI .str (.vr 25)) (.vr 26)) <|
           .ite (.vr 27) (
            .prim (.lidx 98 tSaved) (.mk2 (.slice 98 tSaved) tI (pjA tStage 5 (.vr 0)) (.p1 tI .str (.vr 25))) <|
            .prim (.lidx 98 tSaved) (.mk2 (.slice 98 tSaved) tI (pjA tStage 5 (.vr 0)) (.p1 tI .str (.vr 25))) <|
            .prim (.lit 3 tI 1) (.p1 tI tRows (.vr 28)) <|
            .call 3 (.vr 30) <|
            .prim .sadd (.mk2 .str .str (prA (.pair tI .str) 1 (.vr 25)) (.vr 31)) <|
            .call 4 (prA tSaved 1 (.vr 29)) <|
            .prim .sadd (.mk2 .str .str (.vr 32) (.vr 33)) <|
            .prim (.ar .add .i64) (.mk2 tI tI (.p1 tI .str (.vr 25)) (.ci .i64 1)) <|
            .again 0 (.mk2 tI .str (.vr 35) (.vr 34))) (
            .call 4 (pjA tStage 6 (.vr 0)) <|
            .prim .sadd (.mk2 .str .str (prA (.pair tI .str) 1 (.vr 25)) (.vr 28)) <|
            .call 3 (pjA tStage 7 (.vr 0)) <|
            .prim .sadd (.mk2 .str .str (.vr 29) (.vr 30)) <|
            .call 3 (pjA tStage 8 (.vr 0)) <|
            .prim .sadd (.mk2 .str .str (.vr 31) (.vr 32)) <|
            .call 3 (pjA tStage 9 (.vr 0)) <|
            .prim .sadd (.mk2 .str .str (.vr 33) (.vr 34)) <|
            .call 3 (pjA tStage 10 (.vr 0)) <|
            .prim .sadd (.mk2 .str .str (.vr 35) (.vr 36)) <|
            .call 4 (pjA tStage 11 (.vr 0)) <|
            .prim .sadd (.mk2 .str .str (.vr 37) (.vr 38)) <|
            .ret (.vr 39)))))))))
set_option maxRecDepth 100000 in
theorem e_s_ShowStage:exFn Tryz.prog [c_s_StageOk,c_s_l21StageFits,c_s_l21Bool,c_s_ShowVec,c_s_l21Rows] c_s_ShowStage false 3000 ⟨[(2986,32019,[.dr 58,.dr 57,.dr 47,.dr 40,.dr 37,.dr 56,.dr 55,.dr 53,.dr 52,.dr 50,.dr 49,.dr 46,.dr 43,.dr 39,.dr 36,.dr 34,.dr 54,.dr 51,.dr 48,.dr 45,.dr 44,.dr 42,.dr 41,.dr 38,.dr 35] ++ drd 33 7 ++ [.dr 0,.tm 4 0,.tm 3 0]),(2976,64022,drd 63 59 ++ [.dr 4,.tm 5 0,.tm 3 0]),(2966,128025,drd 86 82 ++ [.dr 5,.tm 6 0,.tm 3 0])],[]⟩ = .ok t_s_ShowStage:=by kernel_rfl
theorem v_s_ShowStage (x:StageD) (hx:okD tStage x) (hp:(fun _=>True) x):t_s_ShowStage.wp [c_s_StageOk,c_s_l21StageFits,c_s_l21Bool,c_s_ShowVec,c_s_l21Rows] [⟨tStage,x⟩] [] (fun v=>v.as .str = (fun x=>stageS x) x):=by
 delta t_s_ShowStage c_s_StageOk c_s_l21StageFits c_s_l21Bool c_s_ShowVec c_s_l21Rows;refine vcx ?_;try with_reducible exact True.intro
 (refine dcx ?_;try with_reducible exact True.intro)
 refine ⟨fun h=>stageS_no fun hl=>(by have:=hl.1;rw [h] at this;cases this),fun h1 _=>⟨fun h=>stageS_no fun hl=>by have:=hl.2.1;omega,fun h2 _=>⟨fun h=>stageS_no fun hl=>by have:=hl.2.2.1;omega,fun h3 _=>⟨fun h=>stageS_no fun hl=>by have:=hl.2.2.2;omega,fun h4=>?_⟩⟩⟩⟩
 have hl:limS x:=⟨h1,by omega,by omega,by omega⟩
 have hm:=(modelB_iff _).1 ((stageB_iff x).1 h1).1
 have hg:=((fitB_iff _ _).1 ((stageB_iff x).1 h1).2.2.1).1
 have hkp:=kept_le h1
 have hv:=vecS_size (headV x)
 refine ⟨hl,fun h=>?_,fun h5=>?_⟩
 ·rw [stageS_ok hl,if_neg (by rw [h];decide)]
 rw [stageS_ok hl,if_pos h5]
 obtain ⟨W1,hW1⟩:∃ W1,W1 = vecS (headV x):=⟨_,rfl⟩
 rw [← hW1] at hv
 (repeat' first | intro _ | (with_reducible apply And.intro))
 all_goals first | omega | (exact Nat.le_trans (vecS_size _) (by decide)) | skip
 refine ⟨fun s=>∃ k:Nat,k≤x.2.1.length∧s = ((k:Int),cat W1 ((x.2.1.take k).flatMap insP)),fun s=>x.2.1.length - (s.1:Int).toNat,⟨0,by omega,by rw [hW1];rfl⟩,fun s _ hI=>?_⟩
 obtain ⟨k,hk,rfl⟩:=hI
 have y1:=cat_size W1 ((x.2.1.take k).flatMap insP) (szP_fm _ insP_sz)
 have y2:=fm_len insP 1 (x.2.1.take k) (fun _ _=>Nat.le_refl _)
 rw [List.length_take] at y2
 dsimp only
 (refine dcx ?_;try with_reducible exact True.intro)
 intro _
 constructor
 ·intro hlt
  have hk':k < x.2.1.length:=by omega
  rw [getD_at hk']
  have e:cat W1 ((x.2.1.take k).flatMap insP) ++ (vecS [(x.2.1[k]'hk').1,(x.2.1[k]'hk').2]) = cat W1 ((x.2.1.take (k + 1)).flatMap insP):=by rw [fm_next insP x.2.1 hk',cat_app];rfl
  have h6:=vecS_size [(x.2.1[k]'hk').1,(x.2.1[k]'hk').2]
  (repeat' first | intro _ | (with_reducible apply And.intro))
  all_goals first | omega | (unfold maxLen;omega) | skip
  exact ⟨k + 1,by omega,by rw [← e];rfl⟩
 intro hge
 obtain rfl:k = x.2.1.length:=by omega
 rw [List.take_length] at y1 y2 ⊢
 obtain ⟨W2,hW2⟩:∃ W2,W2 = cat W1 (x.2.1.flatMap insP):=⟨_,rfl⟩
 rw [← hW2] at y1 ⊢
 refine ⟨fun s=>∃ k:Nat,k≤x.2.2.1.length∧s = ((k:Int),cat W2 ((x.2.2.1.take k).flatMap opP)),fun s=>x.2.2.1.length - (s.1:Int).toNat,⟨0,by omega,rfl⟩,fun s _ hI=>?_⟩
 obtain ⟨k,hk,rfl⟩:=hI
 have y3:=cat_size W2 ((x.2.2.1.take k).flatMap opP) (szP_fm _ opP_sz)
 have y4:=fm_len opP 2 (x.2.2.1.take k) (fun _ _=>Nat.le_refl _)
 rw [List.length_take] at y4
 dsimp only
 (refine dcx ?_;try with_reducible exact True.intro)
 intro _
 constructor
 ·intro hlt
  have hk':k < x.2.2.1.length:=by omega
  rw [getD_at hk']
  have e:cat W2 ((x.2.2.1.take k).flatMap opP) ++ (vecS [(x.2.2.1[k]'hk').1,(x.2.2.1[k]'hk').2.1,(x.2.2.1[k]'hk').2.2.1]) ++ (vecS (x.2.2.1[k]'hk').2.2.2) = cat W2 ((x.2.2.1.take (k + 1)).flatMap opP):=by rw [fm_next opP x.2.2.1 hk',cat_app];rfl
  have h6:=vecS_size [(x.2.2.1[k]'hk').1,(x.2.2.1[k]'hk').2.1,(x.2.2.1[k]'hk').2.2.1]
  have h7:=vecS_size (x.2.2.1[k]'hk').2.2.2
  (repeat' first | intro _ | (with_reducible apply And.intro))
  all_goals first | omega | (unfold maxLen;rw [ba_size];omega) | (unfold maxLen;omega) | skip
  exact ⟨k + 1,by omega,by rw [← e];rfl⟩
 intro hge
 obtain rfl:k = x.2.2.1.length:=by omega
 rw [List.take_length] at y3 y4 ⊢
 obtain ⟨W3,hW3⟩:∃ W3,W3 = cat W2 (x.2.2.1.flatMap opP):=⟨_,rfl⟩
 rw [← hW3] at y3 ⊢
 refine ⟨fun s=>∃ k:Nat,k≤x.2.2.2.2.2.1.length∧s = ((k:Int),cat W3 ((x.2.2.2.2.2.1.take k).flatMap savP)),fun s=>x.2.2.2.2.2.1.length - (s.1:Int).toNat,⟨0,by omega,rfl⟩,fun s _ hI=>?_⟩
 obtain ⟨k,hk,rfl⟩:=hI
 have y5:=cat_size W3 ((x.2.2.2.2.2.1.take k).flatMap savP) (szP_fm _ savP_sz)
 have y6:=fm_len savP 11 (x.2.2.2.2.2.1.take k) (fun a ha=>by have:=hkp a (List.mem_of_mem_take ha);unfold savP;rw [List.length_cons,rowsP_len];omega)
 rw [List.length_take] at y6
 dsimp only
 (refine dcx ?_;try with_reducible exact True.intro)
 intro _
 constructor
 ·intro hlt
  have hk':k < x.2.2.2.2.2.1.length:=by omega
  rw [getD_at hk']
  have hkk:=hkp _ (List.getElem_mem hk')
  have e:cat W3 ((x.2.2.2.2.2.1.take k).flatMap savP) ++ (vecS [(x.2.2.2.2.2.1[k]'hk').1]) ++ cat ⟨#[]⟩ (rowsP (x.2.2.2.2.2.1[k]'hk').2) = cat W3 ((x.2.2.2.2.2.1.take (k + 1)).flatMap savP):=by rw [fm_next savP x.2.2.2.2.2.1 hk',cat_app];exact (cat_cat (cat W3 ((x.2.2.2.2.2.1.take k).flatMap savP) ++ vecS [(x.2.2.2.2.2.1[k]'hk').1]) (rowsP (x.2.2.2.2.2.1[k]'hk').2)).symm
  have h6:=vecS_size [(x.2.2.2.2.2.1[k]'hk').1]
  have h7:=cat_size ⟨#[]⟩ _ (rowsP_sz (x.2.2.2.2.2.1[k]'hk').2)
  rw [rowsP_len,show (⟨#[]⟩:ByteArray).size = 0 from rfl] at h7
  (repeat' first | intro _ | (with_reducible apply And.intro))
  all_goals first | omega | (unfold maxLen;rw [ba_size];omega) | (unfold maxLen;omega) | skip
  exact ⟨k + 1,by omega,by rw [← e];rfl⟩
 intro hge
 obtain rfl:k = x.2.2.2.2.2.1.length:=by omega
 rw [List.take_length] at y5 y6 ⊢
 obtain ⟨W4,hW4⟩:∃ W4,W4 = cat W3 (x.2.2.2.2.2.1.flatMap savP):=⟨_,rfl⟩
 rw [← hW4] at y5 ⊢
 have h7:=cat_size ⟨#[]⟩ _ (rowsP_sz x.2.2.2.2.2.2.1)
 have h8:=cat_size ⟨#[]⟩ _ (rowsP_sz x.2.2.2.2.2.2.2.2.2.2.2.1)
 rw [rowsP_len,show (⟨#[]⟩:ByteArray).size = 0 from rfl] at h7 h8
 have v1:=vecS_size x.2.2.2.2.2.2.2.1
 have v2:=vecS_size x.2.2.2.2.2.2.2.2.1
 have v3:=vecS_size x.2.2.2.2.2.2.2.2.2.1
 have v4:=vecS_size x.2.2.2.2.2.2.2.2.2.2.1
 (repeat' first | intro _ | (with_reducible apply And.intro))
 all_goals first | omega | (unfold maxLen;(try simp only [ba_size]);omega) | skip
 unfold stageP stageT
 simp only [cat_app]
 show _ = cat (cat (cat (cat (cat (cat (⟨#[]⟩ ++ vecS (headV x)) _) _) _) _) _) _
 rw [show (⟨#[]⟩:ByteArray) ++ vecS (headV x) = W1 from by rw [hW1];exact nil_app _,← hW2,← hW3,← hW4,cat_cat (cat (cat W4 _) _),cat_cat W4]
 rfl
theorem h_s_ShowStage:Con.Holds Tryz.prog c_s_ShowStage:=tree_ok mixedP (consAt h_s_StageOk (consAt h_s_l21StageFits (consAt h_s_l21Bool (consAt h_s_ShowVec (consAt h_s_l21Rows consNil))))) e_s_ShowStage fun x hx hp=>v_s_ShowStage x hx hp
end Go.Proofs.YtepjkojfjdcegaaGreat
