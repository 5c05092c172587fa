/- Show4: trees, and what they say. -/
import Derived.Test.YtepjkojfjdcegaaGreatPipe4
import Derived.Test.YtepjkojfjdcegaaGreatShow3
namespace Go.Proofs.YtepjkojfjdcegaaGreat
open Go.ChangeShapes Go.WideShapes Go.ChangeAt Go.RowKit Go.Deep
set_option linter.unusedVariables false
set_option linter.unusedSimpArgs false
theorem cat_szB {B:Nat} (s:ByteArray):(l:List ByteArray)→(∀ p ∈ l,p.size≤B)→(cat s l).size≤s.size + B * l.length
 | [],_=>Nat.le_refl _
 | x :: l,h=>by
  have h1:=cat_szB (s ++ x) l (fun p hp=>h p (List.mem_cons_of_mem _ hp))
  have h2:=h x List.mem_cons_self
  rw [ba_size] at h1
  show (cat (s ++ x) l).size≤_
  rw [List.length_cons,Nat.mul_succ];omega
theorem putsW_lenB {B:Nat} (w:WrD):(l:List ByteArray)→(∀ p ∈ l,p.size≤B)→(putsW w l).1.length≤w.1.length + B * l.length
 | [],_=>Nat.le_refl _
 | x :: l,h=>by
  have h1:=putsW_lenB (putW w x) l (fun p hp=>h p (List.mem_cons_of_mem _ hp))
  have h2:=h x List.mem_cons_self
  have h3:(putW w x).1.length = w.1.length + x.size:=by unfold putW;rw [List.length_append,bytesL_len]
  show (putsW (putW w x) l).1.length≤_
  rw [List.length_cons,Nat.mul_succ];omega
theorem stageS_size (s:StageD):(stageS s).size≤400000:=by
 unfold stageS
 split
 ·rename_i h
  obtain ⟨hl,_⟩:=h
  have hm:=(modelB_iff _).1 ((stageB_iff s).1 hl.1).1
  have hg:=((fitB_iff _ _).1 ((stageB_iff s).1 hl.1).2.2.1).1
  have hkp:=kept_le hl.1
  obtain ⟨_,h2,h3,h4⟩:=hl
  have hz:szP (stageP s):=by
   unfold stageP stageT
   exact szP_app (szP_cons (vecS_size _) szP_nil) (szP_app (szP_fm _ insP_sz) (szP_app (szP_fm _ opP_sz) (szP_app (szP_fm _ savP_sz) (szP_app (rowsP_sz _) (szP_app (szP_cons (vecS_size _) (szP_cons (vecS_size _) (szP_cons (vecS_size _) (szP_cons (vecS_size _) szP_nil)))) (rowsP_sz _))))))
  have h5:=cat_size ⟨#[]⟩ (stageP s) hz
  have l1:=fm_len insP 1 s.2.1 (fun _ _=>Nat.le_refl _)
  have l2:=fm_len opP 2 s.2.2.1 (fun _ _=>Nat.le_refl _)
  have l3:=fm_len savP 11 s.2.2.2.2.2.1 (fun a ha=>by have:=hkp a ha;unfold savP;rw [List.length_cons,rowsP_len];omega)
  have hn:(stageP s).length≤220:=by
   unfold stageP stageT
   simp only [List.length_append,rowsP_len,List.length_cons,List.length_nil]
   omega
  rw [show (⟨#[]⟩:ByteArray).size = 0 from rfl] at h5
  omega
 ·exact Nat.zero_le _
def itP (x:ItemD):List ByteArray:=[vecS [x.1],vecS x.2]
def queueP (q:QueueD):List ByteArray:=vecS [q.1,q.2.length] :: q.2.flatMap itP
def pairP (x:PairD):List ByteArray:=[vecS x.1,vecS x.2]
theorem itP_sz (x:ItemD):szP (itP x):=szP_cons (vecS_size _) (szP_cons (vecS_size _) szP_nil)
theorem pairP_sz (x:PairD):szP (pairP x):=szP_cons (vecS_size _) (szP_cons (vecS_size _) szP_nil)
theorem queueP_sz (q:QueueD):szP (queueP q):=szP_cons (vecS_size _) (szP_fm _ itP_sz)
theorem queueP_len (q:QueueD):(queueP q).length≤2 * q.2.length + 1:=by
 have:=fm_len itP 2 q.2 (fun _ _=>Nat.le_refl _)
 unfold queueP;rw [List.length_cons];omega
def qsP (a b:List QueueD) (i:Nat):List ByteArray:=queueP (a.getD i (zeroD tQueue)) ++ queueP (b.getD i (zeroD tQueue))
theorem qsP_sz (a b:List QueueD) (i:Nat):szP (qsP a b i):=szP_app (queueP_sz _) (queueP_sz _)
def stP (s:StageD):List ByteArray:=[stageS s]
def pipeP (p:PipeD):List ByteArray:=[vecS [(p.1.length:Int),(p.2.1.length:Int)]] ++ (p.1.flatMap pairP ++ (p.2.1.flatMap stP ++ (List.range p.2.2.1.length).flatMap (qsP p.2.2.1 p.2.2.2)))
noncomputable def pipeS (p:PipeD):ByteArray:=if pipeB p = true∧(p.2.1.all fun s=>!isE (stageS s)) = true∧(cat ⟨#[]⟩ (pipeP p)).size≤60000 then cat ⟨#[]⟩ (pipeP p) else ⟨#[]⟩
theorem pipeS_no {p:PipeD} (h:¬ pipeB p = true):(⟨#[]⟩:ByteArray) = pipeS p:=by unfold pipeS;rw [if_neg (fun hh=>h hh.1)]
theorem pipeS_big {p:PipeD} (h:60000 < (cat ⟨#[]⟩ (pipeP p)).size):(⟨#[]⟩:ByteArray) = pipeS p:=by unfold pipeS;rw [if_neg (fun hh=>by omega)]
theorem pipeS_emp {p:PipeD} {i:Nat} (hi:i < p.2.1.length) (h:stageS (p.2.1.getD i (zeroD tStage)) = ⟨#[]⟩):(⟨#[]⟩:ByteArray) = pipeS p:=by
 unfold pipeS
 rw [if_neg (fun hh=>?_)]
 have h1:=List.all_eq_true.1 hh.2.1 _ (List.getElem_mem hi)
 rw [getD_at hi] at h
 unfold isE at h1
 rw [h] at h1
 exact absurd h1 (by decide)
theorem okV_short {v:List Int} (h:vecB v = true):okV v = true:=by
 have h1:=(vecB_iff v).1 h
 unfold okV
 rw [Bool.and_eq_true,decide_eq_true_eq,List.all_eq_true]
 refine ⟨by omega,fun x hx=>?_⟩
 have h2:=(fixB_iff x).1 (List.all_eq_true.1 h1.2.2 x hx)
 unfold small;rw [decide_eq_true_eq];omega
theorem okV_1 {a:Int} (h:0≤a∧a≤1000):okV [a] = true:=by
 unfold okV;simp only [List.all_cons,List.all_nil,small,List.length_cons,List.length_nil,Bool.and_true,Bool.and_eq_true,decide_eq_true_eq];omega
theorem okV_2 {a b:Int} (h:0≤a∧a≤1000) (h2:0≤b∧b≤1000):okV [a,b] = true:=by
 unfold okV;simp only [List.all_cons,List.all_nil,small,List.length_cons,List.length_nil,Bool.and_true,Bool.and_eq_true,decide_eq_true_eq];omega
theorem any_no {α:Type} {f:α→Bool}:(l:List α)→(∀ a ∈ l,f a = false)→l.any f = false
 | [],_=>rfl
 | x :: l,h=>by rw [List.any_cons,h x List.mem_cons_self,any_no l fun a ha=>h a (List.mem_cons_of_mem _ ha)];rfl
theorem queueP_any {q:QueueD} (h:queueB q = true):(queueP q).any isE = false:=by
 have h1:=pB_iff.1 h
 unfold queueP
 rw [List.any_cons,isE_vec,okV_2 (by omega) (by omega),any_fm]
 refine any_no _ fun a ha=>?_
 obtain ⟨i,hi,rfl⟩:=List.getElem_of_mem ha
 have h2:=(itemB_iff _).1 (h1.2 i hi)
 rw [getD_at hi] at h2
 unfold itP
 rw [List.any_cons,List.any_cons,List.any_nil,isE_vec,isE_vec,okV_1 (by omega),okV_short h2.1];rfl
theorem pipe_any {p:PipeD} (h:pipeB p = true):(pipeP p).any isE = !(p.2.1.all fun s=>!isE (stageS s)):=by
 obtain ⟨h1,h2,h3,h4⟩:=pB_iff.1 h
 unfold pipeP
 rw [List.not_all_eq_any_not]
 simp only [List.any_append,any_fm,List.any_cons,List.any_nil,isE_vec,okV_2 (show 0≤(p.1.length:Int)∧(p.1.length:Int)≤1000 by omega) (show 0≤(p.2.1.length:Int)∧(p.2.1.length:Int)≤1000 by omega),Bool.not_true,Bool.or_false,Bool.false_or,stP]
 rw [any_no p.1 fun a ha=>?_,any_no (List.range _) fun i hi=>?_]
 ·simp
 ·rw [List.mem_range] at hi
  have:=h3 i hi
  unfold qsP
  rw [List.any_append,queueP_any this.1,queueP_any this.2];rfl
 ·obtain ⟨i,hi,rfl⟩:=List.getElem_of_mem ha
  have:=h2 i hi
  rw [getD_at hi] at this
  unfold pairP
  rw [List.any_cons,List.any_cons,List.any_nil,isE_vec,isE_vec,okV_short this.1,okV_short this.2];rfl
theorem pipe_text (W:WrD) {p:PipeD} (h:pipeB p = true) (hW:W = putsW ([],false) (pipeP p)):W.1.length = (cat ⟨#[]⟩ (pipeP p)).size∧(¬ 60000 < W.1.length→(if W.2 = true then (⟨#[]⟩:ByteArray) else ofBytesL W.1) = pipeS p):=by
 have h1:=putsW_eq (pipeP p) ⟨#[]⟩ false
 rw [Bool.false_or,pipe_any h] at h1
 rw [hW,show (([],false):WrD) = (bytesL ⟨#[]⟩,false) from rfl,h1]
 dsimp only
 rw [bytesL_len,ofB_bytes]
 refine ⟨rfl,fun h2=>?_⟩
 unfold pipeS
 cases p.2.1.all fun s=>!isE (stageS s)
 ·rw [if_pos (show (!false) = true from rfl),if_neg (fun hh=>by cases hh.2.1)]
 ·rw [if_neg (show ¬ (!true) = true by decide),if_pos ⟨h,rfl,by omega⟩]
theorem rg_next {β:Type} (g:Nat→List β) (k:Nat):(List.range (k + 1)).flatMap g = (List.range k).flatMap g ++ g k:=by
 rw [List.range_succ,List.flatMap_append,List.flatMap_singleton]
noncomputable def c_i_writer_queue:Con:=⟨137,(.pair (.pair (.slice 5 (.int .u8)) .bool) tQueue),(.pair (.slice 5 (.int .u8)) .bool),[.box 90 ⟨true,(.pair (.slice 5 (.int .u8)) .bool),[2,0]⟩,.val ⟨true,tQueue,[]⟩],[],false,none,
 ((fun x=>x.1.1.length≤100000000000∧x.2.2.length≤10000000):((IntsD × Bool) × QueueD)→Prop),
 ((fun x=>putsW x.1 (queueP x.2)):((IntsD × Bool) × QueueD)→(IntsD × Bool))⟩
def t_i_writer_queue:T :=
 .prim (.llen 179 tItem) (prA (.pair (.pair (.slice 5 (.int .u8)) .bool) tQueue) 2 (.vr 0)) <|
 .prim (.lit 3 tI 2) (.mk2 tI tI (pjA (.pair (.pair (.slice 5 (.int .u8)) .bool) tQueue) 1 (.vr 0)) (.vr 1)) <|
 .call 0 (.vr 2) <|
 .call 1 (.mk2 (.pair (.slice 5 (.int .u8)) .bool) .str (.p1 (.pair (.slice 5 (.int .u8)) .bool) tQueue (.vr 0)) (.vr 3)) <|
 .prim (.llen 179 tItem) (prA (.pair (.pair (.slice 5 (.int .u8)) .bool) tQueue) 2 (.vr 0)) <|
 .loop (.pair tI (.pair .bool (.slice 5 (.int .u8)))) (mkA (.pair tI (.pair .bool (.slice 5 (.int .u8)))) [(.ci .i64 0),(prA (.pair (.slice 5 (.int .u8)) .bool) 1 (.vr 4)),(.p1 (.slice 5 (.int .u8)) .bool (.vr 4))]) <|
  .prim (.cmp .lss .i64) (.mk2 tI tI (.p1 tI (.pair .bool (.slice 5 (.int .u8))) (.vr 6)) (.vr 5)) <|
  .ite (.vr 7) (
   .prim (.lidx 179 tItem) (.mk2 (.slice 179 tItem) tI (prA (.pair (.pair (.slice 5 (.int .u8)) .bool) tQueue) 2 (.vr 0)) (.p1 tI (.pair .bool (.slice 5 (.int .u8))) (.vr 6))) <|
   .prim (.lit 3 tI 1) (.p1 tI tInts (.vr 8)) <|
   .call 0 (.vr 9) <|
   .call 1 (.mk2 (.pair (.slice 5 (.int .u8)) .bool) .str (.mk2 (.slice 5 (.int .u8)) .bool (prA (.pair tI (.pair .bool (.slice 5 (.int .u8)))) 2 (.vr 6)) (pjA (.pair tI (.pair .bool (.slice 5 (.int .u8)))) 1 (.vr 6))) (.vr 10)) <|
   .call 0 (prA tItem 1 (.vr 8)) <|
   .call 1 (.mk2 (.pair (.slice 5 (.int .u8)) .bool) .str (.vr 11) (.vr 12)) <|
   .prim (.ar .add .i64) (.mk2 tI tI (.p1 tI (.pair .bool (.slice 5 (.int .u8))) (.vr 6)) (.ci .i64 1)) <|
   .again 0 (mkA (.pair tI (.pair .bool (.slice 5 (.int .u8)))) [(.vr 14),(prA (.pair (.slice 5 (.int .u8)) .bool) 1 (.vr 13)),(.p1 (.slice 5 (.int .u8)) .bool (.vr 13))])) (
   .ret (.mk2 (.slice 5 (.int .u8)) .bool (prA (.pair tI (.pair .bool (.slice 5 (.int .u8)))) 2 (.vr 6)) (pjA (.pair tI (.pair .bool (.slice 5 (.int .u8)))) 1 (.vr 6))))
set_option maxRecDepth 100000 in
theorem e_i_writer_queue:exFn Tryz.prog [c_i_ShowVec,c_i_writer_put] c_i_writer_queue false 3000 ⟨[(2992,1006,drd 15 6 ++ [.dr 3,.dr 1,.tm 18 0,.bx 1 1,.sl 5])],[]⟩ = .ok t_i_writer_queue:=by kernel_rfl
theorem v_i_writer_queue (x:(IntsD × Bool) × QueueD) (hx:okD (.pair (.pair (.slice 5 (.int .u8)) .bool) tQueue) x) (hp:(fun x=>x.1.1.length≤100000000000∧x.2.2.length≤10000000) x):t_i_writer_queue.wp [c_i_ShowVec,c_i_writer_put] [⟨(.pair (.pair (.slice 5 (.int .u8)) .bool) tQueue),x⟩] [] (fun v=>v.as (.pair (.slice 5 (.int .u8)) .bool) = (fun x=>putsW x.1 (queueP x.2)) x):=by
 obtain ⟨w,c,l⟩:=x
 obtain ⟨h1,h2⟩:w.1.length≤100000000000∧l.length≤10000000:=hp
 delta t_i_writer_queue c_i_ShowVec c_i_writer_put;refine vcx ?_;try with_reducible exact True.intro
 obtain ⟨W,hW⟩:∃ W,W = putW w (vecS [c,(l.length:Int)]):=⟨_,rfl⟩
 have z1:W.1.length≤w.1.length + 1608:=by rw [hW];exact putsW_len w [_] (szP_cons (vecS_size _) szP_nil)
 (repeat' first | intro _ | (with_reducible apply And.intro))
 all_goals first | omega | (exact Nat.le_trans (vecS_size _) (by decide)) | skip
 refine ⟨fun s=>∃ k:Nat,k≤l.length∧s = ((k:Int),(putsW W ((l.take k).flatMap itP)).2,(putsW W ((l.take k).flatMap itP)).1),fun s=>l.length - (s.1:Int).toNat,⟨0,by omega,by rw [hW];rfl⟩,fun s _ hI=>?_⟩
 obtain ⟨k,hk,rfl⟩:=hI
 have y1:=putsW_len W ((l.take k).flatMap itP) (szP_fm _ itP_sz)
 have y2:=fm_len itP 2 (l.take k) (fun _ _=>Nat.le_refl _)
 rw [List.length_take] at y2
 dsimp only
 (refine dcx ?_;try with_reducible exact True.intro)
 constructor
 ·intro hlt
  have hk':k < l.length:=by omega
  rw [getD_at hk']
  have e:putW (putW (putsW W ((l.take k).flatMap itP)) (vecS [(l[k]'hk').1])) (vecS (l[k]'hk').2) = putsW W ((l.take (k + 1)).flatMap itP):=by rw [fm_next itP l hk',putsW_app];rfl
  have e1:(putW (putsW W ((l.take k).flatMap itP)) (vecS [(l[k]'hk').1])).1.length≤(putsW W ((l.take k).flatMap itP)).1.length + 1608:=putsW_len _ [_] (szP_cons (vecS_size _) szP_nil)
  (repeat' first | intro _ | (with_reducible apply And.intro))
  all_goals first | omega | (exact Nat.le_trans (vecS_size _) (by decide)) | (exact Nat.le_trans e1 (by omega)) | skip
  exact ⟨k + 1,by omega,by rw [← e];rfl⟩
 intro hge
 obtain rfl:k = l.length:=by omega
 rw [List.take_length,hW]
 rfl
theorem h_i_writer_queue:Con.Holds Tryz.prog c_i_writer_queue:=tree_ok mixedP (consAt h_i_ShowVec (consAt h_i_writer_put consNil)) e_i_writer_queue fun x hx hp=>v_i_writer_queue x hx hp
noncomputable def c_s_l21Queue:Con:=⟨135,tQueue,.str,[.val ⟨true,tQueue,[]⟩],[⟨false,.str,[0]⟩],false,none,
 ((fun x=>x.2.length≤10000000):(QueueD)→Prop),
 ((fun x=>cat ⟨#[]⟩ (queueP x)):(QueueD)→(ByteArray))⟩
def t_s_l21Queue:T :=
 .prim (.llen 179 tItem) (prA tQueue 1 (.vr 0)) <|
 .prim (.lit 3 tI 2) (.mk2 tI tI (.p1 tI (.slice 179 tItem) (.vr 0)) (.vr 1)) <|
 .call 0 (.vr 2) <|
 .loop (.pair tI .str) (.mk2 tI .str (.ci .i64 0) (.vr 3)) <|
  .prim (.llen 179 tItem) (prA tQueue 1 (.vr 0)) <|
  .prim (.cmp .lss .i64) (.mk2 tI tI (.p1 tI .str (.vr 4)) (.vr 5)) <|
  .ite (.vr 6) (
   .prim (.lidx 179 tItem) (.mk2 (.slice 179 tItem) tI (prA tQueue 1 (.vr 0)) (.p1 tI .str (.vr 4))) <|
   .prim (.lidx 179 tItem) (.mk2 (.slice 179 tItem) tI (prA tQueue 1 (.vr 0)) (.p1 tI .str (.vr 4))) <|
   .prim (.lit 3 tI 1) (.p1 tI tInts (.vr 7)) <|
   .call 0 (.vr 9) <|
   .prim .sadd (.mk2 .str .str (prA (.pair tI .str) 1 (.vr 4)) (.vr 10)) <|
   .call 0 (prA tItem 1 (.vr 8)) <|
   .prim .sadd (.mk2 .str .str (.vr 11) (.vr 12)) <|
   .prim (.ar .add .i64) (.mk2 tI tI (.p1 tI .str (.vr 4)) (.ci .i64 1)) <|
   .again 0 (.mk2 tI .str (.vr 14) (.vr 13))) (
   .ret (prA (.pair tI .str) 1 (.vr 4)))
set_option maxRecDepth 100000 in
theorem e_s_l21Queue:exFn Tryz.prog [c_s_ShowVec] c_s_l21Queue false 3000 ⟨[(2991,1004,drd 11 5 ++ [.dr 0,.tm 4 0,.tm 3 0])],[]⟩ = .ok t_s_l21Queue:=by kernel_rfl
theorem v_s_l21Queue (x:QueueD) (hx:okD tQueue x) (hp:(fun x=>x.2.length≤10000000) x):t_s_l21Queue.wp [c_s_ShowVec] [⟨tQueue,x⟩] [] (fun v=>v.as .str = (fun x=>cat ⟨#[]⟩ (queueP x)) x):=by
 obtain ⟨c,l⟩:=x
 have h2:l.length≤10000000:=hp
 delta t_s_l21Queue c_s_ShowVec;refine vcx ?_;try with_reducible exact True.intro
 obtain ⟨W,hW⟩:∃ W,W = vecS [c,(l.length:Int)]:=⟨_,rfl⟩
 have z1:W.size≤1608:=by rw [hW];exact vecS_size _
 (repeat' first | intro _ | (with_reducible apply And.intro))
 refine ⟨fun s=>∃ k:Nat,k≤l.length∧s = ((k:Int),cat W ((l.take k).flatMap itP)),fun s=>l.length - (s.1:Int).toNat,⟨0,by omega,by rw [hW];rfl⟩,fun s _ hI=>?_⟩
 obtain ⟨k,hk,rfl⟩:=hI
 have y1:=cat_size W ((l.take k).flatMap itP) (szP_fm _ itP_sz)
 have y2:=fm_len itP 2 (l.take k) (fun _ _=>Nat.le_refl _)
 rw [List.length_take] at y2
 dsimp only
 (refine dcx ?_;try with_reducible exact True.intro)
 intro _
 constructor
 ·intro hlt
  have hk':k < l.length:=by omega
  rw [getD_at hk']
  have e:cat W ((l.take k).flatMap itP) ++ (vecS [(l[k]'hk').1]) ++ (vecS (l[k]'hk').2) = cat W ((l.take (k + 1)).flatMap itP):=by rw [fm_next itP l hk',cat_app];rfl
  have e1:=vecS_size [(l[k]'hk').1]
  have e2:=vecS_size (l[k]'hk').2
  (repeat' first | intro _ | (with_reducible apply And.intro))
  all_goals first | omega | (unfold maxLen;(try rw [ba_size]);omega) | skip
  exact ⟨k + 1,by omega,by rw [← e];rfl⟩
 intro hge
 obtain rfl:k = l.length:=by omega
 rw [List.take_length,hW]
 show cat (vecS _) _ = cat (⟨#[]⟩ ++ vecS _) _
 rw [nil_app]
theorem h_s_l21Queue:Con.Holds Tryz.prog c_s_l21Queue:=tree_ok mixedP (consAt h_s_ShowVec consNil) e_s_l21Queue fun x hx hp=>v_s_l21Queue x hx hp
noncomputable def c_i_ShowPipe:Con:=⟨82,tPipe,.str,[.val ⟨true,tPipe,[]⟩],[⟨false,.str,[0]⟩],false,none,
 ((fun _=>True):(PipeD)→Prop),
 ((fun x=>pipeS x):(PipeD)→(ByteArray))⟩
def t_i_ShowPipe:T :=
 .call 0 (.vr 0) <|
 .prim .not (.vr 1) <|
 .ite (.vr 2) (
  .ret (.cs ⟨#[]⟩)) (
  .prim (.llen 128 tPair) (.p1 tBatch (.pair (.slice 38 tStage) (.pair tQueues tQueues)) (.vr 0)) <|
  .prim (.llen 38 tStage) (pjA tPipe 1 (.vr 0)) <|
  .prim (.lit 3 tI 2) (.mk2 tI tI (.vr 3) (.vr 4)) <|
  .call 1 (.vr 5) <|
  .call 2 (.mk2 (.pair (.slice 5 (.int .u8)) .bool) .str (.mk2 (.slice 5 (.int .u8)) .bool (.nl 5 (.int .u8)) (.cb false)) (.vr 6)) <|
  .prim (.llen 128 tPair) (.p1 tBatch (.pair (.slice 38 tStage) (.pair tQueues tQueues)) (.vr 0)) <|
  .loop (.pair tI (.pair .bool (.slice 5 (.int .u8)))) (mkA (.pair tI (.pair .bool (.slice 5 (.int .u8)))) [(.ci .i64 0),(prA (.pair (.slice 5 (.int .u8)) .bool) 1 (.vr 7)),(.p1 (.slice 5 (.int .u8)) .bool (.vr 7))]) <|
   .prim (.cmp .lss .i64) (.mk2 tI tI (.p1 tI (.pair .bool (.slice 5 (.int .u8))) (.vr 9)) (.vr 8)) <|
   .ite (.vr 10) (
    .prim (.lidx 128 tPair) (.mk2 tBatch tI (.p1 tBatch (.pair (.slice 38 tStage) (.pair tQueues tQueues)) (.vr 0)) (.p1 tI (.pair .bool (.slice 5 (.int .u8))) (.vr 9))) <|
    .call 1 (.p1 tInts tInts (.vr 11)) <|
    .call 2 (.mk2 (.pair (.slice 5 (.int .u8)) .bool) .str (.mk2 (.slice 5 (.int .u8)) .bool (prA (.pair tI (.pair .bool (.slice 5 (.int .u8)))) 2 (.vr 9)) (pjA (.pair tI (.pair .bool (.slice 5 (.int .u8)))) 1 (.vr 9))) (.vr 12)) <|
    .call 1 (prA tPair 1 (.vr 11)) <|
    .call 2 (.mk2 (.pair (.slice 5 (.int .u8)) .bool) .str (.vr 13) (.vr 14)) <|
    .prim (.ar .add .i64) (.mk2 tI tI (.p1 tI (.pair .bool (.slice 5 (.int .u8))) (.vr 9)) (.ci .i64 1)) <|
    .again 0 (mkA (.pair tI (.pair .bool (.slice 5 (.int .u8)))) [(.vr 16),(prA (.pair (.slice 5 (.int .u8)) .bool) 1 (.vr 15)),(.p1 (.slice 5 (.int .u8)) .bool (.vr 15))])) (
    .prim (.llen 38 tStage) (pjA tPipe 1 (.vr 0)) <|
    .loop (.pair tI (.pair .bool (.slice 5 (.int .u8)))) (.mk2 tI (.pair .bool (.slice 5 (.int .u8))) (.ci .i64 0) (prA (.pair tI (.pair .bool (.slice 5 (.int .u8)))) 1 (.vr 9))) <|
     .prim (.cmp .lss .i64) (.mk2 tI tI (.p1 tI (.pair .bool (.slice 5 (.int .u8))) (.vr 12)) (.vr 11)) <|
     .ite (.vr 13) (
      .prim (.lidx 38 tStage) (.mk2 (.slice 38 tStage) tI (pjA tPipe 1 (.vr 0)) (.p1 tI (.pair .bool (.slice 5 (.int .u8))) (.vr 12))) <|
      .call 3 (.vr 14) <|
      .call 2 (.mk2 (.pair (.slice 5 (.int .u8)) .bool) .str (.mk2 (.slice 5 (.int .u8)) .bool (prA (.pair tI (.pair .bool (.slice 5 (.int .u8)))) 2 (.vr 12)) (pjA (.pair tI (.pair .bool (.slice 5 (.int .u8)))) 1 (.vr 12))) (.vr 15)) <|
      .prim (.ar .add .i64) (.mk2 tI tI (.p1 tI (.pair .bool (.slice 5 (.int .u8))) (.vr 12)) (.ci .i64 1)) <|
      .again 0 (mkA (.pair tI (.pair .bool (.slice 5 (.int .u8)))) [(.vr 17),(prA (.pair (.slice 5 (.int .u8)) .bool) 1 (.vr 16)),(.p1 (.slice 5 (.int .u8)) .bool (.vr 16))])) (
      .prim (.llen 133 tQueue) (pjA tPipe 2 (.vr 0)) <|
      .loop (.pair tI (.pair .bool (.slice 5 (.int .u8)))) (.mk2 tI (.pair .bool (.slice 5 (.int .u8))) (.ci .i64 0) (prA (.pair tI (.pair .bool (.slice 5 (.int .u8)))) 1 (.vr 12))) <|
       .prim (.cmp .lss .i64) (.mk2 tI tI (.p1 tI (.pair .bool (.slice 5 (.int .u8))) (.vr 15)) (.vr 14)) <|
       .ite (.vr 16) (
        .prim (.lidx 133 tQueue) (.mk2 tQueues tI (pjA tPipe 2 (.vr 0)) (.p1 tI (.pair .bool (.slice 5 (.int .u8))) (.vr 15))) <|
        .call 4 (.mk2 (.pair (.slice 5 (.int .u8)) .bool) tQueue (.mk2 (.slice 5 (.int .u8)) .bool (prA (.pair tI (.pair .bool (.slice 5 (.int .u8)))) 2 (.vr 15)) (pjA (.pair tI (.pair .bool (.slice 5 (.int .u8)))) 1 (.vr 15))) (.vr 17)) <|
        .prim (.lidx 133 tQueue) (.mk2 tQueues tI (prA tPipe 3 (.vr 0)) (.p1 tI (.pair .bool (.slice 5 (.int .u8))) (.vr 15))) <|
        .call 4 (.mk2 (.pair (.slice 5 (.int .u8)) .bool) tQueue (.vr 18) (.vr 19)) <|
        .prim (.ar .add .i64) (.mk2 tI tI (.p1 tI (.pair .bool (.slice 5 (.int .u8))) (.vr 15)) (.ci .i64 1)) <|
        .again 0 (mkA (.pair tI (.pair .bool (.slice 5 (.int .u8)))) [(.vr 21),(prA (.pair (.slice 5 (.int .u8)) .bool) 1 (.vr 20)),(.p1 (.slice 5 (.int .u8)) .bool (.vr 20))])) (
        .prim (.llen 5 (.int .u8)) (prA (.pair tI (.pair .bool (.slice 5 (.int .u8)))) 2 (.vr 15)) <|
        .prim (.cmp .gtr .i64) (.mk2 tI tI (.vr 17) (.ci .i64 60000)) <|
        .ite (.vr 18) (
         .ret (.cs ⟨#[]⟩)) (
         .call 5 (.mk2 (.slice 5 (.int .u8)) .bool (prA (.pair tI (.pair .bool (.slice 5 (.int .u8)))) 2 (.vr 15)) (pjA (.pair tI (.pair .bool (.slice 5 (.int .u8)))) 1 (.vr 15))) <|
         .ret (.p1 .str (.pair (.slice 5 (.int .u8)) .bool) (.vr 19)))))))
set_option maxRecDepth 100000 in
theorem e_i_ShowPipe:exFn Tryz.prog [c_i_PipeOk,c_i_ShowVec,c_i_writer_put,c_i_ShowStage,c_i_writer_queue,c_i_writer_text] c_i_ShowPipe false 3000 ⟨[(2984,2009,drd 24 9 ++ [.dr 0,.tm 27 0,.bx 2 1,.sl 5]),(2974,4012,[.dr 42] ++ drd 28 25 ++ [.tm 45 0,.bx 2 1,.sl 5]),(2964,8015,[.dr 55,.dr 54] ++ drd 46 43 ++ [.tm 57 0,.bx 2 1,.sl 5])],[]⟩ = .ok t_i_ShowPipe:=by kernel_rfl
theorem v_i_ShowPipe (x:PipeD) (hx:okD tPipe x) (hp:(fun _=>True) x):t_i_ShowPipe.wp [c_i_PipeOk,c_i_ShowVec,c_i_writer_put,c_i_ShowStage,c_i_writer_queue,c_i_writer_text] [⟨tPipe,x⟩] [] (fun v=>v.as .str = (fun x=>pipeS x) x):=by
 delta t_i_ShowPipe c_i_PipeOk c_i_ShowVec c_i_writer_put c_i_ShowStage c_i_writer_queue c_i_writer_text;refine vcx ?_;try with_reducible exact True.intro
 (refine dcx ?_;try with_reducible exact True.intro)
 refine ⟨fun h=>pipeS_no (by rw [h];decide),fun h1=>?_⟩
 obtain ⟨q1,q2,q3,q4⟩:=pB_iff.1 h1
 obtain ⟨W1,hW1⟩:∃ W,W = putW ([],false) (vecS [(x.1.length:Int),(x.2.1.length:Int)]):=⟨_,rfl⟩
 have z1:W1.1.length≤1608:=by rw [hW1];exact putsW_len ([],false) [_] (szP_cons (vecS_size _) szP_nil)
 (repeat' first | intro _ | (with_reducible apply And.intro))
 all_goals first | omega | (exact Nat.le_trans (vecS_size _) (by decide)) | skip
 refine ⟨fun s=>∃ k:Nat,k≤x.1.length∧s = ((k:Int),(putsW W1 ((x.1.take k).flatMap pairP)).2,(putsW W1 ((x.1.take k).flatMap pairP)).1),fun s=>x.1.length - (s.1:Int).toNat,⟨0,by omega,by rw [hW1];rfl⟩,fun s _ hI=>?_⟩
 obtain ⟨k,hk,rfl⟩:=hI
 have y1:=putsW_len W1 ((x.1.take k).flatMap pairP) (szP_fm _ pairP_sz)
 have y2:=fm_len pairP 2 (x.1.take k) (fun _ _=>Nat.le_refl _)
 rw [List.length_take] at y2
 dsimp only
 (refine dcx ?_;try with_reducible exact True.intro)
 constructor
 ·intro hlt
  have hk':k < x.1.length:=by omega
  rw [getD_at hk']
  have e:putW (putW (putsW W1 ((x.1.take k).flatMap pairP)) (vecS (x.1[k]'hk').1)) (vecS (x.1[k]'hk').2) = putsW W1 ((x.1.take (k + 1)).flatMap pairP):=by rw [fm_next pairP x.1 hk',putsW_app];rfl
  have e1:(putW (putsW W1 ((x.1.take k).flatMap pairP)) (vecS (x.1[k]'hk').1)).1.length≤(putsW W1 ((x.1.take k).flatMap pairP)).1.length + 1608:=putsW_len _ [_] (szP_cons (vecS_size _) szP_nil)
  (repeat' first | intro _ | (with_reducible apply And.intro))
  all_goals first | omega | (exact Nat.le_trans (vecS_size _) (by decide)) | (exact Nat.le_trans e1 (by omega)) | skip
  exact ⟨k + 1,by omega,by rw [← e];rfl⟩
 intro hge
 obtain rfl:k = x.1.length:=by omega
 rw [List.take_length] at y1 y2 ⊢
 obtain ⟨W2,hW2⟩:∃ W,W = putsW W1 (x.1.flatMap pairP):=⟨_,rfl⟩
 rw [← hW2] at y1 ⊢
 intro _
 refine ⟨fun s=>∃ k:Nat,k≤x.2.1.length∧s = ((k:Int),(putsW W2 ((x.2.1.take k).flatMap stP)).2,(putsW W2 ((x.2.1.take k).flatMap stP)).1),fun s=>x.2.1.length - (s.1:Int).toNat,⟨0,by omega,rfl⟩,fun s _ hI=>?_⟩
 obtain ⟨k,hk,rfl⟩:=hI
 have y3:=putsW_lenB (B:=400000) W2 ((x.2.1.take k).flatMap stP) (fun p hp=>by rw [List.mem_flatMap] at hp;obtain ⟨a,_,hp⟩:=hp;unfold stP at hp;rw [List.mem_singleton] at hp;rw [hp];exact stageS_size a)
 have y4:=fm_len stP 1 (x.2.1.take k) (fun _ _=>Nat.le_refl _)
 rw [List.length_take] at y4
 dsimp only
 (refine dcx ?_;try with_reducible exact True.intro)
 constructor
 ·intro hlt
  have hk':k < x.2.1.length:=by omega
  rw [getD_at hk']
  have e:putW (putsW W2 ((x.2.1.take k).flatMap stP)) (stageS (x.2.1[k]'hk')) = putsW W2 ((x.2.1.take (k + 1)).flatMap stP):=by rw [fm_next stP x.2.1 hk',putsW_app];rfl
  (repeat' first | intro _ | (with_reducible apply And.intro))
  all_goals first | omega | (exact Nat.le_trans (stageS_size _) (by decide)) | skip
  exact ⟨k + 1,by omega,by rw [← e];rfl⟩
 intro hge2
 obtain rfl:k = x.2.1.length:=by omega
 rw [List.take_length] at y3 y4 ⊢
 obtain ⟨W3,hW3⟩:∃ W,W = putsW W2 (x.2.1.flatMap stP):=⟨_,rfl⟩
 rw [← hW3] at y3 ⊢
 intro _
 refine ⟨fun s=>∃ k:Nat,k≤x.2.2.1.length∧s = ((k:Int),(putsW W3 ((List.range k).flatMap (qsP x.2.2.1 x.2.2.2))).2,(putsW W3 ((List.range k).flatMap (qsP x.2.2.1 x.2.2.2))).1),fun s=>x.2.2.1.length - (s.1:Int).toNat,⟨0,by omega,rfl⟩,fun s _ hI=>?_⟩
 obtain ⟨k,hk,rfl⟩:=hI
 have hlq:∀ i,i < k→(qsP x.2.2.1 x.2.2.2 i).length≤22:=fun i hi=>by
  have:=q3 i (by omega)
  have g1:=(pB_iff.1 this.1).1
  have g2:=(pB_iff.1 this.2).1
  have g3:=queueP_len (x.2.2.1.getD i (zeroD tQueue))
  have g4:=queueP_len (x.2.2.2.getD i (zeroD tQueue))
  unfold qsP;rw [List.length_append];omega
 have y5:=putsW_len W3 ((List.range k).flatMap (qsP x.2.2.1 x.2.2.2)) (szP_fm _ (qsP_sz _ _))
 have y6:=fm_len (qsP x.2.2.1 x.2.2.2) 22 (List.range k) (fun i hi=>hlq i (List.mem_range.1 hi))
 rw [List.length_range] at y6
 dsimp only
 (refine dcx ?_;try with_reducible exact True.intro)
 constructor
 ·intro hlt
  have hk':k < x.2.2.1.length:=by omega
  have e:putsW (putsW (putsW W3 ((List.range k).flatMap (qsP x.2.2.1 x.2.2.2))) (queueP (x.2.2.1.getD k (zeroD tQueue)))) (queueP (x.2.2.2.getD k (zeroD tQueue))) = putsW W3 ((List.range (k + 1)).flatMap (qsP x.2.2.1 x.2.2.2)):=by rw [rg_next,putsW_app];unfold qsP;rw [putsW_app]
  have e1:=putsW_len (putsW W3 ((List.range k).flatMap (qsP x.2.2.1 x.2.2.2))) _ (queueP_sz (x.2.2.1.getD k (zeroD tQueue)))
  have g0:=q3 k hk'
  have g1:=(pB_iff.1 g0.1).1
  have g2:=(pB_iff.1 g0.2).1
  have g3:=queueP_len (x.2.2.1.getD k (zeroD tQueue))
  (repeat' first | intro _ | (with_reducible apply And.intro))
  all_goals first | omega | (exact Nat.le_trans e1 (by omega)) | skip
  exact ⟨k + 1,by omega,by rw [← e];rfl⟩
 intro hge3 _
 obtain rfl:k = x.2.2.1.length:=by omega
 obtain ⟨W4,hW4⟩:∃ W,W = putsW W3 ((List.range x.2.2.1.length).flatMap (qsP x.2.2.1 x.2.2.2)):=⟨_,rfl⟩
 rw [← hW4] at y5 ⊢
 obtain ⟨t1,t2⟩:=pipe_text W4 h1 (by unfold pipeP;simp only [putsW_app];rw [hW4,hW3,hW2,hW1];rfl)
 refine ⟨fun h=>pipeS_big (by omega),fun h _=>t2 (by omega)⟩
theorem h_i_ShowPipe:Con.Holds Tryz.prog c_i_ShowPipe:=tree_ok mixedP (consAt h_i_PipeOk (consAt h_i_ShowVec (consAt h_i_writer_put (consAt h_i_ShowStage (consAt h_i_writer_queue (consAt h_i_writer_text consNil)))))) e_i_ShowPipe fun x hx hp=>v_i_ShowPipe x hx hp
noncomputable def c_s_ShowPipe:Con:=⟨79,tPipe,.str,[.val ⟨true,tPipe,[]⟩],[⟨false,.str,[0]⟩],false,none,
 ((fun _=>True):(PipeD)→Prop),
 ((fun x=>pipeS x):(PipeD)→(ByteArray))⟩
def t_s_ShowPipe:T :=
 .call 0 (.vr 0) <|
 .prim .not (.vr 1) <|
 .ite (.vr 2) (
  .ret (.cs ⟨#[]⟩)) (
  .prim (.llen 128 tPair) (.p1 tBatch (.pair (.slice 38 tStage) (.pair tQueues tQueues)) (.vr 0)) <|
  .prim (.llen 38 tStage) (pjA tPipe 1 (.vr 0)) <|
  .prim (.lit 3 tI 2) (.mk2 tI tI (.vr 3) (.vr 4)) <|
  .call 1 (.vr 5) <|
  .loop (.pair tI .str) (.mk2 tI .str (.ci .i64 0) (.vr 6)) <|
   .prim (.llen 128 tPair) (.p1 tBatch (.pair (.slice 38 tStage) (.pair tQueues tQueues)) (.vr 0)) <|
   .prim (.cmp .lss .i64) (.mk2 tI tI (.p1 tI .str (.vr 7)) (.vr 8)) <|
   .ite (.vr 9) (
    .prim (.lidx 128 tPair) (.mk2 tBatch tI (.p1 tBatch (.pair (.slice 38 tStage) (.pair tQueues tQueues)) (.vr 0)) (.p1 tI .str (.vr 7))) <|
    .prim (.lidx 128 tPair) (.mk2 tBatch tI (.p1 tBatch (.pair (.slice 38 tStage) (.pair tQueues tQueues)) (.vr 0)) (.p1 tI .str (.vr 7))) <|
    .call 1 (.p1 tInts tInts (.vr 10)) <|
    .prim .sadd (.mk2 .str .str (prA (.pair tI .str) 1 (.vr 7)) (.vr 12)) <|
    .call 1 (prA tPair 1 (.vr 11)) <|
    .prim .sadd (.mk2 .str .str (.vr 13) (.vr 14)) <|
    .prim (.ar .add .i64) (.mk2 tI tI (.p1 tI .str (.vr 7)) (.ci .i64 1)) <|
    .again 0 (.mk2 tI .str (.vr 16) (.vr 15))) (
    .loop (.pair tI .str) (.mk2 tI .str (.ci .i64 0) (prA (.pair tI .str) 1 (.vr 7))) <|
     .prim (.llen 38 tStage) (pjA tPipe 1 (.vr 0)) <|
     .prim (.cmp .lss .i64) (.mk2 tI tI (.p1 tI .str (.vr 10)) (.vr 11)) <|
     .ite (.vr 12) (
      .prim (.lidx 38 tStage) (.mk2 (.slice 38 tStage) tI (pjA tPipe 1 (.vr 0)) (.p1 tI .str (.vr 10))) <|
      .call 2 (.vr 13) <|
      .prim (.seq false) (.mk2 .str .str (.vr 14) (.cs ⟨#[]⟩)) <|
      .ite (.vr 15) (
       .ret (.cs ⟨#[]⟩)) (
       .prim .sadd (.mk2 .str .str (prA (.pair tI .str) 1 (.vr 10)) (.vr 14)) <|
       .prim (.ar .add .i64) (.mk2 tI tI (.p1 tI .str (.vr 10)) (.ci .i64 1)) <|
       .again 0 (.mk2 tI .str (.vr 17) (.vr 16)))) (
      .loop (.pair tI .str) (.mk2 tI .str (.ci .i64 0) (prA (.pair tI .str) 1 (.vr 10))) <|
       .prim (.llen 133 tQueue) (pjA tPipe 2 (.vr 0)) <|
       .prim (.cmp .lss .i64) (.mk2 tI tI (.p1 tI .str (.vr 13)) (.vr 14)) <|
       .ite (.vr 15) (
        .prim (.lidx 133 tQueue) (.mk2 tQueues tI (pjA tPipe 2 (.vr 0)) (.p1 tI .str (.vr 13))) <|
        .prim (.lidx 133 tQueue) (.mk2 tQueues tI (prA tPipe 3 (.vr 0)) (.p1 tI .str (.vr 13))) <|
        .call 3 (.vr 16) <|
        .prim .sadd (.mk2 .str .str (prA (.pair tI .str) 1 (.vr 13)) (.vr 18)) <|
        .call 3 (.vr 17) <|
        .prim .sadd (.mk2 .str .str (.vr 19) (.vr 20)) <|
        .prim (.ar .add .i64) (.mk2 tI tI (.p1 tI .str (.vr 13)) (.ci .i64 1)) <|
        .again 0 (.mk2 tI .str (.vr 22) (.vr 21))) (
        .prim .slen (prA (.pair tI .str) 1 (.vr 13)) <|
        .prim (.cmp .gtr .i64) (.mk2 tI tI (.vr 16) (.ci .i64 60000)) <|
        .ite (.vr 17) (
         .ret (.cs ⟨#[]⟩)) (
         .ret (prA (.pair tI .str) 1 (.vr 13)))))))
set_option maxRecDepth 100000 in
theorem e_s_ShowPipe:exFn Tryz.prog [c_s_PipeOk,c_s_ShowVec,c_s_ShowStage,c_s_l21Queue] c_s_ShowPipe false 3000 ⟨[(2986,2007,drd 18 8 ++ [.dr 0,.tm 4 0,.tm 3 0]),(2976,4010,drd 23 19 ++ [.dr 4,.tm 5 0,.tm 3 0]),(2966,8013,drd 47 43 ++ [.dr 5,.tm 7 0,.tm 3 0])],[]⟩ = .ok t_s_ShowPipe:=by kernel_rfl
theorem v_s_ShowPipe (x:PipeD) (hx:okD tPipe x) (hp:(fun _=>True) x):t_s_ShowPipe.wp [c_s_PipeOk,c_s_ShowVec,c_s_ShowStage,c_s_l21Queue] [⟨tPipe,x⟩] [] (fun v=>v.as .str = (fun x=>pipeS x) x):=by
 delta t_s_ShowPipe c_s_PipeOk c_s_ShowVec c_s_ShowStage c_s_l21Queue;refine vcx ?_;try with_reducible exact True.intro
 (refine dcx ?_;try with_reducible exact True.intro)
 refine ⟨fun h=>pipeS_no (by rw [h];decide),fun h1=>?_⟩
 obtain ⟨q1,q2,q3,q4⟩:=pB_iff.1 h1
 obtain ⟨W1,hW1⟩:∃ W,W = vecS [(x.1.length:Int),(x.2.1.length:Int)]:=⟨_,rfl⟩
 have z1:W1.size≤1608:=by rw [hW1];exact vecS_size _
 (repeat' first | intro _ | (with_reducible apply And.intro))
 refine ⟨fun s=>∃ k:Nat,k≤x.1.length∧s = ((k:Int),cat W1 ((x.1.take k).flatMap pairP)),fun s=>x.1.length - (s.1:Int).toNat,⟨0,by omega,by rw [hW1];rfl⟩,fun s _ hI=>?_⟩
 obtain ⟨k,hk,rfl⟩:=hI
 have y1:=cat_size W1 ((x.1.take k).flatMap pairP) (szP_fm _ pairP_sz)
 have y2:=fm_len pairP 2 (x.1.take k) (fun _ _=>Nat.le_refl _)
 rw [List.length_take] at y2
 dsimp only
 (refine dcx ?_;try with_reducible exact True.intro)
 intro _
 constructor
 ·intro hlt
  have hk':k < x.1.length:=by omega
  rw [getD_at hk']
  have e:cat W1 ((x.1.take k).flatMap pairP) ++ (vecS (x.1[k]'hk').1) ++ (vecS (x.1[k]'hk').2) = cat W1 ((x.1.take (k + 1)).flatMap pairP):=by rw [fm_next pairP x.1 hk',cat_app];rfl
  have e1:=vecS_size (x.1[k]'hk').1
  have e2:=vecS_size (x.1[k]'hk').2
  (repeat' first | intro _ | (with_reducible apply And.intro))
  all_goals first | omega | (unfold maxLen;(try rw [ba_size]);omega) | skip
  exact ⟨k + 1,by omega,by rw [← e];rfl⟩
 intro hge
 obtain rfl:k = x.1.length:=by omega
 rw [List.take_length] at y1 y2 ⊢
 obtain ⟨W2,hW2⟩:∃ W,W = cat W1 (x.1.flatMap pairP):=⟨_,rfl⟩
 rw [← hW2] at y1 ⊢
 refine ⟨fun s=>∃ k:Nat,k≤x.2.1.length∧s = ((k:Int),cat W2 ((x.2.1.take k).flatMap stP))∧∀ i,i < k→¬ stageS (x.2.1.getD i (zeroD tStage)) = ⟨#[]⟩,fun s=>x.2.1.length - (s.1:Int).toNat,⟨0,by omega,rfl,by omega⟩,fun s _ hI=>?_⟩
 obtain ⟨k,hk,rfl,ha⟩:=hI
 have y3:=cat_szB (B:=400000) W2 ((x.2.1.take k).flatMap stP) (fun p hp=>by rw [List.mem_flatMap] at hp;obtain ⟨a,_,hp⟩:=hp;unfold stP at hp;rw [List.mem_singleton] at hp;rw [hp];exact stageS_size a)
 have y4:=fm_len stP 1 (x.2.1.take k) (fun _ _=>Nat.le_refl _)
 rw [List.length_take] at y4
 dsimp only
 (refine dcx ?_;try with_reducible exact True.intro)
 intro _
 constructor
 ·intro hlt
  have hk':k < x.2.1.length:=by omega
  have e:cat W2 ((x.2.1.take k).flatMap stP) ++ (stageS (x.2.1.getD k (zeroD tStage))) = cat W2 ((x.2.1.take (k + 1)).flatMap stP):=by rw [fm_next stP x.2.1 hk',cat_app,getD_at hk'];rfl
  have e1:=stageS_size (x.2.1.getD k (zeroD tStage))
  (repeat' first | intro _ | (with_reducible apply And.intro))
  all_goals first | omega | (unfold maxLen;omega) | (exact pipeS_emp hk' (by first | assumption | exact Classical.not_not.1 (by assumption))) | skip
  exact ⟨k + 1,by omega,by rw [← e];rfl,nextA ha (by first | assumption | exact Classical.not_not.1 (by assumption))⟩
 intro hge2
 obtain rfl:k = x.2.1.length:=by omega
 rw [List.take_length] at y3 y4 ⊢
 obtain ⟨W3,hW3⟩:∃ W,W = cat W2 (x.2.1.flatMap stP):=⟨_,rfl⟩
 rw [← hW3] at y3 ⊢
 refine ⟨fun s=>∃ k:Nat,k≤x.2.2.1.length∧s = ((k:Int),cat W3 ((List.range k).flatMap (qsP x.2.2.1 x.2.2.2))),fun s=>x.2.2.1.length - (s.1:Int).toNat,⟨0,by omega,rfl⟩,fun s _ hI=>?_⟩
 obtain ⟨k,hk,rfl⟩:=hI
 have hlq:∀ i,i < k→(qsP x.2.2.1 x.2.2.2 i).length≤22:=fun i hi=>by
  have:=q3 i (by omega)
  have g1:=(pB_iff.1 this.1).1
  have g2:=(pB_iff.1 this.2).1
  have g3:=queueP_len (x.2.2.1.getD i (zeroD tQueue))
  have g4:=queueP_len (x.2.2.2.getD i (zeroD tQueue))
  unfold qsP;rw [List.length_append];omega
 have y5:=cat_size W3 ((List.range k).flatMap (qsP x.2.2.1 x.2.2.2)) (szP_fm _ (qsP_sz _ _))
 have y6:=fm_len (qsP x.2.2.1 x.2.2.2) 22 (List.range k) (fun i hi=>hlq i (List.mem_range.1 hi))
 rw [List.length_range] at y6
 dsimp only
 (refine dcx ?_;try with_reducible exact True.intro)
 intro _
 constructor
 ·intro hlt
  have hk':k < x.2.2.1.length:=by omega
  have e:cat W3 ((List.range k).flatMap (qsP x.2.2.1 x.2.2.2)) ++ cat ⟨#[]⟩ (queueP (x.2.2.1.getD k (zeroD tQueue))) ++ cat ⟨#[]⟩ (queueP (x.2.2.2.getD k (zeroD tQueue))) = cat W3 ((List.range (k + 1)).flatMap (qsP x.2.2.1 x.2.2.2)):=by
   rw [rg_next,cat_app];unfold qsP;rw [cat_app,cat_cat (cat _ _) (queueP (x.2.2.2.getD k (zeroD tQueue))),cat_cat (cat _ _) (queueP (x.2.2.1.getD k (zeroD tQueue)))]
  have e1:=cat_size ⟨#[]⟩ _ (queueP_sz (x.2.2.1.getD k (zeroD tQueue)))
  have e2:=cat_size ⟨#[]⟩ _ (queueP_sz (x.2.2.2.getD k (zeroD tQueue)))
  rw [show (⟨#[]⟩:ByteArray).size = 0 from rfl] at e1 e2
  have g0:=q3 k hk'
  have g1:=(pB_iff.1 g0.1).1
  have g2:=(pB_iff.1 g0.2).1
  have g3:=queueP_len (x.2.2.1.getD k (zeroD tQueue))
  have g4:=queueP_len (x.2.2.2.getD k (zeroD tQueue))
  (repeat' first | intro _ | (with_reducible apply And.intro))
  all_goals first | omega | (unfold maxLen;(try rw [ba_size]);omega) | skip
  exact ⟨k + 1,by omega,by rw [← e];rfl⟩
 intro hge3
 obtain rfl:k = x.2.2.1.length:=by omega
 have fin:cat W3 ((List.range x.2.2.1.length).flatMap (qsP x.2.2.1 x.2.2.2)) = cat ⟨#[]⟩ (pipeP x):=by
  unfold pipeP;simp only [cat_app];rw [hW3,hW2,hW1,cat_one,nil_app]
 rw [fin]
 have hst:(x.2.1.all fun s=>!isE (stageS s)) = true:=List.all_eq_true.2 fun s hs=>by
  obtain ⟨i,hi,rfl⟩:=List.getElem_of_mem hs
  have:=ha i hi
  rw [getD_at hi] at this
  unfold isE;rw [decide_eq_false this];rfl
 refine fun _=>⟨fun h=>?_,fun h=>?_⟩
 ·exact pipeS_big (by omega)
 ·unfold pipeS;rw [if_pos ⟨h1,hst,by omega⟩]
theorem h_s_ShowPipe:Con.Holds Tryz.prog c_s_ShowPipe:=tree_ok mixedP (consAt h_s_PipeOk (consAt h_s_ShowVec (consAt h_s_ShowStage (consAt h_s_l21Queue consNil)))) e_s_ShowPipe fun x hx hp=>v_s_ShowPipe x hx hp
end Go.Proofs.YtepjkojfjdcegaaGreat
