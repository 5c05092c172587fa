/- Read10: trees, and what they say. -/
import Derived.Test.YtepjkojfjdcegaaGreatShow4
import Derived.Test.YtepjkojfjdcegaaGreatRead9
namespace Go.Proofs.YtepjkojfjdcegaaGreat
open Go.ChangeShapes Go.WideShapes Go.ChangeAt Go.RowKit Go.Deep
set_option linter.unusedVariables false
set_option linter.unusedSimpArgs false
def itF (r:RdD):ItemD × RdD:=(((someR r 1).1.getD 0 0,(vecR (someR r 1).2).1),(vecR (someR r 1).2).2)
def KU (h:List Int) (acc:List ItemD) (q:List ItemD × RdD):QueueD × RdD:=((h.getD 0 0,acc ++ q.1),q.2)
def queueR (r:RdD):QueueD × RdD:=KU (someR r 2).1 [] (loopR itF ((someR r 2).1.getD 1 0).toNat (someR r 2).2)
def itQ (s:ByteArray) (p:Int):ItemD × Int:=(((ofP s 1 p).1.getD 0 0,(vecP s (ofP s 1 p).2).1),(vecP s (ofP s 1 p).2).2)
def KUQ (h:List Int) (acc:List ItemD) (q:List ItemD × Int):QueueD × Int:=((h.getD 0 0,acc ++ q.1),q.2)
def queueQ (s:ByteArray) (p:Int):QueueD × Int:=KUQ (ofP s 2 p).1 [] (loopP (itQ s) (min ((ofP s 2 p).1.getD 1 0).toNat 5) (ofP s 2 p).2)
theorem itF_P {r:RdD} (h:RdP r):RdP (itF r).2∧(itF r).2.1 = r.1:=by
 have h1:=someR_P 1 h
 have h2:=vecR_P h1.1
 exact ⟨h2.1,h2.2.trans h1.2⟩
theorem queueR_P {r:RdD} (h:RdP r):RdP (queueR r).2∧(queueR r).2.1 = r.1:=by
 have h0:=someR_P 2 h
 have h1:=loopR_P (fun r h=>itF_P h) ((someR r 2).1.getD 1 0).toNat h0.1
 exact ⟨h1.1,h1.2.trans h0.2⟩
theorem itQ_G (s:ByteArray):GdQ s (itQ s):=fun p hp=>GdQ_comp (ofP_G s 1) (vecP_G s) hp
theorem queueQ_G (s:ByteArray):GdQ s (queueQ s):=fun p hp=>by
 have h1:=ofP_G s 2 p hp
 have h2:=loopP_G (itQ_G s) (min ((ofP s 2 p).1.getD 1 0).toNat 5) _ h1.1
 exact ⟨h2.1,fun h=>by have h3:=h2.2 h;have h4:=h1.2 h3.1;exact ⟨h4.1,Int.le_trans h4.2 h3.2⟩⟩
def fitQ (q:QueueD):Prop:=okV [q.1,(q.2.length:Int)] = true∧q.2.length≤5∧∀ a ∈ q.2,okV [a.1] = true∧okV a.2 = true
theorem itF_show {s:ByteArray} (a:ItemD) (p:Nat) (ha:okV [a.1] = true∧okV a.2 = true) (h:hasT s p (cat ⟨#[]⟩ (itP a))):itF (atR s p) = (a,atR s (p + (cat ⟨#[]⟩ (itP a)).size)):=by
 unfold itP at h ⊢
 rw [catE_cons,cat_one,nil_app] at h ⊢
 obtain ⟨h1,h2⟩:=hasT_app.1 h
 unfold itF
 rw [someR_show (n:=1) ha.1 h1 rfl]
 dsimp only
 rw [vecR_show ha.2 h2,ba_size,Nat.add_assoc];rfl
theorem itQ_show {s:ByteArray} (a:ItemD) (p:Nat) (ha:okV [a.1] = true∧okV a.2 = true) (h:hasT s p (cat ⟨#[]⟩ (itP a))):itQ s p = (a,((p + (cat ⟨#[]⟩ (itP a)).size:Nat):Int)):=by
 unfold itP at h ⊢
 rw [catE_cons,cat_one,nil_app] at h ⊢
 obtain ⟨h1,h2⟩:=hasT_app.1 h
 unfold itQ
 rw [ofP_show (n:=1) ha.1 h1 rfl]
 dsimp only
 rw [vecP_show ha.2 h2,ba_size,Nat.add_assoc];rfl
theorem queueR_show {s:ByteArray} {p:Nat} {q:QueueD} (hq:fitQ q) (h:hasT s p (cat ⟨#[]⟩ (queueP q))):queueR (atR s p) = (q,atR s (p + (cat ⟨#[]⟩ (queueP q)).size)):=by
 unfold queueP at h ⊢
 rw [catE_cons] at h ⊢
 obtain ⟨h1,h2⟩:=hasT_app.1 h
 unfold queueR
 rw [someR_show (n:=2) hq.1 h1 rfl]
 dsimp only
 rw [show ([q.1,(q.2.length:Int)].getD 1 0).toNat = q.2.length from Int.toNat_natCast _,loopR_show itF_show q.2 _ hq.2.2 h2,ba_size,Nat.add_assoc];rfl
theorem queueQ_show {s:ByteArray} {p:Nat} {q:QueueD} (hq:fitQ q) (h:hasT s p (cat ⟨#[]⟩ (queueP q))):queueQ s p = (q,((p + (cat ⟨#[]⟩ (queueP q)).size:Nat):Int)):=by
 unfold queueP at h ⊢
 rw [catE_cons] at h ⊢
 obtain ⟨h1,h2⟩:=hasT_app.1 h
 unfold queueQ
 rw [ofP_show (n:=2) hq.1 h1 rfl]
 dsimp only
 rw [show min ([q.1,(q.2.length:Int)].getD 1 0).toNat 5 = q.2.length from by show min ((q.2.length:Int)).toNat 5 = _;rw [Int.toNat_natCast];exact Nat.min_eq_left hq.2.1,loopP_show itQ_show q.2 _ hq.2.2 h2,ba_size,Nat.add_assoc];rfl
noncomputable def c_i_reader_queue:Con:=⟨81,(.pair .str (.pair tI .bool)),(.pair tQueue (.pair .str (.pair tI .bool))),[.box 79 ⟨true,(.pair .str (.pair tI .bool)),[]⟩],[⟨true,tQueue,[0,1]⟩],false,none,
 ((fun x=>RdP x):((ByteArray) × (Int × Bool))→Prop),
 ((fun x=>queueR x):((ByteArray) × (Int × Bool))→(QueueD × ((ByteArray) × (Int × Bool))))⟩
def t_i_reader_queue:T :=
 .call 0 (.mk2 (.pair .str (.pair tI .bool)) tI (.vr 0) (.ci .i64 2)) <|
 .prim (.lidx 3 tI) (.mk2 tInts tI (.p1 tInts (.pair .str (.pair tI .bool)) (.vr 1)) (.ci .i64 0)) <|
 .prim (.lidx 3 tI) (.mk2 tInts tI (.p1 tInts (.pair .str (.pair tI .bool)) (.vr 1)) (.ci .i64 0)) <|
 .loop (.pair tI (.pair (.slice 179 tItem) (.pair .str (.pair tI .bool)))) (mkA (.pair tI (.pair (.slice 179 tItem) (.pair .str (.pair tI .bool)))) [(.ci .i64 0),(.nl 179 tItem),(prA (.pair tInts (.pair .str (.pair tI .bool))) 1 (.vr 1))]) <|
  .prim (.lidx 3 tI) (.mk2 tInts tI (.p1 tInts (.pair .str (.pair tI .bool)) (.vr 1)) (.ci .i64 1)) <|
  .prim (.lidx 3 tI) (.mk2 tInts tI (.p1 tInts (.pair .str (.pair tI .bool)) (.vr 1)) (.ci .i64 1)) <|
  .prim (.cmp .lss .i64) (.mk2 tI tI (.p1 tI (.pair (.slice 179 tItem) (.pair .str (.pair tI .bool))) (.vr 4)) (.vr 6)) <|
  .ite (.vr 7) (
   .prim .not (prA (.pair tI (.pair (.slice 179 tItem) (.pair .str (.pair tI .bool)))) 4 (.vr 4)) <|
   .ite (.vr 8) (
    .call 0 (.mk2 (.pair .str (.pair tI .bool)) tI (prA (.pair tI (.pair (.slice 179 tItem) (.pair .str (.pair tI .bool)))) 2 (.vr 4)) (.ci .i64 1)) <|
    .call 1 (prA (.pair tInts (.pair .str (.pair tI .bool))) 1 (.vr 9)) <|
    .prim (.lidx 3 tI) (.mk2 tInts tI (.p1 tInts (.pair .str (.pair tI .bool)) (.vr 9)) (.ci .i64 0)) <|
    .prim (.lidx 3 tI) (.mk2 tInts tI (.p1 tInts (.pair .str (.pair tI .bool)) (.vr 9)) (.ci .i64 0)) <|
    .prim (.lit 179 tItem 1) (.mk2 tI tInts (.vr 12) (.p1 tInts (.pair .str (.pair tI .bool)) (.vr 10))) <|
    .prim (.lapp 179 tItem 32) (.mk2 (.slice 179 tItem) (.slice 179 tItem) (pjA (.pair tI (.pair (.slice 179 tItem) (.pair .str (.pair tI .bool)))) 1 (.vr 4)) (.vr 13)) <|
    .prim (.ar .add .i64) (.mk2 tI tI (.p1 tI (.pair (.slice 179 tItem) (.pair .str (.pair tI .bool))) (.vr 4)) (.ci .i64 1)) <|
    .again 0 (mkA (.pair tI (.pair (.slice 179 tItem) (.pair .str (.pair tI .bool)))) [(.vr 15),(.vr 14),(prA (.pair tInts (.pair .str (.pair tI .bool))) 1 (.vr 10))])) (
    .ret (.mk2 tQueue (.pair .str (.pair tI .bool)) (.mk2 tI (.slice 179 tItem) (.vr 3) (pjA (.pair tI (.pair (.slice 179 tItem) (.pair .str (.pair tI .bool)))) 1 (.vr 4))) (prA (.pair tI (.pair (.slice 179 tItem) (.pair .str (.pair tI .bool)))) 2 (.vr 4))))) (
   .ret (.mk2 tQueue (.pair .str (.pair tI .bool)) (.mk2 tI (.slice 179 tItem) (.vr 3) (pjA (.pair tI (.pair (.slice 179 tItem) (.pair .str (.pair tI .bool)))) 1 (.vr 4))) (prA (.pair tI (.pair (.slice 179 tItem) (.pair .str (.pair tI .bool)))) 2 (.vr 4))))
set_option maxRecDepth 100000 in
theorem e_i_reader_queue:exFn Tryz.prog [c_i_reader_some,c_i_reader_vec] c_i_reader_queue false 3000 ⟨[(2989,1004,drd 13 8 ++ [.tm 5 0,.sl 7,.bx 1 0,.bx 1 1,.bx 1 2])],[(2977,7011,[],[9])]⟩ = .ok t_i_reader_queue:=by kernel_rfl
set_option maxHeartbeats 4000000 in
theorem v_i_reader_queue (x:(ByteArray) × (Int × Bool)) (hx:okD (.pair .str (.pair tI .bool)) x) (hp:(fun x=>RdP x) x):t_i_reader_queue.wp [c_i_reader_some,c_i_reader_vec] [⟨(.pair .str (.pair tI .bool)),x⟩] [] (fun v=>v.as (.pair tQueue (.pair .str (.pair tI .bool))) = (fun x=>queueR x) x):=by
 have hp:RdP x:=hp
 delta t_i_reader_queue c_i_reader_some c_i_reader_vec;refine vcx ?_;try with_reducible exact True.intro
 have h8:=someR_len (r:=x) (show 0≤(2:Int) by decide)
 have hP:=someR_P 2 hp
 have n5:=someR_in (r:=x) (n:=2) (i:=1)
 have hv0:queueR x = KU (someR x 2).1 [] (loopR itF ((someR x 2).1.getD 1 0).toNat (someR x 2).2):=rfl
 simp only [Int.toNat_natCast,Bool.not_eq_true',Bool.not_eq_false',Bool.and_eq_true,Bool.and_eq_false_iff,decide_eq_true_eq,decide_eq_false_iff_not,Int.not_lt,Int.not_le,ge_iff_le,gt_iff_lt,List.length_cons,List.length_nil,List.length_append,Nat.zero_add,List.nil_append,beq_iff_eq,beq_eq_false_iff_ne,bne_iff_ne,bne_eq_false_iff_eq,ne_eq,toNat_pred,toNat_succ,toNat_l0,toNat_l1,Int.reduceToNat]
 generalize (someR x 2).1 = H at *
 generalize (someR x 2).2 = r0 at *
 (repeat' first | intro _ | (with_reducible apply And.intro))
 all_goals first | omega | exact hp | skip
 have z5:H.getD 1 (zeroD tI) = H.getD 1 0:=rfl
 rw [z5]
 refine ⟨fun t=>∃ k:Nat,t.1 = (k:Int)∧(t.2.1:List ItemD).length = k∧(k:Int)≤max 0 (H.getD 1 0)∧RdP t.2.2∧queueR x = KU H t.2.1 (loopR itF ((H.getD 1 0).toNat - k) t.2.2),fun t=>(H.getD 1 0 - (t.1:Int)).toNat,⟨0,rfl,rfl,by omega,hP.1,hv0⟩,fun t _ hI=>?_⟩
 obtain ⟨i,a1,r1⟩:Int × (List ItemD × RdD):=t
 obtain ⟨k1,rfl,hl,hk,hPr1,hvr1⟩:=hI
 dsimp only at hl hk hPr1 hvr1 ⊢
 refine ⟨by omega,fun _=>⟨by omega,fun _=>⟨fun hlt=>⟨fun hb=>?_,fun hb=>?_⟩,fun hge=>?_⟩⟩⟩
 ·obtain ⟨m,hm⟩:∃ m,(H.getD 1 0).toNat - k1 = m + 1:=⟨(H.getD 1 0).toNat - k1 - 1,by omega⟩
  rw [hm,loopR_go itF m hb] at hvr1
  have hs1:=someR_len (r:=r1) (show 0≤(1:Int) by decide)
  have hp1:=someR_P 1 hPr1
  (repeat' first | intro _ | (with_reducible apply And.intro))
  all_goals first | omega | exact hPr1 | exact hp1.1 | (unfold maxLen;omega) | skip
  refine ⟨k1 + 1,rfl,by (first | omega | (simp only [List.length_append,List.length_cons,List.length_nil];omega)),by omega,(itF_P hPr1).1,?_⟩
  rw [show (H.getD 1 0).toNat - (k1 + 1) = m by omega,hvr1]
  show KU H a1 ((itF r1).1 :: _,_) = KU H (a1 ++ [(itF r1).1]) _
  unfold KU;simp only [List.append_assoc,List.singleton_append];rfl
 all_goals
  first | rw [loopR_bad itF _ hb] at hvr1 | rw [show (H.getD 1 0).toNat - k1 = 0 by omega] at hvr1
  rw [hvr1];unfold KU;simp only [List.append_nil,loopR];rfl
set_option maxHeartbeats 4000000 in
theorem h_i_reader_queue:Con.Holds Tryz.prog c_i_reader_queue:=tree_ok mixedP (consAt h_i_reader_some (consAt h_i_reader_vec consNil)) e_i_reader_queue fun x hx hp=>v_i_reader_queue x hx hp
noncomputable def c_s_l21ReadQueue:Con:=⟨78,(.pair .str tI),(.pair tQueue tI),[.val ⟨false,.str,[]⟩,.val ⟨false,tI,[]⟩],[⟨true,tQueue,[0,2]⟩,⟨false,tI,[0]⟩],false,none,
 ((fun x=>PB x.1 x.2):((ByteArray) × Int)→Prop),
 ((fun x=>queueQ x.1 x.2):((ByteArray) × Int)→(QueueD × Int))⟩
def t_s_l21ReadQueue:T :=
 .call 0 (mkA (.pair .str tIns) [(.p1 .str tI (.vr 0)),(prA (.pair .str tI) 1 (.vr 0)),(.ci .i64 2)]) <|
 .prim (.lidx 3 tI) (.mk2 tInts tI (.p1 tInts tI (.vr 1)) (.ci .i64 0)) <|
 .prim (.lidx 3 tI) (.mk2 tInts tI (.p1 tInts tI (.vr 1)) (.ci .i64 0)) <|
 .loop (.pair tI tQueue) (mkA (.pair tI tQueue) [(.ci .i64 0),(prA (.pair tInts tI) 1 (.vr 1)),(.nl 179 tItem)]) <|
  .prim (.lidx 3 tI) (.mk2 tInts tI (.p1 tInts tI (.vr 1)) (.ci .i64 1)) <|
  .prim (.lidx 3 tI) (.mk2 tInts tI (.p1 tInts tI (.vr 1)) (.ci .i64 1)) <|
  .prim (.cmp .lss .i64) (.mk2 tI tI (.p1 tI tQueue (.vr 4)) (.vr 6)) <|
  .ite (.vr 7) (
   .prim (.cmp .lss .i64) (.mk2 tI tI (.p1 tI tQueue (.vr 4)) (.ci .i64 5)) <|
   .ite (.vr 8) (
    .prim (.cmp .geq .i64) (.mk2 tI tI (pjA (.pair tI tQueue) 1 (.vr 4)) (.ci .i64 0)) <|
    .ite (.vr 9) (
     .call 0 (mkA (.pair .str tIns) [(.p1 .str tI (.vr 0)),(pjA (.pair tI tQueue) 1 (.vr 4)),(.ci .i64 1)]) <|
     .call 1 (.mk2 .str tI (.p1 .str tI (.vr 0)) (prA (.pair tInts tI) 1 (.vr 10))) <|
     .prim (.lidx 3 tI) (.mk2 tInts tI (.p1 tInts tI (.vr 10)) (.ci .i64 0)) <|
     .prim (.lidx 3 tI) (.mk2 tInts tI (.p1 tInts tI (.vr 10)) (.ci .i64 0)) <|
     .prim (.lit 179 tItem 1) (.mk2 tI tInts (.vr 13) (.p1 tInts tI (.vr 11))) <|
     .prim (.lapp 179 tItem 32) (.mk2 (.slice 179 tItem) (.slice 179 tItem) (prA (.pair tI tQueue) 2 (.vr 4)) (.vr 14)) <|
     .prim (.ar .add .i64) (.mk2 tI tI (.p1 tI tQueue (.vr 4)) (.ci .i64 1)) <|
     .again 0 (mkA (.pair tI tQueue) [(.vr 16),(prA (.pair tInts tI) 1 (.vr 11)),(.vr 15)])) (
     .ret (.mk2 tQueue tI (.mk2 tI (.slice 179 tItem) (.vr 3) (prA (.pair tI tQueue) 2 (.vr 4))) (pjA (.pair tI tQueue) 1 (.vr 4))))) (
    .ret (.mk2 tQueue tI (.mk2 tI (.slice 179 tItem) (.vr 3) (prA (.pair tI tQueue) 2 (.vr 4))) (pjA (.pair tI tQueue) 1 (.vr 4))))) (
   .ret (.mk2 tQueue tI (.mk2 tI (.slice 179 tItem) (.vr 3) (prA (.pair tI tQueue) 2 (.vr 4))) (pjA (.pair tI tQueue) 1 (.vr 4))))
set_option maxRecDepth 100000 in
theorem e_s_l21ReadQueue:exFn Tryz.prog [c_s_l21Of,c_s_l21Vec] c_s_l21ReadQueue false 3000 ⟨[(2989,1004,drd 23 18 ++ [.dr 14] ++ drd 17 15 ++ [.dr 1,.tm 9 0,.tm 7 0,.sl 6])],[(2976,15012,[],[8])]⟩ = .ok t_s_l21ReadQueue:=by kernel_rfl
set_option maxHeartbeats 4000000 in
theorem v_s_l21ReadQueue (x:(ByteArray) × Int) (hx:okD (.pair .str tI) x) (hp:(fun x=>PB x.1 x.2) x):t_s_l21ReadQueue.wp [c_s_l21Of,c_s_l21Vec] [⟨(.pair .str tI),x⟩] [] (fun v=>v.as (.pair tQueue tI) = (fun x=>queueQ x.1 x.2) x):=by
 obtain ⟨s,p⟩:=x
 have hp:PB s p:=hp
 delta t_s_l21ReadQueue c_s_l21Of c_s_l21Vec;refine vcx ?_;try with_reducible exact True.intro
 have h8:=ofP_len (s:=s) (p:=p) (show 0≤(2:Int) by decide)
 have g0:=ofP_G s 2 p hp
 have hv0:queueQ s p = KUQ (ofP s 2 p).1 [] (loopP (itQ s) (min ((ofP s 2 p).1.getD 1 0).toNat 5) (ofP s 2 p).2):=rfl
 simp only [Int.toNat_natCast,Bool.not_eq_true',Bool.not_eq_false',Bool.and_eq_true,Bool.and_eq_false_iff,decide_eq_true_eq,decide_eq_false_iff_not,Int.not_lt,Int.not_le,ge_iff_le,gt_iff_lt,List.length_cons,List.length_nil,List.length_append,Nat.zero_add,List.nil_append,beq_iff_eq,beq_eq_false_iff_ne,bne_iff_ne,bne_eq_false_iff_eq,ne_eq,toNat_pred,toNat_succ,toNat_l0,toNat_l1,Int.reduceToNat]
 generalize (ofP s 2 p).1 = H at *
 generalize (ofP s 2 p).2 = p0 at *
 (repeat' first | intro _ | (with_reducible apply And.intro))
 all_goals first | omega | exact hp | skip
 have z5:H.getD 1 (zeroD tI) = H.getD 1 0:=rfl
 rw [z5]
 refine ⟨fun t=>∃ k:Nat,t.1 = (k:Int)∧(t.2.2:List ItemD).length = k∧k≤min (H.getD 1 0).toNat 5∧PB s t.2.1∧queueQ s p = KUQ H t.2.2 (loopP (itQ s) (min (H.getD 1 0).toNat 5 - k) t.2.1),fun t=>(5 - (t.1:Int)).toNat,⟨0,rfl,rfl,by omega,g0.1,hv0⟩,fun t _ hI=>?_⟩
 obtain ⟨i,r1,a1⟩:Int × (Int × List ItemD):=t
 obtain ⟨k1,rfl,hl,hk,hPr1,hvr1⟩:=hI
 dsimp only at hl hk hPr1 hvr1 ⊢
 have hPar1:-1≤r1:=hPr1.1
 have hPbr1:r1≤(s.size:Int):=hPr1.2
 have ex:(H.getD 1 0).toNat≤k1∨5≤k1∨r1 < 0→((H.getD 0 0,a1),r1) = queueQ s p:=fun h=>by
  rw [hvr1]
  by_cases h0:r1 < 0
  ·rw [loopP_bad _ _ h0];unfold KUQ;simp
  ·rw [show min (H.getD 1 0).toNat 5 - k1 = 0 by omega];unfold KUQ;simp [loopP]
 refine ⟨by omega,fun _=>⟨by omega,fun _=>⟨fun ha=>⟨fun hb=>⟨fun hc=>?_,fun hc=>ex (.inr (.inr (by omega)))⟩,fun hb=>ex (.inr (.inl (by omega)))⟩,fun ha=>ex (.inl (by omega))⟩⟩⟩
 obtain ⟨m,hm⟩:∃ m,(min (H.getD 1 0).toNat 5 - k1) = m + 1:=⟨(min (H.getD 1 0).toNat 5 - k1) - 1,by omega⟩
 rw [hm,loopP_go _ m hc] at hvr1
 have hs1:=ofP_len (s:=s) (p:=r1) (show 0≤(1:Int) by decide)
 have hp1:=ofP_G s 1 r1 hPr1
 have hpa:-1≤(ofP s 1 r1).2:=hp1.1.1
 have hpb:(ofP s 1 r1).2≤(s.size:Int):=hp1.1.2
 (repeat' first | intro _ | (with_reducible apply And.intro))
 all_goals first | omega | exact hPr1 | exact hp1.1 | (unfold maxLen;omega) | skip
 refine ⟨k1 + 1,rfl,by (first | omega | (simp only [List.length_append,List.length_cons,List.length_nil];omega)),by omega,(itQ_G s r1 hPr1).1,?_⟩
 rw [show min (H.getD 1 0).toNat 5 - (k1 + 1) = m by omega,hvr1]
 show KUQ H a1 ((itQ s r1).1 :: _,_) = KUQ H (a1 ++ [(itQ s r1).1]) _
 unfold KUQ;simp only [List.append_assoc,List.singleton_append];rfl
set_option maxHeartbeats 4000000 in
theorem h_s_l21ReadQueue:Con.Holds Tryz.prog c_s_l21ReadQueue:=tree_ok mixedP (consAt h_s_l21Of (consAt h_s_l21Vec consNil)) e_s_l21ReadQueue fun x hx hp=>v_s_l21ReadQueue x hx hp
end Go.Proofs.YtepjkojfjdcegaaGreat
