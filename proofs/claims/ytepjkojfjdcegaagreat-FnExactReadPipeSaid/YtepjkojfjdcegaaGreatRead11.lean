/- Read11: trees, and what they say. -/
import Derived.Test.YtepjkojfjdcegaaGreatRead10
namespace Go.Proofs.YtepjkojfjdcegaaGreat
open Go.ChangeShapes Go.WideShapes Go.ChangeAt Go.RowKit Go.Deep
set_option linter.unusedVariables false
set_option linter.unusedSimpArgs false
def pairF (r:RdD):PairD × RdD:=(((vecR r).1,(vecR (vecR r).2).1),(vecR (vecR r).2).2)
def qqF (r:RdD):(QueueD × QueueD) × RdD:=(((queueR r).1,(queueR (queueR r).2).1),(queueR (queueR r).2).2)
def P3 (a:List PairD) (b:List StageD) (ca cb:List QueueD) (q:List (QueueD × QueueD) × RdD):PipeD × RdD:=((a,b,ca ++ q.1.map Prod.fst,cb ++ q.1.map Prod.snd),q.2)
def P2 (h:List Int) (a:List PairD) (acc:List StageD) (q:List StageD × RdD):PipeD × RdD:=P3 a (acc ++ q.1) [] [] (loopR qqF (h.getD 1 0 - 1).toNat q.2)
def P1 (h:List Int) (acc:List PairD) (q:List PairD × RdD):PipeD × RdD:=P2 h (acc ++ q.1) [] (loopR stageR (h.getD 1 0).toNat q.2)
def pipeR (r:RdD):PipeD × RdD:=P1 (someR r 2).1 [] (loopR pairF ((someR r 2).1.getD 0 0).toNat (someR r 2).2)
def pairQ (s:ByteArray) (p:Int):PairD × Int:=(((vecP s p).1,(vecP s (vecP s p).2).1),(vecP s (vecP s p).2).2)
def qqQ (s:ByteArray) (p:Int):(QueueD × QueueD) × Int:=(((queueQ s p).1,(queueQ s (queueQ s p).2).1),(queueQ s (queueQ s p).2).2)
def P3Q (a:List PairD) (b:List StageD) (ca cb:List QueueD) (q:List (QueueD × QueueD) × Int):PipeD × Int:=((a,b,ca ++ q.1.map Prod.fst,cb ++ q.1.map Prod.snd),q.2)
def P2Q (s:ByteArray) (a:List PairD) (acc:List StageD) (q:List StageD × Int):PipeD × Int:=P3Q a (acc ++ q.1) [] [] (loopP (qqQ s) ((acc ++ q.1).length - 1) q.2)
def P1Q (s:ByteArray) (h:List Int) (acc:List PairD) (q:List PairD × Int):PipeD × Int:=P2Q s (acc ++ q.1) [] (loopP (stageQ s) (min (h.getD 1 0).toNat 4) q.2)
def pipeQ (s:ByteArray):PipeD × Int:=P1Q s (ofP s 2 0).1 [] (loopP (pairQ s) (min ((ofP s 2 0).1.getD 0 0).toNat 5) (ofP s 2 0).2)
def zPipe:PipeD:=zeroD tPipe
noncomputable def rdPI (s:ByteArray):PipeD × Bool:=if (pipeR (atR s 0)).2.2.2 = true∨s = ⟨#[]⟩∨¬ pipeS (pipeR (atR s 0)).1 = s then (zPipe,false) else ((pipeR (atR s 0)).1,true)
noncomputable def rdPS (s:ByteArray):PipeD × Bool:=if ¬ (pipeQ s).2 = (s.size:Int)∨s = ⟨#[]⟩∨¬ pipeS (pipeQ s).1 = s then (zPipe,false) else ((pipeQ s).1,true)
def qqP (q:QueueD × QueueD):List ByteArray:=queueP q.1 ++ queueP q.2
def zipQ (a b:List QueueD):List (QueueD × QueueD):=(List.range a.length).map fun i=>(a.getD i (zeroD tQueue),b.getD i (zeroD tQueue))
theorem map_getD {α:Type} (z:α) (a:List α):(List.range a.length).map (fun i=>a.getD i z) = a:=by
 apply List.ext_getElem
 ·rw [List.length_map,List.length_range]
 ·intro i h1 h2
  rw [List.getElem_map,List.getElem_range,getD_at h2]
theorem zip_1 (a b:List QueueD):(zipQ a b).map Prod.fst = a:=by
 unfold zipQ;rw [List.map_map];exact map_getD _ a
theorem zip_2 {a b:List QueueD} (h:a.length = b.length):(zipQ a b).map Prod.snd = b:=by
 unfold zipQ;rw [List.map_map,h];exact map_getD _ b
theorem rg_zip (a b:List QueueD):(List.range a.length).flatMap (qsP a b) = (zipQ a b).flatMap qqP:=by
 unfold zipQ;rw [List.flatMap_map];rfl
theorem st_cat:(l:List StageD)→(∀ a ∈ l,stageS a = cat ⟨#[]⟩ (stageP a))→cat ⟨#[]⟩ (l.flatMap stP) = cat ⟨#[]⟩ (l.flatMap stageP)
 | [],_=>rfl
 | x :: l,h=>by
  rw [List.flatMap_cons,List.flatMap_cons,catE_app,catE_app,st_cat l fun a ha=>h a (List.mem_cons_of_mem _ ha)]
  congr 1
  show cat ⟨#[]⟩ [stageS x] = _
  rw [cat_one,nil_app,h x List.mem_cons_self]
theorem fitQ_of {q:QueueD} (h:queueB q = true):fitQ q:=by
 have h1:=pB_iff.1 h
 refine ⟨okV_2 (by omega) (by omega),by omega,fun a ha=>?_⟩
 obtain ⟨i,hi,rfl⟩:=List.getElem_of_mem ha
 have h2:=(itemB_iff _).1 (h1.2 i hi)
 rw [getD_at hi] at h2
 exact ⟨okV_1 (by omega),okV_short h2.1⟩
theorem pairF_show {s:ByteArray} (a:PairD) (p:Nat) (ha:okV a.1 = true∧okV a.2 = true) (h:hasT s p (cat ⟨#[]⟩ (pairP a))):pairF (atR s p) = (a,atR s (p + (cat ⟨#[]⟩ (pairP a)).size)):=by
 unfold pairP at h ⊢
 rw [catE_cons,cat_one,nil_app] at h ⊢
 obtain ⟨h1,h2⟩:=hasT_app.1 h
 unfold pairF
 rw [vecR_show ha.1 h1]
 dsimp only
 rw [vecR_show ha.2 h2,ba_size,Nat.add_assoc]
theorem pairQ_show {s:ByteArray} (a:PairD) (p:Nat) (ha:okV a.1 = true∧okV a.2 = true) (h:hasT s p (cat ⟨#[]⟩ (pairP a))):pairQ s p = (a,((p + (cat ⟨#[]⟩ (pairP a)).size:Nat):Int)):=by
 unfold pairP at h ⊢
 rw [catE_cons,cat_one,nil_app] at h ⊢
 obtain ⟨h1,h2⟩:=hasT_app.1 h
 unfold pairQ
 rw [vecP_show ha.1 h1]
 dsimp only
 rw [vecP_show ha.2 h2,ba_size,Nat.add_assoc]
theorem qqF_show {s:ByteArray} (a:QueueD × QueueD) (p:Nat) (ha:fitQ a.1∧fitQ a.2) (h:hasT s p (cat ⟨#[]⟩ (qqP a))):qqF (atR s p) = (a,atR s (p + (cat ⟨#[]⟩ (qqP a)).size)):=by
 unfold qqP at h ⊢
 rw [catE_app] at h ⊢
 obtain ⟨h1,h2⟩:=hasT_app.1 h
 unfold qqF
 rw [queueR_show ha.1 h1]
 dsimp only
 rw [queueR_show ha.2 h2,ba_size,Nat.add_assoc]
theorem qqQ_show {s:ByteArray} (a:QueueD × QueueD) (p:Nat) (ha:fitQ a.1∧fitQ a.2) (h:hasT s p (cat ⟨#[]⟩ (qqP a))):qqQ s p = (a,((p + (cat ⟨#[]⟩ (qqP a)).size:Nat):Int)):=by
 unfold qqP at h ⊢
 rw [catE_app] at h ⊢
 obtain ⟨h1,h2⟩:=hasT_app.1 h
 unfold qqQ
 rw [queueQ_show ha.1 h1]
 dsimp only
 rw [queueQ_show ha.2 h2,ba_size,Nat.add_assoc]
theorem pipeP_cat {x:PipeD} (hs:∀ a ∈ x.2.1,stageS a = cat ⟨#[]⟩ (stageP a)):cat ⟨#[]⟩ (pipeP x) = vecS [(x.1.length:Int),(x.2.1.length:Int)] ++ (cat ⟨#[]⟩ (x.1.flatMap pairP) ++ (cat ⟨#[]⟩ (x.2.1.flatMap stageP) ++ cat ⟨#[]⟩ ((zipQ x.2.2.1 x.2.2.2).flatMap qqP))):=by
 unfold pipeP
 rw [rg_zip,catE_app,catE_app,catE_app,st_cat _ hs,cat_one,nil_app]
theorem pipe_fits {x:PipeD} (h:pipeB x = true):(∀ a ∈ x.1,okV a.1 = true∧okV a.2 = true)∧(∀ a ∈ zipQ x.2.2.1 x.2.2.2,fitQ a.1∧fitQ a.2)∧okV [(x.1.length:Int),(x.2.1.length:Int)] = true∧(zipQ x.2.2.1 x.2.2.2).length + 1 = x.2.1.length∧x.2.2.1.length = x.2.2.2.length∧x.1.length≤5∧x.2.1.length≤4:=by
 obtain ⟨q1,q2,q3,q4⟩:=pB_iff.1 h
 refine ⟨fun a ha=>?_,fun a ha=>?_,okV_2 (by omega) (by omega),?_,by omega,by omega,by omega⟩
 ·obtain ⟨i,hi,rfl⟩:=List.getElem_of_mem ha
  have h2:=q2 i hi
  rw [getD_at hi] at h2
  exact ⟨okV_short h2.1,okV_short h2.2⟩
 ·unfold zipQ at ha
  obtain ⟨i,hi,rfl⟩:=List.mem_map.1 ha
  have h2:=q3 i (List.mem_range.1 hi)
  exact ⟨fitQ_of h2.1,fitQ_of h2.2⟩
 ·unfold zipQ;rw [List.length_map,List.length_range];omega
theorem pipeR_show {s:ByteArray} {x:PipeD} (hb:pipeB x = true) (hs:∀ a ∈ x.2.1,fitS a∧stageS a = cat ⟨#[]⟩ (stageP a)) (h:hasT s 0 (cat ⟨#[]⟩ (pipeP x))):pipeR (atR s 0) = (x,atR s (0 + (cat ⟨#[]⟩ (pipeP x)).size)):=by
 obtain ⟨f1,f3,f0,fz,fe,_,_⟩:=pipe_fits hb
 rw [pipeP_cat fun a ha=>(hs a ha).2] at h ⊢
 obtain ⟨h0,h⟩:=hasT_app.1 h
 obtain ⟨h1,h⟩:=hasT_app.1 h
 obtain ⟨h2,h3⟩:=hasT_app.1 h
 unfold pipeR
 rw [someR_show (n:=2) f0 h0 rfl]
 dsimp only
 rw [show ([(x.1.length:Int),(x.2.1.length:Int)].getD 0 0).toNat = x.1.length from Int.toNat_natCast _,loopR_show pairF_show x.1 _ f1 h1]
 unfold P1
 dsimp only
 rw [show ([(x.1.length:Int),(x.2.1.length:Int)].getD 1 0).toNat = x.2.1.length from Int.toNat_natCast _,loopR_show (P:=fitS) (fun a p ha h=>stageR_show ha h) x.2.1 _ (fun a ha=>(hs a ha).1) h2]
 unfold P2
 dsimp only
 rw [show ([(x.1.length:Int),(x.2.1.length:Int)].getD 1 0 - 1).toNat = (zipQ x.2.2.1 x.2.2.2).length from by show ((x.2.1.length:Int) - 1).toNat = _;omega,loopR_show qqF_show (zipQ x.2.2.1 x.2.2.2) _ f3 h3]
 unfold P3
 dsimp only
 rw [zip_1,zip_2 fe]
 simp only [List.nil_append,ba_size,Nat.add_assoc]
theorem pipeQ_show {s:ByteArray} {x:PipeD} (hb:pipeB x = true) (hs:∀ a ∈ x.2.1,fitS a∧stageS a = cat ⟨#[]⟩ (stageP a)) (h:hasT s 0 (cat ⟨#[]⟩ (pipeP x))):pipeQ s = (x,((0 + (cat ⟨#[]⟩ (pipeP x)).size:Nat):Int)):=by
 obtain ⟨f1,f3,f0,fz,fe,g1,g2⟩:=pipe_fits hb
 rw [pipeP_cat fun a ha=>(hs a ha).2] at h ⊢
 obtain ⟨h0,h⟩:=hasT_app.1 h
 obtain ⟨h1,h⟩:=hasT_app.1 h
 obtain ⟨h2,h3⟩:=hasT_app.1 h
 unfold pipeQ
 rw [show ofP s 2 0 = _ from ofP_show (n:=2) f0 h0 rfl]
 dsimp only
 rw [show min ([(x.1.length:Int),(x.2.1.length:Int)].getD 0 0).toNat 5 = x.1.length from by show min ((x.1.length:Int)).toNat 5 = _;omega,loopP_show pairQ_show x.1 _ f1 h1]
 unfold P1Q
 dsimp only
 rw [show min ([(x.1.length:Int),(x.2.1.length:Int)].getD 1 0).toNat 4 = x.2.1.length from by show min ((x.2.1.length:Int)).toNat 4 = _;omega,loopP_show (P:=fitS) (fun a p ha h=>stageQ_show ha h) x.2.1 _ (fun a ha=>(hs a ha).1) h2]
 unfold P2Q
 dsimp only
 rw [List.nil_append,List.nil_append,show x.2.1.length - 1 = (zipQ x.2.2.1 x.2.2.2).length by omega,loopP_show qqQ_show (zipQ x.2.2.1 x.2.2.2) _ f3 h3]
 unfold P3Q
 dsimp only
 rw [zip_1,zip_2 fe]
 simp only [List.nil_append,ba_size,Nat.add_assoc]
theorem pipeS_fit {s:ByteArray} {x:PipeD} (h:pipeS x = s) (hs:¬ s = ⟨#[]⟩):pipeB x = true∧(∀ a ∈ x.2.1,fitS a∧stageS a = cat ⟨#[]⟩ (stageP a))∧cat ⟨#[]⟩ (pipeP x) = s:=by
 unfold pipeS at h
 split at h
 ·rename_i h1
  refine ⟨h1.1,fun a ha=>stageS_fit fun he=>?_,h⟩
  have h2:=List.all_eq_true.1 h1.2.1 a ha
  unfold isE at h2
  rw [he] at h2
  exact absurd h2 (by decide)
 ·exact absurd h.symm hs
theorem hasT_all (s:ByteArray):hasT s 0 s:=⟨by omega,fun i _=>by rw [Nat.zero_add]⟩
theorem rdP_eq (s:ByteArray):rdPI s = rdPS s:=by
 by_cases he:s = ⟨#[]⟩
 ·unfold rdPI rdPS;rw [if_pos (.inr (.inl he)),if_pos (.inr (.inl he))]
 by_cases hE:∃ x,pipeS x = s
 ·obtain ⟨x,hx⟩:=hE
  obtain ⟨f1,f2,f3⟩:=pipeS_fit hx he
  have h1:=pipeR_show f1 f2 (f3 ▸ hasT_all s)
  have h2:=pipeQ_show f1 f2 (f3 ▸ hasT_all s)
  rw [f3] at h1 h2
  unfold rdPI rdPS
  rw [h1,h2,if_neg,if_neg]
  ·rintro (h | h | h)
   ·exact h (by show ((0 + s.size:Nat):Int) = _;omega)
   ·exact he h
   ·exact h hx
  ·rintro (h | h | h)
   ·cases h
   ·exact he h
   ·exact h hx
 ·unfold rdPI rdPS
  rw [if_pos (.inr (.inr fun h=>hE ⟨_,h⟩)),if_pos (.inr (.inr fun h=>hE ⟨_,h⟩))]
theorem pairF_P {r:RdD} (h:RdP r):RdP (pairF r).2∧(pairF r).2.1 = r.1:=by
 have h1:=vecR_P h
 have h2:=vecR_P h1.1
 exact ⟨h2.1,h2.2.trans h1.2⟩
theorem qqF_P {r:RdD} (h:RdP r):RdP (qqF r).2∧(qqF r).2.1 = r.1:=by
 have h1:=queueR_P h
 have h2:=queueR_P h1.1
 exact ⟨h2.1,h2.2.trans h1.2⟩
theorem pairQ_G (s:ByteArray):GdQ s (pairQ s):=fun p hp=>GdQ_comp (vecP_G s) (vecP_G s) hp
theorem qqQ_G (s:ByteArray):GdQ s (qqQ s):=fun p hp=>GdQ_comp (queueQ_G s) (queueQ_G s) hp
end Go.Proofs.YtepjkojfjdcegaaGreat
