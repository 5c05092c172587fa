/- Parse5: trees, and what they say. -/
import Derived.Test.YtepjkojfjdcegaaGreatRead2
import Derived.Test.YtepjkojfjdcegaaGreatShow3
namespace Go.Proofs.YtepjkojfjdcegaaGreat
open Go.ChangeShapes Go.WideShapes Go.ChangeAt Go.RowKit Go.Deep
set_option linter.unusedVariables false
set_option linter.unusedSimpArgs false
theorem catE_cons (x:ByteArray) (l:List ByteArray):cat ⟨#[]⟩ (x :: l) = x ++ cat ⟨#[]⟩ l:=by
 show cat (⟨#[]⟩ ++ x) l = _
 rw [nil_app,cat_cat]
theorem catE_app (a b:List ByteArray):cat ⟨#[]⟩ (a ++ b) = cat ⟨#[]⟩ a ++ cat ⟨#[]⟩ b:=by rw [cat_app,cat_cat]
def hasT (s:ByteArray) (p:Nat) (t:ByteArray):Prop:=p + t.size≤s.size∧∀ i,i < t.size→s.data[p + i]? = t.data[i]?
theorem hasT_app {s:ByteArray} {p:Nat} {a b:ByteArray}:hasT s p (a ++ b)↔hasT s p a∧hasT s (p + a.size) b:=by
 unfold hasT
 rw [ba_size]
 constructor
 ·rintro ⟨h1,h2⟩
  refine ⟨⟨by omega,fun i hi=>?_⟩,by omega,fun i hi=>?_⟩
  ·rw [h2 i (by omega),ByteArray.data_append,Array.getElem?_append_left hi]
  ·rw [show p + a.size + i = p + (a.size + i) by omega,h2 (a.size + i) (by omega),ByteArray.data_append,Array.getElem?_append_right (by show a.data.size≤_;exact Nat.le_add_right _ _)]
   congr 1
   show a.data.size + i - a.data.size = i
   omega
 ·rintro ⟨⟨h1,h2⟩,h3,h4⟩
  refine ⟨by omega,fun i hi=>?_⟩
  by_cases hia:i < a.size
  ·rw [h2 i hia,ByteArray.data_append,Array.getElem?_append_left hia]
  ·have:=h4 (i - a.size) (by omega)
   rw [show p + a.size + (i - a.size) = p + i by omega] at this
   rw [this,ByteArray.data_append,Array.getElem?_append_right (by show a.data.size≤_;exact Nat.le_of_not_lt hia)]
   rfl
theorem hasT_ext {s:ByteArray} {p:Nat} {t:ByteArray} (h:hasT s p t):s.extract p (p + t.size) = t:=by
 apply ByteArray.ext
 apply Array.ext_getElem?
 intro i
 rw [ByteArray.data_extract,Array.getElem?_extract]
 have hs:s.data.size = s.size:=rfl
 have ht:t.data.size = t.size:=rfl
 split
 ·exact h.2 i (by omega)
 ·rw [Array.getElem?_eq_none (by have:=h.1;omega)]
theorem byteOf_has {s t:ByteArray} {p i:Nat} (h:hasT s p t) (hi:i < t.size):byteOf s ((p + i:Nat):Int) = byteOf t (i:Int):=by
 unfold byteOf
 rw [Int.toNat_natCast,Int.toNat_natCast,h.2 i hi]
theorem byteOf_tail {s:ByteArray} {a k:Nat} (h:a + k < s.size):byteOf (s.extract a s.size) (k:Int) = byteOf s ((a + k:Nat):Int):=by
 unfold byteOf
 rw [Int.toNat_natCast,Int.toNat_natCast,ByteArray.data_extract,Array.getElem?_extract,if_pos]
 have hs:s.data.size = s.size:=rfl
 omega
theorem fixS_7 {m:Int} (h:0≤m∧m < 72057594037927936):(fixS m).size = 7:=by unfold fixS;rw [if_pos h,ofB_size,lowb_len]
theorem fix_byte {m:Int} (h:0≤m∧m < 72057594037927936) {k:Nat} (hk:k < 7):byteOf (fixS m) (k:Int) = hi m (6 - k) % 256:=by
 have e:∀ z:Int,((UInt8.ofNat (z % 256).toNat).toNat:Int) = z % 256:=fun z=>by
  have h1:(z % 256).toNat < 256:=by omega
  rw [UInt8.toNat_ofNat',Nat.mod_eq_of_lt h1];omega
 unfold fixS byteOf
 rw [if_pos h,Int.toNat_natCast]
 have:k = 0∨k = 1∨k = 2∨k = 3∨k = 4∨k = 5∨k = 6:=by omega
 rcases this with rfl | rfl | rfl | rfl | rfl | rfl | rfl <;> exact e _
theorem rd_fix {m:Int} (h:0≤m∧m < 72057594037927936) {t:ByteArray} (ht:∀ k:Nat,k < 7→byteOf t (k:Int) = byteOf (fixS m) (k:Int)):rdN t 7 = m:=by
 have b:∀ k:Nat,k < 7→byteOf t (k:Int) = hi m (6 - k) % 256:=fun k hk=>(ht k hk).trans (fix_byte h hk)
 have b0:=b 0 (by decide);have b1:=b 1 (by decide);have b2:=b 2 (by decide);have b3:=b 3 (by decide);have b4:=b 4 (by decide);have b5:=b 5 (by decide);have b6:=b 6 (by decide)
 simp only [rdN]
 simp only [hi,Nat.sub_zero,Nat.reduceSub] at b0 b1 b2 b3 b4 b5 b6
 rw [b0,b1,b2,b3,b4,b5,b6]
 omega
theorem numS_8 {n:Int} (h:-72057594037927936 < n∧n < 72057594037927936):(numS n).size = 8:=by
 unfold numS
 split
 ·rw [ba_size,fixS_7 (by omega)];rfl
 ·rw [ba_size,fixS_7 (by omega)];rfl
theorem numAt_show {s:ByteArray} {p:Nat} {n:Int} (h:hasT s p (numS n)) (hn:-72057594037927936 < n∧n < 72057594037927936):numAt s p = some n:=by
 have hz:=numS_8 hn
 have h8:(p:Int) + 8≤s.size:=by have:=h.1;omega
 have e1:((p:Int) + 1).toNat = p + 1:=by omega
 have tail:∀ (c:UInt8) (m:Int),numS n = (⟨#[c]⟩:ByteArray) ++ fixS m→0≤m∧m < 72057594037927936→byteOf s p = (c.toNat:Int)∧rdN (s.extract ((p:Int) + 1).toNat s.size) 7 = m:=fun c m he hm=>by
  rw [he] at h
  obtain ⟨ha,hb⟩:=hasT_app.1 h
  refine ⟨byteOf_has (i:=0) ha Nat.zero_lt_one,rd_fix hm fun k hk=>?_⟩
  rw [e1,byteOf_tail (by omega)]
  exact byteOf_has hb (by rw [fixS_7 hm];exact hk)
 by_cases h0:n < 0
 ·obtain ⟨t1,t2⟩:=tail 45 (-n) (by unfold numS;rw [if_pos h0]) (by omega)
  rw [numAt_2 (by omega) h8 t1 (by rw [t2];omega),t2]
  congr 1;omega
 ·obtain ⟨t1,t2⟩:=tail 43 n (by unfold numS;rw [if_neg h0]) (by omega)
  rw [numAt_1 (by omega) h8 t1,t2]
theorem numsS_cat (s:ByteArray) (l:List Int):numsS s l = s ++ cat ⟨#[]⟩ (l.map numS):=by
 rw [← cat_cat];unfold numsS cat;rw [List.foldl_map]
theorem small_b {n:Int} (h:small n = true):-72057594037927936 < n∧n < 72057594037927936:=by have:=(small_iff n).1 h;omega
theorem numsP_show {s:ByteArray}:(l:List Int)→(p:Nat)→l.all small = true→hasT s p (cat ⟨#[]⟩ (l.map numS))→numsP s l.length p = some (l,((p + (cat ⟨#[]⟩ (l.map numS)).size:Nat):Int))
 | [],p,_,_=>rfl
 | x :: l,p,ha,h=>by
  rw [List.map_cons,catE_cons] at h ⊢
  rw [List.all_cons,Bool.and_eq_true] at ha
  obtain ⟨h1,h2⟩:=hasT_app.1 h
  have hx:=numAt_show h1 (small_b ha.1)
  have hz:=numS_8 (small_b ha.1)
  rw [hz] at h2
  have ih:=numsP_show l (p + 8) ha.2 h2
  rw [List.length_cons,numsP,hx]
  dsimp only
  rw [if_pos ha.1,show (p:Int) + 8 = ((p + 8:Nat):Int) by omega,ih,ba_size,hz,Option.map_some,Nat.add_assoc]
theorem vecS_ok {v:List Int} (h:okV v = true):vecS v = numS v.length ++ cat ⟨#[]⟩ (v.map numS):=by
 unfold okV at h
 rw [Bool.and_eq_true,decide_eq_true_eq] at h
 unfold vecS
 rw [if_pos h,numsS_cat]
theorem vecO_show {s:ByteArray} {p:Nat} {v:List Int} (hv:okV v = true) (h:hasT s p (vecS v)):vecO s p = some (v,((p + (vecS v).size:Nat):Int)):=by
 rw [vecS_ok hv] at h ⊢
 unfold okV at hv
 rw [Bool.and_eq_true,decide_eq_true_eq] at hv
 obtain ⟨h1,h2⟩:=hasT_app.1 h
 have hb:-72057594037927936 < (v.length:Int)∧(v.length:Int) < 72057594037927936:=by omega
 have hz:=numS_8 hb
 rw [hz] at h2
 unfold vecO
 rw [numAt_show h1 hb]
 dsimp only
 rw [if_pos (by omega),Int.toNat_natCast,show (p:Int) + 8 = ((p + 8:Nat):Int) by omega,numsP_show v (p + 8) hv.2 h2,ba_size,hz,Nat.add_assoc]
def atR (s:ByteArray) (p:Nat):RdD:=(s,(p:Int),false)
theorem vecR_show {s:ByteArray} {p:Nat} {v:List Int} (hv:okV v = true) (h:hasT s p (vecS v)):vecR (atR s p) = (v,atR s (p + (vecS v).size)):=by
 have h1:=vecR_vecO s p
 rw [vecO_show hv h] at h1
 exact h1
theorem numR_show {s:ByteArray} {p:Nat} {n lo hi:Int} (h:hasT s p (numS n)) (hn:-72057594037927936 < n∧n < 72057594037927936) (h1:lo≤n) (h2:n≤hi):numR (atR s p) lo hi = (n,atR s (p + (numS n).size)):=by
 have:=numR_2 (numAt_show h hn) h1 h2
 rw [numS_8 hn]
 exact this.symm
def someR (r:RdD) (n:Int):List Int × RdD:=if ((vecR r).1.length:Int) = n then vecR r else (List.replicate n.toNat 0,((vecR r).2.1,(vecR r).2.2.1,true))
theorem someR_show {s:ByteArray} {p:Nat} {v:List Int} {n:Int} (hv:okV v = true) (h:hasT s p (vecS v)) (hn:(v.length:Int) = n):someR (atR s p) n = (v,atR s (p + (vecS v).size)):=by
 unfold someR;rw [vecR_show hv h,if_pos hn]
theorem someR_len {r:RdD} {n:Int} (h:0≤n):((someR r n).1.length:Int) = n:=by
 unfold someR
 split
 ·assumption
 ·rw [List.length_replicate];omega
theorem someR_P {r:RdD} (n:Int) (h:RdP r):RdP (someR r n).2∧(someR r n).2.1 = r.1:=by
 have h1:=vecR_P h
 unfold someR
 split
 ·exact h1
 ·exact ⟨h1.1,h1.2⟩
def loopR {α:Type} (f:RdD→α × RdD):Nat→RdD→List α × RdD
 | 0,r=>([],r)
 | k + 1,r=>if r.2.2 = true then ([],r) else ((f r).1 :: (loopR f k (f r).2).1,(loopR f k (f r).2).2)
theorem loopR_bad {α:Type} (f:RdD→α × RdD) (k:Nat) {r:RdD} (h:r.2.2 = true):loopR f k r = ([],r):=by
 cases k with
 | zero=>rfl
 | succ k=>unfold loopR;rw [if_pos h]
theorem loopR_go {α:Type} (f:RdD→α × RdD) (k:Nat) {r:RdD} (h:r.2.2 = false):loopR f (k + 1) r = ((f r).1 :: (loopR f k (f r).2).1,(loopR f k (f r).2).2):=by
 rw [loopR,if_neg (by rw [h];simp)]
theorem loopR_show {α:Type} {f:RdD→α × RdD} {g:α→List ByteArray} {P:α→Prop} {s:ByteArray} (hf:∀ a p,P a→hasT s p (cat ⟨#[]⟩ (g a))→f (atR s p) = (a,atR s (p + (cat ⟨#[]⟩ (g a)).size))) :
  (l:List α)→(p:Nat)→(∀ a ∈ l,P a)→hasT s p (cat ⟨#[]⟩ (l.flatMap g))→loopR f l.length (atR s p) = (l,atR s (p + (cat ⟨#[]⟩ (l.flatMap g)).size))
 | [],p,_,_=>rfl
 | x :: l,p,hP,h=>by
  rw [List.flatMap_cons,catE_app] at h ⊢
  obtain ⟨h1,h2⟩:=hasT_app.1 h
  rw [List.length_cons,loopR_go f _ rfl,hf x p (hP x List.mem_cons_self) h1]
  dsimp only
  rw [loopR_show hf l _ (fun a ha=>hP a (List.mem_cons_of_mem _ ha)) h2,ba_size,Nat.add_assoc]
def rowsR (r:RdD):RowsD × RdD:=loopR vecR (numR r 0 20).1.toNat (numR r 0 20).2
theorem map_fm {α β:Type} (f:α→β) (l:List α):l.map f = l.flatMap fun a=>[f a]:=by induction l with
 | nil=>rfl
 | cons a l ih=>rw [List.map_cons,List.flatMap_cons,ih];rfl
theorem rowsR_show {s:ByteArray} {p:Nat} {l:RowsD} (hl:l.length≤20) (hv:∀ v ∈ l,okV v = true) (h:hasT s p (cat ⟨#[]⟩ (rowsP l))):rowsR (atR s p) = (l,atR s (p + (cat ⟨#[]⟩ (rowsP l)).size)):=by
 unfold rowsP at h ⊢
 rw [catE_cons,map_fm] at h ⊢
 obtain ⟨h1,h2⟩:=hasT_app.1 h
 unfold rowsR
 rw [numR_show h1 (by omega) (by omega) (by omega)]
 dsimp only
 rw [Int.toNat_natCast,loopR_show (P:=fun v=>okV v = true) (fun a p ha h=>?_) l _ hv h2,ba_size,Nat.add_assoc]
 rw [cat_one,nil_app] at h ⊢
 exact vecR_show ha h
def insF (r:RdD):InsD × RdD:=(((someR r 2).1.getD 0 0,(someR r 2).1.getD 1 0),(someR r 2).2)
def opF (r:RdD):OpD × RdD:=(((someR r 3).1.getD 0 0,(someR r 3).1.getD 1 0,(someR r 3).1.getD 2 0,(vecR (someR r 3).2).1),(vecR (someR r 3).2).2)
def savF (r:RdD):SavedD × RdD:=(((someR r 1).1.getD 0 0,(rowsR (someR r 1).2).1),(rowsR (someR r 1).2).2)
theorem insF_show {s:ByteArray} (a:InsD) (p:Nat) (ha:okV [a.1,a.2] = true) (h:hasT s p (cat ⟨#[]⟩ (insP a))):insF (atR s p) = (a,atR s (p + (cat ⟨#[]⟩ (insP a)).size)):=by
 unfold insP at h ⊢
 rw [cat_one,nil_app] at h ⊢
 unfold insF
 rw [someR_show (n:=2) ha h rfl];rfl
theorem opF_show {s:ByteArray} (a:OpD) (p:Nat) (ha:okV [a.1,a.2.1,a.2.2.1] = true∧okV a.2.2.2 = true) (h:hasT s p (cat ⟨#[]⟩ (opP a))):opF (atR s p) = (a,atR s (p + (cat ⟨#[]⟩ (opP a)).size)):=by
 unfold opP at h ⊢
 rw [catE_cons,cat_one,nil_app] at h ⊢
 obtain ⟨h1,h2⟩:=hasT_app.1 h
 unfold opF
 rw [someR_show (n:=3) ha.1 h1 rfl]
 dsimp only
 rw [vecR_show ha.2 h2,ba_size,Nat.add_assoc];rfl
theorem savF_show {s:ByteArray} (a:SavedD) (p:Nat) (ha:okV [a.1] = true∧a.2.length≤20∧∀ v ∈ a.2,okV v = true) (h:hasT s p (cat ⟨#[]⟩ (savP a))):savF (atR s p) = (a,atR s (p + (cat ⟨#[]⟩ (savP a)).size)):=by
 unfold savP at h ⊢
 rw [catE_cons] at h ⊢
 obtain ⟨h1,h2⟩:=hasT_app.1 h
 unfold savF
 rw [someR_show (n:=1) ha.1 h1 rfl]
 dsimp only
 rw [rowsR_show ha.2.1 ha.2.2 h2,ba_size,Nat.add_assoc];rfl
def finR (h:List Int) (a:List InsD) (b:List OpD) (c:List SavedD) (r:RdD):StageD × RdD :=
 ((h.getD 0 0,a,b,decide (h.getD 1 0 = 1),decide (h.getD 2 0 = 1),c,(rowsR r).1,(vecR (rowsR r).2).1,(vecR (vecR (rowsR r).2).2).1,(vecR (vecR (vecR (rowsR r).2).2).2).1,(vecR (vecR (vecR (vecR (rowsR r).2).2).2).2).1,
  (rowsR (vecR (vecR (vecR (vecR (rowsR r).2).2).2).2).2).1,h.getD 3 0,decide (h.getD 4 0 = 1)),(rowsR (vecR (vecR (vecR (vecR (rowsR r).2).2).2).2).2).2)
def K3 (h:List Int) (a:List InsD) (b:List OpD) (acc:List SavedD) (q:List SavedD × RdD):StageD × RdD:=finR h a b (acc ++ q.1) q.2
def K2 (h:List Int) (a:List InsD) (acc:List OpD) (q:List OpD × RdD):StageD × RdD:=K3 h a (acc ++ q.1) [] (loopR savF (h.getD 7 0).toNat q.2)
def K1 (h:List Int) (acc:List InsD) (q:List InsD × RdD):StageD × RdD:=K2 h (acc ++ q.1) [] (loopR opF (h.getD 6 0).toNat q.2)
def stageR (r:RdD):StageD × RdD:=K1 (someR r 8).1 [] (loopR insF ((someR r 8).1.getD 5 0).toNat (someR r 8).2)
def fitS (x:StageD):Prop:=limS x∧(stageV x).all okV = true
theorem fitS_all {x:StageD} (h:fitS x):okV (headV x) = true∧(∀ i ∈ x.2.1,okV [i.1,i.2] = true)∧(∀ o ∈ x.2.2.1,okV [o.1,o.2.1,o.2.2.1] = true∧okV o.2.2.2 = true) ∧
  (∀ a ∈ x.2.2.2.2.2.1,okV [a.1] = true∧a.2.length≤20∧∀ v ∈ a.2,okV v = true)∧(x.2.2.2.2.2.2.1.length≤20∧∀ v ∈ x.2.2.2.2.2.2.1,okV v = true) ∧
  okV x.2.2.2.2.2.2.2.1 = true∧okV x.2.2.2.2.2.2.2.2.1 = true∧okV x.2.2.2.2.2.2.2.2.2.1 = true∧okV x.2.2.2.2.2.2.2.2.2.2.1 = true ∧
  (x.2.2.2.2.2.2.2.2.2.2.2.1.length≤20∧∀ v ∈ x.2.2.2.2.2.2.2.2.2.2.2.1,okV v = true):=by
 obtain ⟨hl,ha⟩:=h
 have hm:=((stageB_iff x).1 hl.1).1
 have hm8:=(modelB_iff _).1 hm
 have hg:=((fitB_iff _ _).1 ((stageB_iff x).1 hl.1).2.2.1).1
 have hkp:=kept_le hl.1
 have hop:=okV_op hm
 have hh:=okV_head hl
 rw [List.all_eq_true] at ha
 unfold stageV at ha
 have q:∀ v,v ∈ stageV x→okV v = true:=ha
 have m1:∀ v,v ∈ [[x.1,x.2.2.2.2.2.2.2.2.2.2.2.2.1],x.2.2.2.2.2.2.2.1,x.2.2.2.2.2.2.2.2.1,x.2.2.2.2.2.2.2.2.2.1,x.2.2.2.2.2.2.2.2.2.2.1]→okV v = true:=fun v hv=>ha v (List.mem_append_left _ hv)
 refine ⟨by rw [hh];exact m1 _ (by simp),fun i hi=>ha _ (by simp only [List.mem_append,List.mem_flatMap];exact .inr (.inl ⟨i,hi,by simp⟩)),fun o ho=>⟨hop o ho,ha _ (by simp only [List.mem_append,List.mem_flatMap];exact .inr (.inr (.inl ⟨o,ho,by simp⟩)))⟩,fun a hs=>⟨ha _ (by simp only [List.mem_append,List.mem_flatMap];exact .inr (.inr (.inr (.inl ⟨a,hs,by simp⟩)))),by have:=hkp a hs;omega,fun v hv=>ha _ (by simp only [List.mem_append,List.mem_flatMap];exact .inr (.inr (.inr (.inl ⟨a,hs,List.mem_cons_of_mem _ hv⟩))))⟩,
  ⟨hl.2.2.2,fun v hv=>ha _ (by simp only [List.mem_append];exact .inr (.inr (.inr (.inr (.inl hv)))))⟩,m1 _ (by simp),m1 _ (by simp),m1 _ (by simp),m1 _ (by simp),by omega,fun v hv=>ha _ (by simp only [List.mem_append];exact .inr (.inr (.inr (.inr (.inr hv)))))⟩
theorem b01_1 (b:Bool):decide (b01 b = 1) = b:=by cases b <;> rfl
theorem stageR_show {s:ByteArray} {p:Nat} {x:StageD} (hx:fitS x) (h:hasT s p (cat ⟨#[]⟩ (stageP x))):stageR (atR s p) = (x,atR s (p + (cat ⟨#[]⟩ (stageP x)).size)):=by
 obtain ⟨f0,f1,f2,f3,f4,f5,f6,f7,f8,f9⟩:=fitS_all hx
 have e:cat ⟨#[]⟩ (stageP x) = vecS (headV x) ++ (cat ⟨#[]⟩ (x.2.1.flatMap insP) ++ (cat ⟨#[]⟩ (x.2.2.1.flatMap opP) ++ (cat ⟨#[]⟩ (x.2.2.2.2.2.1.flatMap savP) ++ (cat ⟨#[]⟩ (rowsP x.2.2.2.2.2.2.1) ++ (vecS x.2.2.2.2.2.2.2.1 ++ (vecS x.2.2.2.2.2.2.2.2.1 ++ (vecS x.2.2.2.2.2.2.2.2.2.1 ++ (vecS x.2.2.2.2.2.2.2.2.2.2.1 ++ cat ⟨#[]⟩ (rowsP x.2.2.2.2.2.2.2.2.2.2.2.1))))))))):=by
  unfold stageP stageT
  simp only [catE_app,catE_cons,cat_one,nil_app,List.cons_append,List.nil_append]
 rw [e] at h ⊢
 obtain ⟨h0,h⟩:=hasT_app.1 h
 obtain ⟨h1,h⟩:=hasT_app.1 h
 obtain ⟨h2,h⟩:=hasT_app.1 h
 obtain ⟨h3,h⟩:=hasT_app.1 h
 obtain ⟨h4,h⟩:=hasT_app.1 h
 obtain ⟨h5,h⟩:=hasT_app.1 h
 obtain ⟨h6,h⟩:=hasT_app.1 h
 obtain ⟨h7,h⟩:=hasT_app.1 h
 obtain ⟨h8,h9⟩:=hasT_app.1 h
 unfold stageR
 rw [someR_show (n:=8) f0 h0 rfl]
 dsimp only
 rw [show ((headV x).getD 5 0).toNat = x.2.1.length from rfl,loopR_show insF_show x.2.1 _ f1 h1]
 unfold K1
 dsimp only
 rw [show ((headV x).getD 6 0).toNat = x.2.2.1.length from rfl,loopR_show opF_show x.2.2.1 _ f2 h2]
 unfold K2
 dsimp only
 rw [show ((headV x).getD 7 0).toNat = x.2.2.2.2.2.1.length from rfl,loopR_show savF_show x.2.2.2.2.2.1 _ f3 h3]
 unfold K3 finR
 dsimp only
 rw [rowsR_show f4.1 f4.2 h4]
 dsimp only
 rw [vecR_show f5 h5]
 dsimp only
 rw [vecR_show f6 h6]
 dsimp only
 rw [vecR_show f7 h7]
 dsimp only
 rw [vecR_show f8 h8]
 dsimp only
 rw [rowsR_show f9.1 f9.2 h9]
 dsimp only
 simp only [ba_size,Nat.add_assoc]
 show ((_,_,_,decide (b01 _ = 1),decide (b01 _ = 1),_,_,_,_,_,_,_,_,decide (b01 _ = 1)),_) = _
 rw [b01_1,b01_1,b01_1]
 rfl
end Go.Proofs.YtepjkojfjdcegaaGreat
