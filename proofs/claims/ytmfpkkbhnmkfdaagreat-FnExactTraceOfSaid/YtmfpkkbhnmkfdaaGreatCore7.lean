/- Core7: trees, and what they say. -/
import Derived.Test.YtmfpkkbhnmkfdaaGreatCore6
namespace Go.Proofs.YtmfpkkbhnmkfdaaGreat
open Go.ChangeShapes Go.WideShapes Go.ChangeAt Go.RowKit Go.Deep
set_option linter.unusedVariables false
set_option linter.unusedSimpArgs false
abbrev xA:Ty:=.slice 186 aC
theorem gZ (s:bA):aW aA s = aW vK s.2.1 + (aW aN s.2.2.1 + (aW xA s.2.2.2.2.2.1 + (aW aG s.2.2.2.2.2.2.1 + (s.2.2.2.2.2.2.2.1.length + (s.2.2.2.2.2.2.2.2.1.length + (s.2.2.2.2.2.2.2.2.2.1.length + (s.2.2.2.2.2.2.2.2.2.2.1.length + aW aG s.2.2.2.2.2.2.2.2.2.2.2.1))))))):=by
 have e:aW aA s = 0 + (aW vK s.2.1 + (aW aN s.2.2.1 + (0 + (0 + (aW xA s.2.2.2.2.2.1 + (aW aG s.2.2.2.2.2.2.1 + (aW aB s.2.2.2.2.2.2.2.1 + (aW aB s.2.2.2.2.2.2.2.2.1 + (aW aB s.2.2.2.2.2.2.2.2.2.1 + (aW aB s.2.2.2.2.2.2.2.2.2.2.1 + (aW aG s.2.2.2.2.2.2.2.2.2.2.2.1 + (0 + 0)))))))))))):=rfl
 rw [dK,dK,dK,dK] at e
 omega
theorem bAI {pc:Int} {plan:List aM2} {ops:List iC} {last redo:Bool} {stash:List iX} {full:dD} {X Y G D:List Int} {sr:dD} {sl:Int} {ss:Bool} (h:aW aA (pc,plan,ops,last,redo,stash,full,X,Y,G,D,sr,sl,ss)≤1000000000) :
  List.length plan≤1000000000∧aW aN ops≤1000000000∧List.length stash≤1000000000∧(∀ x ∈ stash,List.length x.2≤1000000000∧∀ y ∈ x.2,List.length y≤1000000000)∧(List.length full≤1000000000∧∀ y ∈ full,List.length y≤1000000000) ∧
  List.length X≤1000000000∧List.length Y≤1000000000∧List.length G≤1000000000∧List.length D≤1000000000∧(List.length sr≤1000000000∧∀ y ∈ sr,List.length y≤1000000000):=by
 have hz:=h
 rw [gZ] at hz
 dsimp only at hz
 obtain ⟨_,⟨hplan,_⟩,_,_,_,hst,hfull,⟨hX,_⟩,⟨hY,_⟩,⟨hG,_⟩,⟨hD,_⟩,hsr,_⟩:=lN (t:=aA) h
 exact ⟨hplan,by omega,hst.1,fun x hx=>aEE (hst.2 x hx).2,aEE hfull,hX,hY,hG,hD,aEE hsr⟩
theorem aZY {e:TypeId} {t:Ty} (a b:List t.D):aW (.slice e t) (a ++ b) = aW (.slice e t) a + aW (.slice e t) b:=by
 rw [bI,bI,bI,List.map_append,List.sum_append,List.length_append];omega
theorem aZV {e:TypeId} {t:Ty} (x:t.D):aW (.slice e t) [x] = 1 + aW t x:=by rw [bI];simp
theorem aCL {e:TypeId} {t:Ty} (x d:t.D) (c:Nat):(l:List t.D)→(i:Nat)→(i < l.length→aW t x≤aW t (l.getD i d) + c)→aW (.slice e t) (l.set i x)≤aW (.slice e t) l + c
 | [],i,_=>by simp only [List.set_nil];omega
 | a :: l,0,h=>by
  have h1:aW t x≤aW t a + c:=h (Nat.zero_lt_succ _)
  rw [List.set_cons_zero,bI,bI]
  simp only [List.map_cons,List.sum_cons,List.length_cons];omega
 | a :: l,i + 1,h=>by
  have h1:=aCL (e:=e) x d c l i fun hi=>h (Nat.succ_lt_succ hi)
  rw [bI,bI] at h1
  rw [List.set_cons_succ,bI,bI]
  simp only [List.map_cons,List.sum_cons,List.length_cons];omega
theorem aV0 {e:TypeId} {r:dD} {n c:Nat} (h1:r.length≤n) (h2:∀ y ∈ r,List.length y≤c):aW (.slice e bG) r≤n + n * c:=by
 have h:=aAT (aW bG) c r fun y hy=>by have e1:=dK y;have e2:aW bG y = aW aB y:=rfl;have:=h2 y hy;omega
 have h3:r.length * c≤n * c:=Nat.mul_le_mul_right _ h1
 rw [bI];omega
theorem aJ5 {α:Type} {n:Nat} (g:Nat→α) (h:n≤6):(mp n g).length≤6:=by rw [gQ];exact h
theorem aCS (f:Int→Int→Int × Bool) (a b:List Int):(jO f a b).1.length≤6:=by
 unfold jO;split
 ·exact aJ5 _ (jE (by assumption)).1
 ·exact Nat.zero_le _
theorem aEW (c:Int) (a:List Int):(oZ c a).1.length≤6:=by
 unfold oZ;split
 ·rename_i h;exact aJ5 _ ((cJ a).1 h.2).2.1
 ·exact Nat.zero_le _
theorem aLE (a:List Int):(mI a).length≤6:=by
 unfold mI;split
 ·rename_i h;exact aJ5 _ ((cJ a).1 h).2.1
 ·exact Nat.zero_le _
theorem aLF (x d:List Int):(lZ x d).length≤6:=by
 unfold lZ;split
 ·exact aJ5 _ (jE (by assumption)).1
 ·exact Nat.zero_le _
theorem aQ1 (m:vN) (x:List Int):(iW m x).1.length≤6:=by
 unfold iW;split
 ·rename_i h
  obtain ⟨R,C,data,rfl,h1,h2,h3,h4,h5⟩:=kL h.1
  exact aJ5 _ (by show (R:Int).toNat≤6;omega)
 ·exact Nat.zero_le _
theorem aL4 (m:vN) (x:List Int):(fU m x).1.length≤6:=by
 unfold fU;split
 ·rename_i h
  obtain ⟨R,C,data,rfl,h1,h2,h3,h4,h5⟩:=kL h.1
  exact aJ5 _ (by show (C:Int).toNat≤6;omega)
 ·exact Nat.zero_le _
theorem aT1 (o:iC) (x:List Int):(nE o x).1.length≤6:=by
 unfold nE
 split
 ·exact Nat.zero_le _
 split
 ·exact aQ1 _ _
 split
 ·exact aCS _ _ _
 split
 ·exact aEW _ _
 split
 ·exact aCS _ _ _
 ·exact aLE _
theorem aRW (o:iC) (x d:List Int):(gO o x d).1.length≤6:=by
 unfold gO
 split
 ·exact Nat.zero_le _
 split
 ·exact aL4 _ _
 split
 ·rename_i h _ _
  exact ((cJ d).1 ((bY _ _).1 (Decidable.not_not.1 h).2.2).1).2.1
 split
 ·exact aEW _ _
 split
 ·exact aCS _ _ _
 ·exact aLF _ _
theorem tA (m:List iC) (x:List Int) (hx:x.length≤6):(k:Nat)→∀ y ∈ (jC m x k).1,List.length y≤6
 | 0,y,hy=>by
  obtain rfl:y = x:=by simpa [jC] using hy
  exact hx
 | k + 1,y,hy=>by
  rw [jC,List.mem_append] at hy
  rcases hy with hy | hy
  ·exact tA m x hx k y hy
  ·obtain rfl:y = _:=List.mem_singleton.1 hy
   exact aT1 _ _
theorem aU3 {α:Type} {l:List α} {i:Nat} {d:α} (h:l.length≤i):l.getD i d = d:=by rw [List.getD_eq_getElem?_getD,List.getElem?_eq_none h];rfl
theorem aC6 {r:dD} (h:∀ y ∈ r,List.length y≤6) (i:Nat):(r.getD i []).length≤6:=by
 by_cases hi:i < r.length
 ·rw [bD hi];exact h _ (List.getElem_mem hi)
 ·rw [aU3 (by omega)];exact Nat.zero_le _
theorem aRH (m:List iC) (r:dD) (d:List Int) (n:Nat) (hd:d.length≤6):(k:Nat)→(eC m r d n k).2.1.length≤6
 | 0=>hd
 | k + 1=>aRW _ _ _
theorem aEU {e:TypeId}:(a b:dD)→aW (.slice e bG) (dQ a b)≤aW (.slice e bG) a
 | [],b=>by simp [dQ]
 | a :: l,[]=>by simp [dQ,bI]
 | a :: l,b :: m=>by
  have h:=aEU (e:=e) l m
  have h1:aW bG (oD a b)≤aW bG a:=by
   have e1:=dK (oD a b)
   have e2:=dK a
   have e3:=qH a b
   have e4:aW bG (oD a b) = aW aB (oD a b):=rfl
   have e5:aW bG a = aW aB a:=rfl
   omega
  have e:dQ (a :: l) (b :: m) = oD a b :: dQ l m:=rfl
  rw [bI,bI] at h
  rw [e,bI,bI]
  simp only [List.map_cons,List.sum_cons,List.length_cons];omega
def aUV (s:bA) (m:Int) (x t:List Int):Bool:=fV s && (eX x (mK s.2.2.1) && (decide (dR s.2.2.2.2.2.1 m < 0) && (!s.2.2.2.1 || eX t (iZ s.2.2.1))))
def aXM (s:bA) (x:List Int):List Int:=(jC s.2.2.1 x s.2.2.1.length).1.getD s.2.2.1.length []
def yW (redo:Bool) (r:dD):dD:=if redo = true then r.take 1 else r
def aTJ (s:bA) (m:Int) (x t:List Int):bA :=
 (s.1,s.2.1,s.2.2.1,s.2.2.2.1,s.2.2.2.2.1,s.2.2.2.2.2.1 ++ [(m,yW s.2.2.2.2.1 (jC s.2.2.1 x s.2.2.1.length).1)],s.2.2.2.2.2.2.1,[],
  (if s.2.2.2.1 = true then s.2.2.2.2.2.2.2.2.1 else aXM s x),s.2.2.2.2.2.2.2.2.2.1,s.2.2.2.2.2.2.2.2.2.2.1,s.2.2.2.2.2.2.2.2.2.2.2.1,
  (if s.2.2.2.1 = true then (dH s.2.2.2.2.2.2.2.2.2.2.2.2.1 (rW (aXM s x) t).1).1 else s.2.2.2.2.2.2.2.2.2.2.2.2.1),
  (s.2.2.2.2.2.2.2.2.2.2.2.2.2 || (jC s.2.2.1 x s.2.2.1.length).2 || (s.2.2.2.1 && ((rW (aXM s x) t).2 || (dH s.2.2.2.2.2.2.2.2.2.2.2.2.1 (rW (aXM s x) t).1).2))))
def xE (s:bA) (m:Int) (x t:List Int):bA:=if aUV s m x t = true then aTJ s m x t else s
def qL (s:bA) (m:Int):bA:=if fV s = true∧0≤dR s.2.2.2.2.2.1 m then
 (s.1,s.2.1,s.2.2.1,s.2.2.2.1,s.2.2.2.2.1,s.2.2.2.2.2.1,(jC s.2.2.1 ((s.2.2.2.2.2.1.getD (dR s.2.2.2.2.2.1 m).toNat (aS aC)).2.getD 0 []) s.2.2.1.length).1,s.2.2.2.2.2.2.2) else s
def lP (s:bA) (m:Int):dD:=if s.2.2.2.2.1 = true then s.2.2.2.2.2.2.1 else (s.2.2.2.2.2.1.getD (dR s.2.2.2.2.2.1 m).toNat (aS aC)).2
def gC (s:bA) (m:Int) (t:List Int):List Int × Bool:=if s.2.2.2.1 = true then jO eI ((lP s m).getD s.2.2.1.length []) t else (s.2.2.2.2.2.2.2.2.2.1,false)
def aGI (m:List iC) (r:dD):Bool:=decide (r.length = m.length + 1) && nZ m r m.length
def aUL (s:bA) (m:Int) (t:List Int):Bool:=fV s && (decide (0≤dR s.2.2.2.2.2.1 m) && (aGI s.2.2.1 (lP s m) && eX (gC s m t).1 (iZ s.2.2.1)))
def bCA (s:bA) (m:Int) (t:List Int):bA :=
 (s.1,s.2.1,s.2.2.1,s.2.2.2.1,s.2.2.2.2.1,s.2.2.2.2.2.1.take (dR s.2.2.2.2.2.1 m).toNat ++ s.2.2.2.2.2.1.drop ((dR s.2.2.2.2.2.1 m).toNat + 1),[],s.2.2.2.2.2.2.2.1,s.2.2.2.2.2.2.2.2.1,[],
  (oG s.2.2.1 (lP s m) (gC s m t).1).2.1,gK s.2.2.2.2.2.2.2.2.2.2.2 ((oG s.2.2.1 (lP s m) (gC s m t).1).1,0,(gC s m t).2 || (oG s.2.2.1 (lP s m) (gC s m t).1).2.2))
def sD (s:bA) (m:Int) (t:List Int):bA:=if aUL s m t = true then bCA s m t else s
theorem aC4 {v:List Int} {n:Int} (h:eX v n = true):v.length≤6:=((cJ _).1 ((bY _ _).1 h).1).2.1
theorem rQ {s:bA} {m:Int} {x t:List Int} (h:fV s = false∨eX x (mK s.2.2.1) = false∨0≤dR s.2.2.2.2.2.1 m∨(s.2.2.2.1 = true∧eX t (iZ s.2.2.1) = false)):s = xE s m x t:=by
 unfold xE;rw [if_neg]
 unfold aUV
 simp only [Bool.and_eq_true,Bool.or_eq_true,decide_eq_true_eq,Bool.not_eq_true']
 rintro ⟨h1,h2,h3,h4⟩
 rcases h with h | h | h | ⟨h,h'⟩
 ·rw [h] at h1;cases h1
 ·rw [h] at h2;cases h2
 ·omega
 ·rw [h,h'] at h4;simp at h4
theorem aE7 {s:bA} {m:Int} {x t:List Int} (h1:fV s = true) (h2:eX x (mK s.2.2.1) = true) (h3:dR s.2.2.2.2.2.1 m < 0) (h4:s.2.2.2.1 = true→eX t (iZ s.2.2.1) = true):aTJ s m x t = xE s m x t:=by
 unfold xE;rw [if_pos]
 unfold aUV
 simp only [Bool.and_eq_true,Bool.or_eq_true,decide_eq_true_eq,Bool.not_eq_true']
 refine ⟨h1,h2,h3,?_⟩
 cases hh:s.2.2.2.1
 ·exact .inl rfl
 ·exact .inr (h4 hh)
theorem aEJ {s:bA} {m:Int} {x t:List Int} {st:List iX} {l:Int} {b:Bool} (hla:s.2.2.2.1 = true) (e1:st = s.2.2.2.2.2.1 ++ [(m,yW s.2.2.2.2.1 (jC s.2.2.1 x s.2.2.1.length).1)])
  (e3:l = (dH s.2.2.2.2.2.2.2.2.2.2.2.2.1 (rW (List.getD (jC s.2.2.1 x s.2.2.1.length).1 (List.length s.2.2.1) (aS aB)) t).1).1)
  (e4:b = (s.2.2.2.2.2.2.2.2.2.2.2.2.2 || (jC s.2.2.1 x s.2.2.1.length).2 || ((rW (List.getD (jC s.2.2.1 x s.2.2.1.length).1 (List.length s.2.2.1) (aS aB)) t).2 || (dH s.2.2.2.2.2.2.2.2.2.2.2.2.1 (rW (List.getD (jC s.2.2.1 x s.2.2.1.length).1 (List.length s.2.2.1) (aS aB)) t).1).2))) :
  (s.1,s.2.1,s.2.2.1,s.2.2.2.1,s.2.2.2.2.1,st,s.2.2.2.2.2.2.1,([]:List Int),s.2.2.2.2.2.2.2.2.1,s.2.2.2.2.2.2.2.2.2.1,s.2.2.2.2.2.2.2.2.2.2.1,s.2.2.2.2.2.2.2.2.2.2.2.1,l,b) = aTJ s m x t:=by
 subst e1 e3 e4;unfold aTJ;rw [hla];rfl
theorem aEC {s:bA} {m:Int} {x t:List Int} {st:List iX} {b:Bool} (hla:s.2.2.2.1 = false) (e1:st = s.2.2.2.2.2.1 ++ [(m,yW s.2.2.2.2.1 (jC s.2.2.1 x s.2.2.1.length).1)])
  (e4:b = (s.2.2.2.2.2.2.2.2.2.2.2.2.2 || (jC s.2.2.1 x s.2.2.1.length).2)) :
  (s.1,s.2.1,s.2.2.1,s.2.2.2.1,s.2.2.2.2.1,st,s.2.2.2.2.2.2.1,([]:List Int),(List.getD (jC s.2.2.1 x s.2.2.1.length).1 (List.length s.2.2.1) (aS aB)),s.2.2.2.2.2.2.2.2.2.1,s.2.2.2.2.2.2.2.2.2.2.1,s.2.2.2.2.2.2.2.2.2.2.2.1,s.2.2.2.2.2.2.2.2.2.2.2.2.1,b) = aTJ s m x t:=by
 subst e1 e4;unfold aTJ;rw [hla];simp;rfl
theorem aUB {a b c d:Bool} (h:a = true):true = (a || b || (c || d)):=by rw [h];rfl
theorem aTS {a b c d:Bool} (h:b = true):true = (a || b || (c || d)):=by rw [h];simp
theorem aUQ {a b c d:Bool} (h:c = true):true = (a || b || (c || d)):=by rw [h];simp
theorem aU8 {a b c d:Bool} (h1:a = false) (h2:b = false) (h3:c = false):d = (a || b || (c || d)):=by rw [h1,h2,h3];simp
theorem aKG {r:dD} {b:Bool} (h:b = true):List.drop 0 (List.take 1 r) = yW b r:=by subst h;rfl
theorem aKS {r:dD} {b:Bool} (h:b = false):r = yW b r:=by subst h;rfl
noncomputable def cW:Con:=⟨178,aA,aA,[.val ⟨true,aA,[]⟩],[⟨true,aA,[0,2,2,0,0,2,2,2,2,2,2,2,0,0]⟩],false,none,
 ((fun x=>aW aA x≤1000000000):(bA)→Prop),
 ((fun x=>x):(bA)→(bA))⟩
def rT:T :=
 .prim (.lapp 95 aO 16) (.mk2 vK vK (.nl 95 aO) (aJ aA 1 (.vr 0))) <|
 .call 0 (aJ aA 2 (.vr 0)) <|
 .prim (.llen 186 aC) (aJ aA 5 (.vr 0)) <|
 .loop (.pair tI (.slice 186 aC)) (.mk2 tI (.slice 186 aC) (.ci .i64 0) (.nl 186 aC)) <|
  .prim (.cmp .lss .i64) (.mk2 tI tI (.p1 tI (.slice 186 aC) (.vr 4)) (.vr 3)) <|
  .ite (.vr 5) (
   .prim (.lidx 186 aC) (.mk2 (.slice 186 aC) tI (aJ aA 5 (.vr 0)) (.p1 tI (.slice 186 aC) (.vr 4))) <|
   .call 1 (aQ aC 1 (.vr 6)) <|
   .prim (.lit 186 aC 1) (.mk2 tI aG (.p1 tI aG (.vr 6)) (.vr 7)) <|
   .prim (.lapp 186 aC 32) (.mk2 (.slice 186 aC) (.slice 186 aC) (aQ (.pair tI (.slice 186 aC)) 1 (.vr 4)) (.vr 8)) <|
   .prim (.ar .add .i64) (.mk2 tI tI (.p1 tI (.slice 186 aC) (.vr 4)) (.ci .i64 1)) <|
   .again 0 (.mk2 tI (.slice 186 aC) (.vr 10) (.vr 9))) (
   .call 1 (aJ aA 6 (.vr 0)) <|
   .call 2 (aJ aA 7 (.vr 0)) <|
   .call 2 (aJ aA 8 (.vr 0)) <|
   .call 2 (aJ aA 9 (.vr 0)) <|
   .call 2 (aJ aA 10 (.vr 0)) <|
   .call 3 (aQ aA 11 (.vr 0)) <|
   .ret (bF aA [(.p1 tI cT (.vr 0)),(.vr 1),(.vr 2),(aJ aA 3 (.vr 0)),(aJ aA 4 (.vr 0)),(aQ (.pair tI (.slice 186 aC)) 1 (.vr 4)),(.vr 6),(.vr 7),(.vr 8),(.vr 9),(.vr 10),(.vr 11)]))
set_option maxRecDepth 100000 in
theorem aHR:bS Tryz.prog [nH,eP,bN,kT] cW false 3000 ⟨[(2991,1004,[.dr 20,.dr 19,.dr 14,.dr 11,.dr 8,.dr 18,.dr 16,.dr 13,.dr 10,.dr 7,.dr 17,.dr 15,.dr 12,.dr 9,.dr 6,.dr 0,.tm 23 0,.sl 24])],[(2981,3007,[33],[])]⟩ = .ok rT:=by kernel_rfl
theorem aI5 (x:bA) (hx:okD aA x) (hp:(fun x=>aW aA x≤1000000000) x):rT.wp [nH,eP,bN,kT] [⟨aA,x⟩] [] (fun v=>v.as aA = (fun x=>x) x):=by
 obtain ⟨pc,plan,ops,last,redo,stash,full,X,Y,G,D,sr,sl,ss⟩:=x
 obtain ⟨hplan,hops,hst,hstm,⟨hfull,hfullm⟩,hX,hY,hG,hD,⟨hsr,hsrm⟩⟩:=bAI hp
 delta rT nH eP bN kT;refine eS ?_;try with_reducible exact True.intro
 (repeat' first | intro _ | (with_reducible apply And.intro))
 all_goals first | omega | (unfold maxLen;omega) | (simp only [List.length_nil];omega) | (simp only [List.length_nil];unfold maxLen;omega) | skip
 refine dG (fun k=>((k:Int),List.take k stash)) (List.length stash) rfl fun I μ k hk _ go=>?_
 dsimp only
 (refine gR ?_;try with_reducible exact True.intro)
 by_cases hkn:k < List.length stash
 ·have hm:=hstm _ (List.getElem_mem hkn)
  rw [bD hkn]
  (repeat' first | intro _ | (refine go _ ?_ ?_ ?_) | (refine go _ ?_ ?_) | (with_reducible apply And.intro))
  all_goals first | omega | exact hm.1 | exact hm.2 _ (by assumption) | (simp only [List.length_take];unfold maxLen;omega) | (simp only [List.length_take];omega) | (rw [iB hkn];rfl)
 ·(repeat' first | intro _ | (refine go _ ?_ ?_ ?_) | (refine go _ ?_ ?_) | (with_reducible apply And.intro))
  all_goals first | omega | (have e:k = List.length stash:=(by omega);subst e;first | exact hfullm _ (by assumption) | exact hsrm _ (by assumption) | exact ⟨hsr,hsrm⟩ | omega | (unfold maxLen;omega) | (simp only [List.length_nil];omega) | (simp only [List.length_nil];unfold maxLen;omega) | (simp only [List.take_length,List.nil_append];done) | skip) | skip
theorem nB:Con.Holds Tryz.prog cW:=aT aY (aK aMO (aK tR (aK fW (aK aI7 aU)))) aHR fun x hx hp=>aI5 x hx hp
noncomputable def dV:Con:=⟨113,aA,aA,[.val ⟨true,aA,[]⟩],[⟨true,aA,[0,2,2,0,0,2,2,2,2,2,2,2,0,0]⟩],false,none,
 ((fun x=>aW aA x≤1000000000):(bA)→Prop),
 ((fun x=>x):(bA)→(bA))⟩
def xP:T :=
 .call 0 (aJ aA 2 (.vr 0)) <|
 .prim (.lapp 95 aO 16) (.mk2 vK vK (.nl 95 aO) (aJ aA 1 (.vr 0))) <|
 .loop (.pair tI (.slice 186 aC)) (.mk2 tI (.slice 186 aC) (.ci .i64 0) (.nl 186 aC)) <|
  .prim (.llen 186 aC) (aJ aA 5 (.vr 0)) <|
  .prim (.cmp .lss .i64) (.mk2 tI tI (.p1 tI (.slice 186 aC) (.vr 3)) (.vr 4)) <|
  .ite (.vr 5) (
   .prim (.lidx 186 aC) (.mk2 (.slice 186 aC) tI (aJ aA 5 (.vr 0)) (.p1 tI (.slice 186 aC) (.vr 3))) <|
   .prim (.lidx 186 aC) (.mk2 (.slice 186 aC) tI (aJ aA 5 (.vr 0)) (.p1 tI (.slice 186 aC) (.vr 3))) <|
   .call 1 (aQ aC 1 (.vr 7)) <|
   .prim (.lit 186 aC 1) (.mk2 tI aG (.p1 tI aG (.vr 6)) (.vr 8)) <|
   .prim (.lapp 186 aC 32) (.mk2 (.slice 186 aC) (.slice 186 aC) (aQ (.pair tI (.slice 186 aC)) 1 (.vr 3)) (.vr 9)) <|
   .prim (.ar .add .i64) (.mk2 tI tI (.p1 tI (.slice 186 aC) (.vr 3)) (.ci .i64 1)) <|
   .again 0 (.mk2 tI (.slice 186 aC) (.vr 11) (.vr 10))) (
   .call 1 (aJ aA 6 (.vr 0)) <|
   .prim (.lapp 3 tI 8) (.mk2 aB aB (.nl 3 tI) (aJ aA 7 (.vr 0))) <|
   .prim (.lapp 3 tI 8) (.mk2 aB aB (.nl 3 tI) (aJ aA 8 (.vr 0))) <|
   .prim (.lapp 3 tI 8) (.mk2 aB aB (.nl 3 tI) (aJ aA 9 (.vr 0))) <|
   .prim (.lapp 3 tI 8) (.mk2 aB aB (.nl 3 tI) (aJ aA 10 (.vr 0))) <|
   .call 1 (aJ aA 11 (.vr 0)) <|
   .ret (bF aA [(.p1 tI cT (.vr 0)),(.vr 2),(.vr 1),(aJ aA 3 (.vr 0)),(aJ aA 4 (.vr 0)),(aQ (.pair tI (.slice 186 aC)) 1 (.vr 3)),(.vr 6),(.vr 7),(.vr 8),(.vr 9),(.vr 10),(.vr 11),(aQ aA 12 (.vr 0))]))
set_option maxRecDepth 100000 in
theorem aP5:bS Tryz.prog [qF,nW] dV false 3000 ⟨[(2985,1003,mL 16 5 ++ [.dr 0,.tm 4 0,.sl 24])],[(2977,3006,[38],[])]⟩ = .ok xP:=by kernel_rfl
theorem aPV (x:bA) (hx:okD aA x) (hp:(fun x=>aW aA x≤1000000000) x):xP.wp [qF,nW] [⟨aA,x⟩] [] (fun v=>v.as aA = (fun x=>x) x):=by
 obtain ⟨pc,plan,ops,last,redo,stash,full,X,Y,G,D,sr,sl,ss⟩:=x
 obtain ⟨hplan,hops,hst,hstm,⟨hfull,hfullm⟩,hX,hY,hG,hD,⟨hsr,hsrm⟩⟩:=bAI hp
 delta xP qF nW;refine eS ?_;try with_reducible exact True.intro
 (repeat' first | intro _ | (with_reducible apply And.intro))
 all_goals first | omega | (unfold maxLen;omega) | (simp only [List.length_nil];omega) | (simp only [List.length_nil];unfold maxLen;omega) | skip
 refine dG (fun k=>((k:Int),List.take k stash)) (List.length stash) rfl fun I μ k hk _ go=>?_
 dsimp only
 (refine gR ?_;try with_reducible exact True.intro)
 by_cases hkn:k < List.length stash
 ·have hm:=hstm _ (List.getElem_mem hkn)
  rw [bD hkn]
  (repeat' first | intro _ | (refine go _ ?_ ?_ ?_) | (refine go _ ?_ ?_) | (with_reducible apply And.intro))
  all_goals first | omega | exact hm.1 | exact hm.2 _ (by assumption) | (simp only [List.length_take];unfold maxLen;omega) | (simp only [List.length_take];omega) | (rw [iB hkn];rfl)
 ·(repeat' first | intro _ | (refine go _ ?_ ?_ ?_) | (refine go _ ?_ ?_) | (with_reducible apply And.intro))
  all_goals first | omega | (have e:k = List.length stash:=(by omega);subst e;first | exact hfullm _ (by assumption) | exact hsrm _ (by assumption) | exact ⟨hsr,hsrm⟩ | omega | (unfold maxLen;omega) | (simp only [List.length_nil];omega) | (simp only [List.length_nil];unfold maxLen;omega) | (simp only [List.take_length,List.nil_append];done) | skip) | skip
theorem rC:Con.Holds Tryz.prog dV:=aT aY (aK aQZ (aK aNJ aU)) aP5 fun x hx hp=>aPV x hx hp
end Go.Proofs.YtmfpkkbhnmkfdaaGreat
