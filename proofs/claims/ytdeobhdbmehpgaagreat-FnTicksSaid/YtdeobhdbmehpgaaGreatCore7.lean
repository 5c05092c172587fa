/- Core7: lemmas. No conditions. -/
import Derived.Test.YtdeobhdbmehpgaaGreatCore6
namespace Go.Proofs.YtdeobhdbmehpgaaGreat
set_option maxRecDepth 100000
open Go.ChangeShapes Go.WideShapes Go.ChangeAt Go.RowKit Go.Deep
set_option linter.unusedVariables false
set_option linter.unusedSimpArgs false
abbrev uC:Ty:=.slice 80 aD
theorem fP (s:bA):bQ aA s=bQ bC s.2.1+(bQ aK s.2.2.1+(bQ uC s.2.2.2.2.2.1+(bQ aI s.2.2.2.2.2.2.1+(s.2.2.2.2.2.2.2.1.length+(s.2.2.2.2.2.2.2.2.1.length+(s.2.2.2.2.2.2.2.2.2.1.length+(s.2.2.2.2.2.2.2.2.2.2.1.length+bQ aI s.2.2.2.2.2.2.2.2.2.2.2.1))))))):=by
 have e:bQ aA s=0+(bQ bC s.2.1+(bQ aK s.2.2.1+(0+(0+(bQ uC s.2.2.2.2.2.1+(bQ aI s.2.2.2.2.2.2.1+(bQ aB s.2.2.2.2.2.2.2.1+(bQ aB s.2.2.2.2.2.2.2.2.1+(bQ aB s.2.2.2.2.2.2.2.2.2.1+(bQ aB s.2.2.2.2.2.2.2.2.2.2.1+(bQ aI s.2.2.2.2.2.2.2.2.2.2.2.1+(0+0)))))))))))):=rfl
 rw[gV,gV,gV,gV] at e
 omega
theorem bFM {pc:Int} {plan:List kC} {ops:List dJ} {last redo:Bool} {stash:List iQ} {full:cV} {X Y G D:List Int} {sr:cV} {sl:Int} {ss:Bool} (h:bQ aA (pc,plan,ops,last,redo,stash,full,X,Y,G,D,sr,sl,ss)≤1000000000) :
  List.length plan≤1000000000∧bQ aK ops≤1000000000∧List.length stash≤1000000000∧(∀ x∈stash,List.length x.2≤1000000000∧∀ y∈x.2,List.length y≤1000000000)∧(List.length full≤1000000000∧∀ y∈full,List.length y≤1000000000) ∧
  List.length X≤1000000000∧List.length Y≤1000000000∧List.length G≤1000000000∧List.length D≤1000000000∧(List.length sr≤1000000000∧∀ y∈sr,List.length y≤1000000000):=by
 have hz:=h
 rw[fP] at hz
 dsimp only at hz
 obtain ⟨_,⟨hplan,_⟩,_,_,_,hst,hfull,⟨hX,_⟩,⟨hY,_⟩,⟨hG,_⟩,⟨hD,_⟩,hsr,_⟩:=kA (t:=aA) h
 exact ⟨hplan,by omega,hst.1,fun x hx=>aIK (hst.2 x hx).2,aIK hfull,hX,hY,hG,hD,aIK hsr⟩
theorem aWO {e:TypeId} {t:Ty} (a b:List t.D):bQ (.slice e t) (a++b)=bQ (.slice e t) a+bQ (.slice e t) b:=by
 rw[dD,dD,dD,List.map_append,List.sum_append,List.length_append];omega
theorem aXV {e:TypeId} {t:Ty} (x:t.D):bQ (.slice e t) [x]=1+bQ t x:=by rw[dD];simp
theorem aD3 {e:TypeId} {t:Ty} (x d:t.D) (c:Nat):(l:List t.D)→(i:Nat)→(i<l.length→bQ t x≤bQ t (l.getD i d)+c)→bQ (.slice e t) (l.set i x)≤bQ (.slice e t) l+c
 | [],i,_=>by simp only[List.set_nil];omega
 | a :: l,0,h=>by
  have h1:bQ t x≤bQ t a+c:=h (Nat.zero_lt_succ _)
  rw[List.set_cons_zero,dD,dD]
  simp only[List.map_cons,List.sum_cons,List.length_cons];omega
 | a :: l,i+1,h=>by
  have h1:=aD3 (e:=e) x d c l i fun hi=>h (Nat.succ_lt_succ hi)
  rw[dD,dD] at h1
  rw[List.set_cons_succ,dD,dD]
  simp only[List.map_cons,List.sum_cons,List.length_cons];omega
theorem aP5 {e:TypeId} {r:cV} {n c:Nat} (h1:r.length≤n) (h2:∀ y∈r,List.length y≤c):bQ (.slice e aKN) r≤n+n * c:=by
 have h:=aE8 (bQ aKN) c r fun y hy=>by have e1:=gV y;have e2:bQ aKN y=bQ aB y:=rfl;have:=h2 y hy;omega
 have h3:r.length * c≤n * c:=Nat.mul_le_mul_right _ h1
 rw[dD];omega
theorem aOQ {α:Type} {n:Nat} (g:Nat→α) (h:n≤6):(mp n g).length≤6:=by rw[fR];exact h
theorem aGR (f:Int→Int→Int × Bool) (a b:List Int):(kD f a b).1.length≤6:=by
 unfold kD;split
 ·exact aOQ _ (jU (by assumption)).1
 ·exact Nat.zero_le _
theorem aKP (c:Int) (a:List Int):(sR c a).1.length≤6:=by
 unfold sR;split
 ·rename_i h;exact aOQ _ ((cL a).1 h.2).2.1
 ·exact Nat.zero_le _
theorem aRD (a:List Int):(nI a).length≤6:=by
 unfold nI;split
 ·rename_i h;exact aOQ _ ((cL a).1 h).2.1
 ·exact Nat.zero_le _
theorem aRE (x d:List Int):(nO x d).length≤6:=by
 unfold nO;split
 ·exact aOQ _ (jU (by assumption)).1
 ·exact Nat.zero_le _
theorem aV0 (m:aB3) (x:List Int):(jL m x).1.length≤6:=by
 unfold jL;split
 ·rename_i h
  obtain ⟨R,C,data,rfl,h1,h2,h3,h4,h5⟩:=lK h.1
  exact aOQ _ (by show (R:Int).toNat≤6;omega)
 ·exact Nat.zero_le _
theorem aQP (m:aB3) (x:List Int):(gF m x).1.length≤6:=by
 unfold gF;split
 ·rename_i h
  obtain ⟨R,C,data,rfl,h1,h2,h3,h4,h5⟩:=lK h.1
  exact aOQ _ (by show (C:Int).toNat≤6;omega)
 ·exact Nat.zero_le _
theorem aX8 (o:dJ) (x:List Int):(oT o x).1.length≤6:=by
 unfold oT
 split
 ·exact Nat.zero_le _
 split
 ·exact aV0 _ _
 split
 ·exact aGR _ _ _
 split
 ·exact aKP _ _
 split
 ·exact aGR _ _ _
 ·exact aRD _
theorem aZP (o:dJ) (x d:List Int):(iB o x d).1.length≤6:=by
 unfold iB
 split
 ·exact Nat.zero_le _
 split
 ·exact aQP _ _
 split
 ·rename_i h _ _
  exact ((cL d).1 ((cE _ _).1 (Decidable.not_not.1 h).2.2).1).2.1
 split
 ·exact aKP _ _
 split
 ·exact aGR _ _ _
 ·exact aRE _ _
theorem wB (m:List dJ) (x:List Int) (hx:x.length≤6):(k:Nat)→∀ y∈(jO m x k).1,List.length y≤6
 | 0,y,hy=>by
  obtain rfl:y=x:=by simpa [jO] using hy
  exact hx
 | k+1,y,hy=>by
  rw[jO,List.mem_append] at hy
  rcases hy with hy|hy
  ·exact wB m x hx k y hy
  ·obtain rfl:y=_:=List.mem_singleton.1 hy
   exact aX8 _ _
theorem bBU {α:Type} {l:List α} {i:Nat} {d:α} (h:l.length≤i):l.getD i d=d:=by rw[List.getD_eq_getElem?_getD,List.getElem?_eq_none h];rfl
theorem aHB {r:cV} (h:∀ y∈r,List.length y≤6) (i:Nat):(r.getD i []).length≤6:=by
 by_cases hi:i<r.length
 ·rw[aZ hi];exact h _ (List.getElem_mem hi)
 ·rw[bBU (by omega)];exact Nat.zero_le _
theorem aX7 (m:List dJ) (r:cV) (d:List Int) (n:Nat) (hd:d.length≤6):(k:Nat)→(eH m r d n k).2.1.length≤6
 | 0=>hd
 | k+1=>aZP _ _ _
theorem aJ6 {e:TypeId}:(a b:cV)→bQ (.slice e aKN) (eA a b)≤bQ (.slice e aKN) a
 | [],b=>by simp[eA]
 | a :: l,[]=>by simp[eA,dD]
 | a :: l,b :: m=>by
  have h:=aJ6 (e:=e) l m
  have h1:bQ aKN (qG a b)≤bQ aKN a:=by
   have e1:=gV (qG a b)
   have e2:=gV a
   have e3:=sA a b
   have e4:bQ aKN (qG a b)=bQ aB (qG a b):=rfl
   have e5:bQ aKN a=bQ aB a:=rfl
   omega
  have e:eA (a :: l) (b :: m)=qG a b :: eA l m:=rfl
  rw[dD,dD] at h
  rw[e,dD,dD]
  simp only[List.map_cons,List.sum_cons,List.length_cons];omega
def bAO (s:bA) (m:Int) (x t:List Int):Bool:=gG s&&(eF x (iJ s.2.2.1)&&(decide (dU s.2.2.2.2.2.1 m<0)&&(!s.2.2.2.1 || eF t (eM s.2.2.1))))
def bDR (s:bA) (x:List Int):List Int:=(jO s.2.2.1 x s.2.2.1.length).1.getD s.2.2.1.length []
def aCD (redo:Bool) (r:cV):cV:=if redo=true then r.take 1 else r
def aWX (s:bA) (m:Int) (x t:List Int):bA :=
 (s.1,s.2.1,s.2.2.1,s.2.2.2.1,s.2.2.2.2.1,s.2.2.2.2.2.1++[(m,aCD s.2.2.2.2.1 (jO s.2.2.1 x s.2.2.1.length).1)],s.2.2.2.2.2.2.1,[],
  (if s.2.2.2.1=true then s.2.2.2.2.2.2.2.2.1 else bDR s x),s.2.2.2.2.2.2.2.2.2.1,s.2.2.2.2.2.2.2.2.2.2.1,s.2.2.2.2.2.2.2.2.2.2.2.1,
  (if s.2.2.2.1=true then (dK s.2.2.2.2.2.2.2.2.2.2.2.2.1 (vA (bDR s x) t).1).1 else s.2.2.2.2.2.2.2.2.2.2.2.2.1),
  (s.2.2.2.2.2.2.2.2.2.2.2.2.2 || (jO s.2.2.1 x s.2.2.1.length).2 || (s.2.2.2.1&&((vA (bDR s x) t).2 || (dK s.2.2.2.2.2.2.2.2.2.2.2.2.1 (vA (bDR s x) t).1).2))))
def yU (s:bA) (m:Int) (x t:List Int):bA:=if bAO s m x t=true then aWX s m x t else s
def rH (s:bA) (m:Int):bA:=if gG s=true∧0≤dU s.2.2.2.2.2.1 m then
 (s.1,s.2.1,s.2.2.1,s.2.2.2.1,s.2.2.2.2.1,s.2.2.2.2.2.1,(jO s.2.2.1 ((s.2.2.2.2.2.1.getD (dU s.2.2.2.2.2.1 m).toNat (aV aD)).2.getD 0 []) s.2.2.1.length).1,s.2.2.2.2.2.2.2) else s
def mT (s:bA) (m:Int):cV:=if s.2.2.2.2.1=true then s.2.2.2.2.2.2.1 else (s.2.2.2.2.2.1.getD (dU s.2.2.2.2.2.1 m).toNat (aV aD)).2
def gP (s:bA) (m:Int) (t:List Int):List Int × Bool:=if s.2.2.2.1=true then kD eP ((mT s m).getD s.2.2.1.length []) t else (s.2.2.2.2.2.2.2.2.2.1,false)
def aJQ (m:List dJ) (r:cV):Bool:=decide (r.length=m.length+1)&&qK m r m.length
def bC3 (s:bA) (m:Int) (t:List Int):Bool:=gG s&&(decide (0≤dU s.2.2.2.2.2.1 m)&&(aJQ s.2.2.1 (mT s m)&&eF (gP s m t).1 (eM s.2.2.1)))
def bL5 (s:bA) (m:Int) (t:List Int):bA :=
 (s.1,s.2.1,s.2.2.1,s.2.2.2.1,s.2.2.2.2.1,s.2.2.2.2.2.1.take (dU s.2.2.2.2.2.1 m).toNat++s.2.2.2.2.2.1.drop ((dU s.2.2.2.2.2.1 m).toNat+1),[],s.2.2.2.2.2.2.2.1,s.2.2.2.2.2.2.2.2.1,[],
  (qO s.2.2.1 (mT s m) (gP s m t).1).2.1,gX s.2.2.2.2.2.2.2.2.2.2.2 ((qO s.2.2.1 (mT s m) (gP s m t).1).1,0,(gP s m t).2 || (qO s.2.2.1 (mT s m) (gP s m t).1).2.2))
def uH (s:bA) (m:Int) (t:List Int):bA:=if bC3 s m t=true then bL5 s m t else s
theorem aFS {v:List Int} {n:Int} (h:eF v n=true):v.length≤6:=((cL _).1 ((cE _ _).1 h).1).2.1
theorem uZ {s:bA} {m:Int} {x t:List Int} (h:gG s=false∨eF x (iJ s.2.2.1)=false∨0≤dU s.2.2.2.2.2.1 m∨(s.2.2.2.1=true∧eF t (eM s.2.2.1)=false)):s=yU s m x t:=by
 unfold yU;rw[if_neg]
 unfold bAO
 simp only[Bool.and_eq_true,Bool.or_eq_true,decide_eq_true_eq,Bool.not_eq_true']
 rintro ⟨h1,h2,h3,h4⟩
 rcases h with h|h|h|⟨h,h'⟩
 ·rw[h] at h1;cases h1
 ·rw[h] at h2;cases h2
 ·omega
 ·rw[h,h'] at h4;simp at h4
theorem aIP {s:bA} {m:Int} {x t:List Int} (h1:gG s=true) (h2:eF x (iJ s.2.2.1)=true) (h3:dU s.2.2.2.2.2.1 m<0) (h4:s.2.2.2.1=true→eF t (eM s.2.2.1)=true):aWX s m x t=yU s m x t:=by
 unfold yU;rw[if_pos]
 unfold bAO
 simp only[Bool.and_eq_true,Bool.or_eq_true,decide_eq_true_eq,Bool.not_eq_true']
 refine ⟨h1,h2,h3,?_⟩
 cases hh:s.2.2.2.1
 ·exact .inl rfl
 ·exact .inr (h4 hh)
theorem aIN {s:bA} {m:Int} {x t:List Int} {st:List iQ} {l:Int} {b:Bool} (hla:s.2.2.2.1=true) (e1:st=s.2.2.2.2.2.1++[(m,aCD s.2.2.2.2.1 (jO s.2.2.1 x s.2.2.1.length).1)])
  (e3:l=(dK s.2.2.2.2.2.2.2.2.2.2.2.2.1 (vA (List.getD (jO s.2.2.1 x s.2.2.1.length).1 (List.length s.2.2.1) (aV aB)) t).1).1)
  (e4:b=(s.2.2.2.2.2.2.2.2.2.2.2.2.2 || (jO s.2.2.1 x s.2.2.1.length).2 || ((vA (List.getD (jO s.2.2.1 x s.2.2.1.length).1 (List.length s.2.2.1) (aV aB)) t).2 || (dK s.2.2.2.2.2.2.2.2.2.2.2.2.1 (vA (List.getD (jO s.2.2.1 x s.2.2.1.length).1 (List.length s.2.2.1) (aV aB)) t).1).2))) :
  (s.1,s.2.1,s.2.2.1,s.2.2.2.1,s.2.2.2.2.1,st,s.2.2.2.2.2.2.1,([]:List Int),s.2.2.2.2.2.2.2.2.1,s.2.2.2.2.2.2.2.2.2.1,s.2.2.2.2.2.2.2.2.2.2.1,s.2.2.2.2.2.2.2.2.2.2.2.1,l,b)=aWX s m x t:=by
 subst e1 e3 e4;unfold aWX;rw[hla];rfl
theorem aIM {s:bA} {m:Int} {x t:List Int} {st:List iQ} {b:Bool} (hla:s.2.2.2.1=false) (e1:st=s.2.2.2.2.2.1++[(m,aCD s.2.2.2.2.1 (jO s.2.2.1 x s.2.2.1.length).1)])
  (e4:b=(s.2.2.2.2.2.2.2.2.2.2.2.2.2 || (jO s.2.2.1 x s.2.2.1.length).2)) :
  (s.1,s.2.1,s.2.2.1,s.2.2.2.1,s.2.2.2.2.1,st,s.2.2.2.2.2.2.1,([]:List Int),(List.getD (jO s.2.2.1 x s.2.2.1.length).1 (List.length s.2.2.1) (aV aB)),s.2.2.2.2.2.2.2.2.2.1,s.2.2.2.2.2.2.2.2.2.2.1,s.2.2.2.2.2.2.2.2.2.2.2.1,s.2.2.2.2.2.2.2.2.2.2.2.2.1,b)=aWX s m x t:=by
 subst e1 e4;unfold aWX;rw[hla];simp;rfl
theorem bB0 {a b c d:Bool} (h:a=true):true=(a || b || (c || d)):=by rw[h];rfl
theorem bBR {a b c d:Bool} (h:b=true):true=(a || b || (c || d)):=by rw[h];simp
theorem bBT {a b c d:Bool} (h:c=true):true=(a || b || (c || d)):=by rw[h];simp
theorem bAL {a b c d:Bool} (h1:a=false) (h2:b=false) (h3:c=false):d=(a || b || (c || d)):=by rw[h1,h2,h3];simp
theorem aQG {r:cV} {b:Bool} (h:b=true):List.drop 0 (List.take 1 r)=aCD b r:=by subst h;rfl
theorem aRA {r:cV} {b:Bool} (h:b=false):r=aCD b r:=by subst h;rfl
noncomputable def dA:Con:=⟨76,aA,aA,[.val ⟨true,aA,[]⟩],[⟨true,aA,[0,2,2,0,0,2,2,2,2,2,2,2,0,0]⟩],false,none,
 ((fun x=>bQ aA x≤1000000000):(bA)→Prop),
 ((fun x=>x):(bA)→(bA))⟩
def vH:T :=
 .bNU (.bO0 76 aE 16) (.bNV bC bC (.nl 76 aE) (aJ aA 1 (.Z 0))) <|
 .call 0 (aJ aA 2 (.Z 0)) <|
 .bNU (.bNX 80 aD) (aJ aA 5 (.Z 0)) <|
 .loop (.bNT tI (.slice 80 aD)) (.bNV tI (.slice 80 aD) (.ci .i64 0) (.nl 80 aD)) <|
  .bNU (.cmp .lss .i64) (.bNV tI tI (.p1 tI (.slice 80 aD) (.Z 4)) (.Z 3)) <|
  .ite (.Z 5) (
   .bNU (.bNY 80 aD) (.bNV (.slice 80 aD) tI (aJ aA 5 (.Z 0)) (.p1 tI (.slice 80 aD) (.Z 4))) <|
   .call 1 (aO aD 1 (.Z 6)) <|
   .bNU (.lit 80 aD 1) (.bNV tI aI (.p1 tI aI (.Z 6)) (.Z 7)) <|
   .bNU (.bO0 80 aD 32) (.bNV (.slice 80 aD) (.slice 80 aD) (aO (.bNT tI (.slice 80 aD)) 1 (.Z 4)) (.Z 8)) <|
   .bNU (.ar .add .i64) (.bNV tI tI (.p1 tI (.slice 80 aD) (.Z 4)) (.ci .i64 1)) <|
   .bNW 0 (.bNV tI (.slice 80 aD) (.Z 10) (.Z 9))) (
   .call 1 (aJ aA 6 (.Z 0)) <|
   .call 2 (aJ aA 7 (.Z 0)) <|
   .call 2 (aJ aA 8 (.Z 0)) <|
   .call 2 (aJ aA 9 (.Z 0)) <|
   .call 2 (aJ aA 10 (.Z 0)) <|
   .call 3 (aO aA 11 (.Z 0)) <|
   .ret (bB aA [(.p1 tI cU (.Z 0)),(.Z 1),(.Z 2),(aJ aA 3 (.Z 0)),(aJ aA 4 (.Z 0)),(aO (.bNT tI (.slice 80 aD)) 1 (.Z 4)),(.Z 6),(.Z 7),(.Z 8),(.Z 9),(.Z 10),(.Z 11)]))
theorem aMY:bM Tryz.prog [pY,eT,bN,lW] dA false 3000 ⟨[(2991,1004,[.dr 20,.dr 19,.dr 14,.dr 11,.dr 8,.dr 18,.dr 16,.dr 13,.dr 10,.dr 7,.dr 17,.dr 15,.dr 12,.dr 9,.dr 6,.dr 0,.tm 23 0,.sl 24])],[(2981,3007,[33],[])]⟩ = .ok vH:=by kernel_rfl
theorem aM9 (x:bA) (hx:okD aA x) (hp:(fun x=>bQ aA x≤1000000000) x):vH.wp [pY,eT,bN,lW] [⟨aA,x⟩] [] (fun v=>v.as aA=(fun x=>x) x):=by
 obtain ⟨pc,plan,ops,last,redo,stash,full,X,Y,G,D,sr,sl,ss⟩:=x
 obtain ⟨hplan,hops,hst,hstm,⟨hfull,hfullm⟩,hX,hY,hG,hD,⟨hsr,hsrm⟩⟩:=bFM hp
 delta vH pY eT bN lW;refine dB ?_;try with_reducible exact True.intro
 (repeat' first|intro _|(with_reducible apply And.intro))
 all_goals first|omega|(unfold maxLen;omega)|(simp only[List.length_nil];omega)|(simp only[List.length_nil];unfold maxLen;omega)|skip
 refine cZ (fun k=>((k:Int),List.take k stash)) (List.length stash) rfl fun I μ k hk _ go=>?_
 dsimp only
 refine dT ?_
 by_cases hkn:k<List.length stash
 ·have hm:=hstm _ (List.getElem_mem hkn)
  rw[aZ hkn]
  (repeat' first|intro _|(refine go _ ?_ ?_ ?_)|(refine go _ ?_ ?_)|(with_reducible apply And.intro))
  all_goals first|omega|exact hm.1|exact hm.2 _ (by assumption)|(simp only[List.length_take];unfold maxLen;omega)|(simp only[List.length_take];omega)|(rw[iI hkn];rfl)
 ·(repeat' first|intro _|(refine go _ ?_ ?_ ?_)|(refine go _ ?_ ?_)|(with_reducible apply And.intro))
  all_goals first|omega|(have e:k=List.length stash:=(by omega);subst e;first|exact hfullm _ (by assumption)|exact hsrm _ (by assumption)|exact ⟨hsr,hsrm⟩|omega|(unfold maxLen;omega)|(simp only[List.length_nil];omega)|(simp only[List.length_nil];unfold maxLen;omega)|(simp only[List.take_length,List.nil_append];done)|skip)|skip
theorem oK:Con.Holds Tryz.prog dA:=aS aW (aH aSX (aH xC (aH gK (aH aN5 aR)))) aMY aM9
noncomputable def dZ:Con:=⟨129,aA,aA,[.val ⟨true,aA,[]⟩],[⟨true,aA,[0,2,2,0,0,2,2,2,2,2,2,2,0,0]⟩],false,none,
 ((fun x=>bQ aA x≤1000000000):(bA)→Prop),
 ((fun x=>x):(bA)→(bA))⟩
def yR:T:=.call 0 (aJ aA 2 (.Z 0)) <|
 .bNU (.bO0 76 aE 16) (.bNV bC bC (.nl 76 aE) (aJ aA 1 (.Z 0))) <|
 .loop (.bNT tI (.slice 80 aD)) (.bNV tI (.slice 80 aD) (.ci .i64 0) (.nl 80 aD)) <|
  .bNU (.bNX 80 aD) (aJ aA 5 (.Z 0)) <|
  .bNU (.cmp .lss .i64) (.bNV tI tI (.p1 tI (.slice 80 aD) (.Z 3)) (.Z 4)) <|
  .ite (.Z 5) (
   .bNU (.bNY 80 aD) (.bNV (.slice 80 aD) tI (aJ aA 5 (.Z 0)) (.p1 tI (.slice 80 aD) (.Z 3))) <|
   .bNU (.bNY 80 aD) (.bNV (.slice 80 aD) tI (aJ aA 5 (.Z 0)) (.p1 tI (.slice 80 aD) (.Z 3))) <|
   .call 1 (aO aD 1 (.Z 7)) <|
   .bNU (.lit 80 aD 1) (.bNV tI aI (.p1 tI aI (.Z 6)) (.Z 8)) <|
   .bNU (.bO0 80 aD 32) (.bNV (.slice 80 aD) (.slice 80 aD) (aO (.bNT tI (.slice 80 aD)) 1 (.Z 3)) (.Z 9)) <|
   .bNU (.ar .add .i64) (.bNV tI tI (.p1 tI (.slice 80 aD) (.Z 3)) (.ci .i64 1)) <|
   .bNW 0 (.bNV tI (.slice 80 aD) (.Z 11) (.Z 10))) (
   .call 1 (aJ aA 6 (.Z 0)) <|
   .bNU (.bO0 3 tI 8) (.bNV aB aB (.nl 3 tI) (aJ aA 7 (.Z 0))) <|
   .bNU (.bO0 3 tI 8) (.bNV aB aB (.nl 3 tI) (aJ aA 8 (.Z 0))) <|
   .bNU (.bO0 3 tI 8) (.bNV aB aB (.nl 3 tI) (aJ aA 9 (.Z 0))) <|
   .bNU (.bO0 3 tI 8) (.bNV aB aB (.nl 3 tI) (aJ aA 10 (.Z 0))) <|
   .call 1 (aJ aA 11 (.Z 0)) <|
   .ret (bB aA [(.p1 tI cU (.Z 0)),(.Z 2),(.Z 1),(aJ aA 3 (.Z 0)),(aJ aA 4 (.Z 0)),(aO (.bNT tI (.slice 80 aD)) 1 (.Z 3)),(.Z 6),(.Z 7),(.Z 8),(.Z 9),(.Z 10),(.Z 11),(aO aA 12 (.Z 0))]))
theorem aTW:bM Tryz.prog [kQ,oZ] dZ false 3000 ⟨[(2985,1003,iT 16 5++[.dr 0,.tm 4 0,.sl 24])],[(2977,3006,[38],[])]⟩ = .ok yR:=by kernel_rfl
theorem aS2 (x:bA) (hx:okD aA x) (hp:(fun x=>bQ aA x≤1000000000) x):yR.wp [kQ,oZ] [⟨aA,x⟩] [] (fun v=>v.as aA=(fun x=>x) x):=by
 obtain ⟨pc,plan,ops,last,redo,stash,full,X,Y,G,D,sr,sl,ss⟩:=x
 obtain ⟨hplan,hops,hst,hstm,⟨hfull,hfullm⟩,hX,hY,hG,hD,⟨hsr,hsrm⟩⟩:=bFM hp
 delta yR kQ oZ;refine dB ?_;try with_reducible exact True.intro
 (repeat' first|intro _|(with_reducible apply And.intro))
 all_goals first|omega|(unfold maxLen;omega)|(simp only[List.length_nil];omega)|(simp only[List.length_nil];unfold maxLen;omega)|skip
 refine cZ (fun k=>((k:Int),List.take k stash)) (List.length stash) rfl fun I μ k hk _ go=>?_
 dsimp only
 refine dT ?_
 by_cases hkn:k<List.length stash
 ·have hm:=hstm _ (List.getElem_mem hkn)
  rw[aZ hkn]
  (repeat' first|intro _|(refine go _ ?_ ?_ ?_)|(refine go _ ?_ ?_)|(with_reducible apply And.intro))
  all_goals first|omega|exact hm.1|exact hm.2 _ (by assumption)|(simp only[List.length_take];unfold maxLen;omega)|(simp only[List.length_take];omega)|(rw[iI hkn];rfl)
 ·(repeat' first|intro _|(refine go _ ?_ ?_ ?_)|(refine go _ ?_ ?_)|(with_reducible apply And.intro))
  all_goals first|omega|(have e:k=List.length stash:=(by omega);subst e;first|exact hfullm _ (by assumption)|exact hsrm _ (by assumption)|exact ⟨hsr,hsrm⟩|omega|(unfold maxLen;omega)|(simp only[List.length_nil];omega)|(simp only[List.length_nil];unfold maxLen;omega)|(simp only[List.take_length,List.nil_append];done)|skip)|skip
theorem tE:Con.Holds Tryz.prog dZ:=aS aW (aH aJR (aH aUU aR)) aTW aS2
end Go.Proofs.YtdeobhdbmehpgaaGreat
