/- Core7: lemmas. No conditions. -/
import Derived.Test.YtabamggdmdednaaGreatCore6
namespace Go.Proofs.YtabamggdmdednaaGreat
set_option maxRecDepth 100000
open Go.ChangeShapes Go.WideShapes Go.ChangeAt Go.RowKit Go.Deep
set_option linter.unusedVariables false
set_option linter.unusedSimpArgs false
abbrev pI:Ty:=.slice 82 aF
theorem fN (s:bC):bM aA s=bM aU s.2.1+(bM aE s.2.2.1+(bM pI s.2.2.2.2.2.1+(bM aL s.2.2.2.2.2.2.1+(s.2.2.2.2.2.2.2.1.length+(s.2.2.2.2.2.2.2.2.1.length+(s.2.2.2.2.2.2.2.2.2.1.length+(s.2.2.2.2.2.2.2.2.2.2.1.length+bM aL s.2.2.2.2.2.2.2.2.2.2.2.1))))))):=by
 have e:bM aA s=0+(bM aU s.2.1+(bM aE s.2.2.1+(0+(0+(bM pI s.2.2.2.2.2.1+(bM aL s.2.2.2.2.2.2.1+(bM aB s.2.2.2.2.2.2.2.1+(bM aB s.2.2.2.2.2.2.2.2.1+(bM aB s.2.2.2.2.2.2.2.2.2.1+(bM aB s.2.2.2.2.2.2.2.2.2.2.1+(bM aL s.2.2.2.2.2.2.2.2.2.2.2.1+(0+0)))))))))))):=rfl
 rw[gO,gO,gO,gO] at e
 omega
theorem bNK {pc:Int} {plan:List fX} {ops:List dI} {last redo:Bool} {stash:List eX} {full:cZ} {X Y G D:List Int} {sr:cZ} {sl:Int} {ss:Bool} (h:bM aA (pc,plan,ops,last,redo,stash,full,X,Y,G,D,sr,sl,ss)≤1000000000) :
  List.length plan≤1000000000∧bM aE ops≤1000000000∧List.length stash≤1000000000∧(∀ x∈stash,List.length x.2≤1000000000∧∀ y∈x.2,List.length y≤1000000000)∧(List.length full≤1000000000∧∀ y∈full,List.length y≤1000000000) ∧
  List.length X≤1000000000∧List.length Y≤1000000000∧List.length G≤1000000000∧List.length D≤1000000000∧(List.length sr≤1000000000∧∀ y∈sr,List.length y≤1000000000):=by
 have hz:=h
 rw[fN] at hz
 dsimp only at hz
 obtain ⟨_,⟨hplan,_⟩,_,_,_,hst,hfull,⟨hX,_⟩,⟨hY,_⟩,⟨hG,_⟩,⟨hD,_⟩,hsr,_⟩:=gZ (t:=aA) h
 exact ⟨hplan,by omega,hst.1,fun x hx=>aL5 (hst.2 x hx).2,aL5 hfull,hX,hY,hG,hD,aL5 hsr⟩
theorem bLQ {e:TypeId} {t:Ty} (a b:List t.D):bM (.slice e t) (a++b)=bM (.slice e t) a+bM (.slice e t) b:=by
 rw[dG,dG,dG,List.map_append,List.sum_append,List.length_append];omega
theorem bLR {e:TypeId} {t:Ty} (x:t.D):bM (.slice e t) [x]=1+bM t x:=by rw[dG];simp
theorem aJK {e:TypeId} {t:Ty} (x d:t.D) (c:Nat):(l:List t.D)→(i:Nat)→(i<l.length→bM t x≤bM t (l.getD i d)+c)→bM (.slice e t) (l.set i x)≤bM (.slice e t) l+c
 | [],i,_=>by simp only[List.set_nil];omega
 | a :: l,0,h=>by
  have h1:bM t x≤bM t a+c:=h (Nat.zero_lt_succ _)
  rw[List.set_cons_zero,dG,dG]
  simp only[List.map_cons,List.sum_cons,List.length_cons];omega
 | a :: l,i+1,h=>by
  have h1:=aJK (e:=e) x d c l i fun hi=>h (Nat.succ_lt_succ hi)
  rw[dG,dG] at h1
  rw[List.set_cons_succ,dG,dG]
  simp only[List.map_cons,List.sum_cons,List.length_cons];omega
theorem aSE {e:TypeId} {r:cZ} {n c:Nat} (h1:r.length≤n) (h2:∀ y∈r,List.length y≤c):bM (.slice e aHZ) r≤n+n * c:=by
 have h:=aG7 (bM aHZ) c r fun y hy=>by have e1:=gO y;have e2:bM aHZ y=bM aB y:=rfl;have:=h2 y hy;omega
 have h3:r.length * c≤n * c:=Nat.mul_le_mul_right _ h1
 rw[dG];omega
theorem aRG {α:Type} {n:Nat} (g:Nat→α) (h:n≤6):(mp n g).length≤6:=by rw[fL];exact h
theorem aJB (f:Int→Int→Int × Bool) (a b:List Int):(kZ f a b).1.length≤6:=by
 unfold kZ;split
 ·exact aRG _ (kO (by assumption)).1
 ·exact Nat.zero_le _
theorem aNE (c:Int) (a:List Int):(uS c a).1.length≤6:=by
 unfold uS;split
 ·rename_i h;exact aRG _ ((cT a).1 h.2).2.1
 ·exact Nat.zero_le _
theorem aU7 (a:List Int):(oZ a).length≤6:=by
 unfold oZ;split
 ·rename_i h;exact aRG _ ((cT a).1 h).2.1
 ·exact Nat.zero_le _
theorem aU6 (x d:List Int):(oX x d).length≤6:=by
 unfold oX;split
 ·exact aRG _ (kO (by assumption)).1
 ·exact Nat.zero_le _
theorem aVT (m:aC5) (x:List Int):(kJ m x).1.length≤6:=by
 unfold kJ;split
 ·rename_i h
  obtain ⟨R,C,data,rfl,h1,h2,h3,h4,h5⟩:=mJ h.1
  exact aRG _ (by show (R:Int).toNat≤6;omega)
 ·exact Nat.zero_le _
theorem aUS (m:aC5) (x:List Int):(gT m x).1.length≤6:=by
 unfold gT;split
 ·rename_i h
  obtain ⟨R,C,data,rfl,h1,h2,h3,h4,h5⟩:=mJ h.1
  exact aRG _ (by show (C:Int).toNat≤6;omega)
 ·exact Nat.zero_le _
theorem bD6 (o:dI) (x:List Int):(qN o x).1.length≤6:=by
 unfold qN
 split
 ·exact Nat.zero_le _
 split
 ·exact aVT _ _
 split
 ·exact aJB _ _ _
 split
 ·exact aNE _ _
 split
 ·exact aJB _ _ _
 ·exact aU7 _
theorem bCY (o:dI) (x d:List Int):(iS o x d).1.length≤6:=by
 unfold iS
 split
 ·exact Nat.zero_le _
 split
 ·exact aUS _ _
 split
 ·rename_i h _ _
  exact ((cT d).1 ((cI _ _).1 (Decidable.not_not.1 h).2.2).1).2.1
 split
 ·exact aNE _ _
 split
 ·exact aJB _ _ _
 ·exact aU6 _ _
theorem yA (m:List dI) (x:List Int) (hx:x.length≤6):(k:Nat)→∀ y∈(kN m x k).1,List.length y≤6
 | 0,y,hy=>by
  obtain rfl:y=x:=by simpa [kN] using hy
  exact hx
 | k+1,y,hy=>by
  rw[kN,List.mem_append] at hy
  rcases hy with hy|hy
  ·exact yA m x hx k y hy
  ·obtain rfl:y=_:=List.mem_singleton.1 hy
   exact bD6 _ _
theorem aH6 {α:Type} {l:List α} {i:Nat} {d:α} (h:l.length≤i):l.getD i d=d:=by rw[List.getD_eq_getElem?_getD,List.getElem?_eq_none h];rfl
theorem aJU {r:cZ} (h:∀ y∈r,List.length y≤6) (i:Nat):(r.getD i []).length≤6:=by
 by_cases hi:i<r.length
 ·rw[aZ hi];exact h _ (List.getElem_mem hi)
 ·rw[aH6 (by omega)];exact Nat.zero_le _
theorem bCE (m:List dI) (r:cZ) (d:List Int) (n:Nat) (hd:d.length≤6):(k:Nat)→(eH m r d n k).2.1.length≤6
 | 0=>hd
 | k+1=>bCY _ _ _
theorem aLL {e:TypeId}:(a b:cZ)→bM (.slice e aHZ) (eC a b)≤bM (.slice e aHZ) a
 | [],b=>by simp[eC]
 | a :: l,[]=>by simp[eC,dG]
 | a :: l,b :: m=>by
  have h:=aLL (e:=e) l m
  have h1:bM aHZ (rJ a b)≤bM aHZ a:=by
   have e1:=gO (rJ a b)
   have e2:=gO a
   have e3:=tD a b
   have e4:bM aHZ (rJ a b)=bM aB (rJ a b):=rfl
   have e5:bM aHZ a=bM aB a:=rfl
   omega
  have e:eC (a :: l) (b :: m)=rJ a b :: eC l m:=rfl
  rw[dG,dG] at h
  rw[e,dG,dG]
  simp only[List.map_cons,List.sum_cons,List.length_cons];omega
def bFW (s:bC) (m:Int) (x t:List Int):Bool:=gR s&&(eQ x (jT s.2.2.1)&&(decide (dX s.2.2.2.2.2.1 m<0)&&(!s.2.2.2.1 || eQ t (fH s.2.2.1))))
def bIR (s:bC) (x:List Int):List Int:=(kN s.2.2.1 x s.2.2.1.length).1.getD s.2.2.1.length []
def aEH (redo:Bool) (r:cZ):cZ:=if redo=true then r.take 1 else r
def bAW (s:bC) (m:Int) (x t:List Int):bC :=
 (s.1,s.2.1,s.2.2.1,s.2.2.2.1,s.2.2.2.2.1,s.2.2.2.2.2.1++[(m,aEH s.2.2.2.2.1 (kN s.2.2.1 x s.2.2.1.length).1)],s.2.2.2.2.2.2.1,[],
  (if s.2.2.2.1=true then s.2.2.2.2.2.2.2.2.1 else bIR s x),s.2.2.2.2.2.2.2.2.2.1,s.2.2.2.2.2.2.2.2.2.2.1,s.2.2.2.2.2.2.2.2.2.2.2.1,
  (if s.2.2.2.1=true then (dP s.2.2.2.2.2.2.2.2.2.2.2.2.1 (wW (bIR s x) t).1).1 else s.2.2.2.2.2.2.2.2.2.2.2.2.1),
  (s.2.2.2.2.2.2.2.2.2.2.2.2.2 || (kN s.2.2.1 x s.2.2.1.length).2 || (s.2.2.2.1&&((wW (bIR s x) t).2 || (dP s.2.2.2.2.2.2.2.2.2.2.2.2.1 (wW (bIR s x) t).1).2))))
def aCQ (s:bC) (m:Int) (x t:List Int):bC:=if bFW s m x t=true then bAW s m x t else s
def uQ (s:bC) (m:Int):bC:=if gR s=true∧0≤dX s.2.2.2.2.2.1 m then
 (s.1,s.2.1,s.2.2.1,s.2.2.2.1,s.2.2.2.2.1,s.2.2.2.2.2.1,(kN s.2.2.1 ((s.2.2.2.2.2.1.getD (dX s.2.2.2.2.2.1 m).toNat (aW aF)).2.getD 0 []) s.2.2.1.length).1,s.2.2.2.2.2.2.2) else s
def nX (s:bC) (m:Int):cZ:=if s.2.2.2.2.1=true then s.2.2.2.2.2.2.1 else (s.2.2.2.2.2.1.getD (dX s.2.2.2.2.2.1 m).toNat (aW aF)).2
def iC (s:bC) (m:Int) (t:List Int):List Int × Bool:=if s.2.2.2.1=true then kZ eP ((nX s m).getD s.2.2.1.length []) t else (s.2.2.2.2.2.2.2.2.2.1,false)
def aMO (m:List dI) (r:cZ):Bool:=decide (r.length=m.length+1)&&rL m r m.length
def bFG (s:bC) (m:Int) (t:List Int):Bool:=gR s&&(decide (0≤dX s.2.2.2.2.2.1 m)&&(aMO s.2.2.1 (nX s m)&&eQ (iC s m t).1 (fH s.2.2.1)))
def bOP (s:bC) (m:Int) (t:List Int):bC :=
 (s.1,s.2.1,s.2.2.1,s.2.2.2.1,s.2.2.2.2.1,s.2.2.2.2.2.1.take (dX s.2.2.2.2.2.1 m).toNat++s.2.2.2.2.2.1.drop ((dX s.2.2.2.2.2.1 m).toNat+1),[],s.2.2.2.2.2.2.2.1,s.2.2.2.2.2.2.2.2.1,[],
  (rS s.2.2.1 (nX s m) (iC s m t).1).2.1,iJ s.2.2.2.2.2.2.2.2.2.2.2 ((rS s.2.2.1 (nX s m) (iC s m t).1).1,0,(iC s m t).2 || (rS s.2.2.1 (nX s m) (iC s m t).1).2.2))
def xC (s:bC) (m:Int) (t:List Int):bC:=if bFG s m t=true then bOP s m t else s
theorem aI1 {v:List Int} {n:Int} (h:eQ v n=true):v.length≤6:=((cT _).1 ((cI _ _).1 h).1).2.1
theorem wS {s:bC} {m:Int} {x t:List Int} (h:gR s=false∨eQ x (jT s.2.2.1)=false∨0≤dX s.2.2.2.2.2.1 m∨(s.2.2.2.1=true∧eQ t (fH s.2.2.1)=false)):s=aCQ s m x t:=by
 unfold aCQ;rw[if_neg]
 unfold bFW
 simp only[Bool.and_eq_true,Bool.or_eq_true,decide_eq_true_eq,Bool.not_eq_true']
 rintro ⟨h1,h2,h3,h4⟩
 rcases h with h|h|h|⟨h,h'⟩
 ·rw[h] at h1;cases h1
 ·rw[h] at h2;cases h2
 ·omega
 ·rw[h,h'] at h4;simp at h4
theorem aKW {s:bC} {m:Int} {x t:List Int} (h1:gR s=true) (h2:eQ x (jT s.2.2.1)=true) (h3:dX s.2.2.2.2.2.1 m<0) (h4:s.2.2.2.1=true→eQ t (fH s.2.2.1)=true):bAW s m x t=aCQ s m x t:=by
 unfold aCQ;rw[if_pos]
 unfold bFW
 simp only[Bool.and_eq_true,Bool.or_eq_true,decide_eq_true_eq,Bool.not_eq_true']
 refine ⟨h1,h2,h3,?_⟩
 cases hh:s.2.2.2.1
 ·exact .inl rfl
 ·exact .inr (h4 hh)
theorem aL1 {s:bC} {m:Int} {x t:List Int} {st:List eX} {l:Int} {b:Bool} (hla:s.2.2.2.1=true) (e1:st=s.2.2.2.2.2.1++[(m,aEH s.2.2.2.2.1 (kN s.2.2.1 x s.2.2.1.length).1)])
  (e3:l=(dP s.2.2.2.2.2.2.2.2.2.2.2.2.1 (wW (List.getD (kN s.2.2.1 x s.2.2.1.length).1 (List.length s.2.2.1) (aW aB)) t).1).1)
  (e4:b=(s.2.2.2.2.2.2.2.2.2.2.2.2.2 || (kN s.2.2.1 x s.2.2.1.length).2 || ((wW (List.getD (kN s.2.2.1 x s.2.2.1.length).1 (List.length s.2.2.1) (aW aB)) t).2 || (dP s.2.2.2.2.2.2.2.2.2.2.2.2.1 (wW (List.getD (kN s.2.2.1 x s.2.2.1.length).1 (List.length s.2.2.1) (aW aB)) t).1).2))) :
  (s.1,s.2.1,s.2.2.1,s.2.2.2.1,s.2.2.2.2.1,st,s.2.2.2.2.2.2.1,([]:List Int),s.2.2.2.2.2.2.2.2.1,s.2.2.2.2.2.2.2.2.2.1,s.2.2.2.2.2.2.2.2.2.2.1,s.2.2.2.2.2.2.2.2.2.2.2.1,l,b)=bAW s m x t:=by
 subst e1 e3 e4;unfold bAW;rw[hla];rfl
theorem aLB {s:bC} {m:Int} {x t:List Int} {st:List eX} {b:Bool} (hla:s.2.2.2.1=false) (e1:st=s.2.2.2.2.2.1++[(m,aEH s.2.2.2.2.1 (kN s.2.2.1 x s.2.2.1.length).1)])
  (e4:b=(s.2.2.2.2.2.2.2.2.2.2.2.2.2 || (kN s.2.2.1 x s.2.2.1.length).2)) :
  (s.1,s.2.1,s.2.2.1,s.2.2.2.1,s.2.2.2.2.1,st,s.2.2.2.2.2.2.1,([]:List Int),(List.getD (kN s.2.2.1 x s.2.2.1.length).1 (List.length s.2.2.1) (aW aB)),s.2.2.2.2.2.2.2.2.2.1,s.2.2.2.2.2.2.2.2.2.2.1,s.2.2.2.2.2.2.2.2.2.2.2.1,s.2.2.2.2.2.2.2.2.2.2.2.2.1,b)=bAW s m x t:=by
 subst e1 e4;unfold bAW;rw[hla];simp;rfl
theorem bG2 {a b c d:Bool} (h:a=true):true=(a || b || (c || d)):=by rw[h];rfl
theorem bEZ {a b c d:Bool} (h:b=true):true=(a || b || (c || d)):=by rw[h];simp
theorem bFO {a b c d:Bool} (h:c=true):true=(a || b || (c || d)):=by rw[h];simp
theorem bEG {a b c d:Bool} (h1:a=false) (h2:b=false) (h3:c=false):d=(a || b || (c || d)):=by rw[h1,h2,h3];simp
theorem aTU {r:cZ} {b:Bool} (h:b=true):List.drop 0 (List.take 1 r)=aEH b r:=by subst h;rfl
theorem aT8 {r:cZ} {b:Bool} (h:b=false):r=aEH b r:=by subst h;rfl
noncomputable def dF:Con:=⟨61,aA,aA,[.val ⟨true,aA,[]⟩],[⟨true,aA,[0,2,2,0,0,2,2,2,2,2,2,2,0,0]⟩],false,none,
 ((fun x=>bM aA x≤1000000000):(bC)→Prop),
 ((fun x=>x):(bC)→(bC))⟩
def xG:T :=
 .bRX (.bS3 102 aD 16) (.bRY aU aU (.nl 102 aD) (aK aA 1 (.Z 0))) <|
 .call 0 (aK aA 2 (.Z 0)) <|
 .bRX (.bS0 82 aF) (aK aA 5 (.Z 0)) <|
 .loop (.bRW tI (.slice 82 aF)) (.bRY tI (.slice 82 aF) (.ci .i64 0) (.nl 82 aF)) <|
  .bRX (.cmp .lss .i64) (.bRY tI tI (.p1 tI (.slice 82 aF) (.Z 4)) (.Z 3)) <|
  .ite (.Z 5) (
   .bRX (.bS1 82 aF) (.bRY (.slice 82 aF) tI (aK aA 5 (.Z 0)) (.p1 tI (.slice 82 aF) (.Z 4))) <|
   .call 1 (aP aF 1 (.Z 6)) <|
   .bRX (.lit 82 aF 1) (.bRY tI aL (.p1 tI aL (.Z 6)) (.Z 7)) <|
   .bRX (.bS3 82 aF 32) (.bRY (.slice 82 aF) (.slice 82 aF) (aP (.bRW tI (.slice 82 aF)) 1 (.Z 4)) (.Z 8)) <|
   .bRX (.ar .add .i64) (.bRY tI tI (.p1 tI (.slice 82 aF) (.Z 4)) (.ci .i64 1)) <|
   .bRZ 0 (.bRY tI (.slice 82 aF) (.Z 10) (.Z 9))) (
   .call 1 (aK aA 6 (.Z 0)) <|
   .call 2 (aK aA 7 (.Z 0)) <|
   .call 2 (aK aA 8 (.Z 0)) <|
   .call 2 (aK aA 9 (.Z 0)) <|
   .call 2 (aK aA 10 (.Z 0)) <|
   .call 3 (aP aA 11 (.Z 0)) <|
   .ret (bB aA [(.p1 tI dA (.Z 0)),(.Z 1),(.Z 2),(aK aA 3 (.Z 0)),(aK aA 4 (.Z 0)),(aP (.bRW tI (.slice 82 aF)) 1 (.Z 4)),(.Z 6),(.Z 7),(.Z 8),(.Z 9),(.Z 10),(.Z 11)]))
theorem aPR:bI Tryz.prog [kC,eW,bR,mQ] dF false 3000 ⟨[(2991,1004,[.dr 20,.dr 19,.dr 14,.dr 11,.dr 8,.dr 18,.dr 16,.dr 13,.dr 10,.dr 7,.dr 17,.dr 15,.dr 12,.dr 9,.dr 6,.dr 0,.tm 23 0,.sl 24])],[(2981,3007,[33],[])]⟩ = .ok xG:=by kernel_rfl
theorem aQG (x:bC) (hx:okD aA x) (hp:(fun x=>bM aA x≤1000000000) x):xG.wp [kC,eW,bR,mQ] [⟨aA,x⟩] [] (fun v=>v.as aA=(fun x=>x) x):=by
 obtain ⟨pc,plan,ops,last,redo,stash,full,X,Y,G,D,sr,sl,ss⟩:=x
 obtain ⟨hplan,hops,hst,hstm,⟨hfull,hfullm⟩,hX,hY,hG,hD,⟨hsr,hsrm⟩⟩:=bNK hp
 delta xG kC eW bR mQ;refine cW ?_;try with_reducible exact True.intro
 (repeat' first|intro _|(with_reducible apply And.intro))
 all_goals first|omega|(unfold maxLen;omega)|(simp only[List.length_nil];omega)|(simp only[List.length_nil];unfold maxLen;omega)|skip
 refine cN (fun k=>((k:Int),List.take k stash)) (List.length stash) rfl fun I μ k hk _ go=>?_
 dsimp only
 refine dB ?_
 by_cases hkn:k<List.length stash
 ·have hm:=hstm _ (List.getElem_mem hkn)
  rw[aZ hkn]
  (repeat' first|intro _|(refine go _ ?_ ?_ ?_)|(refine go _ ?_ ?_)|(with_reducible apply And.intro))
  all_goals first|omega|exact hm.1|exact hm.2 _ (by assumption)|(simp only[List.length_take];unfold maxLen;omega)|(simp only[List.length_take];omega)|(rw[iW hkn];rfl)
 ·(repeat' first|intro _|(refine go _ ?_ ?_ ?_)|(refine go _ ?_ ?_)|(with_reducible apply And.intro))
  all_goals first|omega|(have e:k=List.length stash:=(by omega);subst e;first|exact hfullm _ (by assumption)|exact hsrm _ (by assumption)|exact ⟨hsr,hsrm⟩|omega|(unfold maxLen;omega)|(simp only[List.length_nil];omega)|(simp only[List.length_nil];unfold maxLen;omega)|(simp only[List.take_length,List.nil_append];done)|skip)|skip
theorem qC:Con.Holds Tryz.prog dF:=aS aV (aI aKA (aI zW (aI gS (aI aPM aQ)))) aPR aQG
noncomputable def eA:Con:=⟨120,aA,aA,[.val ⟨true,aA,[]⟩],[⟨true,aA,[0,2,2,0,0,2,2,2,2,2,2,2,0,0]⟩],false,none,
 ((fun x=>bM aA x≤1000000000):(bC)→Prop),
 ((fun x=>x):(bC)→(bC))⟩
def aCU:T:=.call 0 (aK aA 2 (.Z 0)) <|
 .bRX (.bS3 102 aD 16) (.bRY aU aU (.nl 102 aD) (aK aA 1 (.Z 0))) <|
 .loop (.bRW tI (.slice 82 aF)) (.bRY tI (.slice 82 aF) (.ci .i64 0) (.nl 82 aF)) <|
  .bRX (.bS0 82 aF) (aK aA 5 (.Z 0)) <|
  .bRX (.cmp .lss .i64) (.bRY tI tI (.p1 tI (.slice 82 aF) (.Z 3)) (.Z 4)) <|
  .ite (.Z 5) (
   .bRX (.bS1 82 aF) (.bRY (.slice 82 aF) tI (aK aA 5 (.Z 0)) (.p1 tI (.slice 82 aF) (.Z 3))) <|
   .bRX (.bS1 82 aF) (.bRY (.slice 82 aF) tI (aK aA 5 (.Z 0)) (.p1 tI (.slice 82 aF) (.Z 3))) <|
   .call 1 (aP aF 1 (.Z 7)) <|
   .bRX (.lit 82 aF 1) (.bRY tI aL (.p1 tI aL (.Z 6)) (.Z 8)) <|
   .bRX (.bS3 82 aF 32) (.bRY (.slice 82 aF) (.slice 82 aF) (aP (.bRW tI (.slice 82 aF)) 1 (.Z 3)) (.Z 9)) <|
   .bRX (.ar .add .i64) (.bRY tI tI (.p1 tI (.slice 82 aF) (.Z 3)) (.ci .i64 1)) <|
   .bRZ 0 (.bRY tI (.slice 82 aF) (.Z 11) (.Z 10))) (
   .call 1 (aK aA 6 (.Z 0)) <|
   .bRX (.bS3 3 tI 8) (.bRY aB aB (.nl 3 tI) (aK aA 7 (.Z 0))) <|
   .bRX (.bS3 3 tI 8) (.bRY aB aB (.nl 3 tI) (aK aA 8 (.Z 0))) <|
   .bRX (.bS3 3 tI 8) (.bRY aB aB (.nl 3 tI) (aK aA 9 (.Z 0))) <|
   .bRX (.bS3 3 tI 8) (.bRY aB aB (.nl 3 tI) (aK aA 10 (.Z 0))) <|
   .call 1 (aK aA 11 (.Z 0)) <|
   .ret (bB aA [(.p1 tI dA (.Z 0)),(.Z 2),(.Z 1),(aK aA 3 (.Z 0)),(aK aA 4 (.Z 0)),(aP (.bRW tI (.slice 82 aF)) 1 (.Z 3)),(.Z 6),(.Z 7),(.Z 8),(.Z 9),(.Z 10),(.Z 11),(aP aA 12 (.Z 0))]))
theorem aZN:bI Tryz.prog [mC,qT] eA false 3000 ⟨[(2985,1003,gQ 16 5++[.dr 0,.tm 4 0,.sl 24])],[(2977,3006,[38],[])]⟩ = .ok aCU:=by kernel_rfl
theorem aWD (x:bC) (hx:okD aA x) (hp:(fun x=>bM aA x≤1000000000) x):aCU.wp [mC,qT] [⟨aA,x⟩] [] (fun v=>v.as aA=(fun x=>x) x):=by
 obtain ⟨pc,plan,ops,last,redo,stash,full,X,Y,G,D,sr,sl,ss⟩:=x
 obtain ⟨hplan,hops,hst,hstm,⟨hfull,hfullm⟩,hX,hY,hG,hD,⟨hsr,hsrm⟩⟩:=bNK hp
 delta aCU mC qT;refine cW ?_;try with_reducible exact True.intro
 (repeat' first|intro _|(with_reducible apply And.intro))
 all_goals first|omega|(unfold maxLen;omega)|(simp only[List.length_nil];omega)|(simp only[List.length_nil];unfold maxLen;omega)|skip
 refine cN (fun k=>((k:Int),List.take k stash)) (List.length stash) rfl fun I μ k hk _ go=>?_
 dsimp only
 refine dB ?_
 by_cases hkn:k<List.length stash
 ·have hm:=hstm _ (List.getElem_mem hkn)
  rw[aZ hkn]
  (repeat' first|intro _|(refine go _ ?_ ?_ ?_)|(refine go _ ?_ ?_)|(with_reducible apply And.intro))
  all_goals first|omega|exact hm.1|exact hm.2 _ (by assumption)|(simp only[List.length_take];unfold maxLen;omega)|(simp only[List.length_take];omega)|(rw[iW hkn];rfl)
 ·(repeat' first|intro _|(refine go _ ?_ ?_ ?_)|(refine go _ ?_ ?_)|(with_reducible apply And.intro))
  all_goals first|omega|(have e:k=List.length stash:=(by omega);subst e;first|exact hfullm _ (by assumption)|exact hsrm _ (by assumption)|exact ⟨hsr,hsrm⟩|omega|(unfold maxLen;omega)|(simp only[List.length_nil];omega)|(simp only[List.length_nil];unfold maxLen;omega)|(simp only[List.take_length,List.nil_append];done)|skip)|skip
theorem vT:Con.Holds Tryz.prog eA:=aS aV (aI aP0 (aI aW6 aQ)) aZN aWD
end Go.Proofs.YtabamggdmdednaaGreat
