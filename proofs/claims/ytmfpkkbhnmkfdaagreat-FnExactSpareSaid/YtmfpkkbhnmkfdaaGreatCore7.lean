/- Core7: lemmas. No conditions. -/
import Derived.Test.YtmfpkkbhnmkfdaaGreatCore6
namespace Go.Proofs.YtmfpkkbhnmkfdaaGreat
set_option maxRecDepth 100000
open Go.ChangeShapes Go.WideShapes Go.ChangeAt Go.RowKit Go.Deep
set_option linter.unusedVariables false
set_option linter.unusedSimpArgs false
abbrev pK:Ty:=.slice 186 aD
theorem fR (s:bC):aY aA s=aY aU s.2.1+(aY aE s.2.2.1+(aY pK s.2.2.2.2.2.1+(aY aJ s.2.2.2.2.2.2.1+(s.2.2.2.2.2.2.2.1.length+(s.2.2.2.2.2.2.2.2.1.length+(s.2.2.2.2.2.2.2.2.2.1.length+(s.2.2.2.2.2.2.2.2.2.2.1.length+aY aJ s.2.2.2.2.2.2.2.2.2.2.2.1))))))):=by
 have e:aY aA s=0+(aY aU s.2.1+(aY aE s.2.2.1+(0+(0+(aY pK s.2.2.2.2.2.1+(aY aJ s.2.2.2.2.2.2.1+(aY aB s.2.2.2.2.2.2.2.1+(aY aB s.2.2.2.2.2.2.2.2.1+(aY aB s.2.2.2.2.2.2.2.2.2.1+(aY aB s.2.2.2.2.2.2.2.2.2.2.1+(aY aJ s.2.2.2.2.2.2.2.2.2.2.2.1+(0+0)))))))))))):=rfl
 rw[gZ,gZ,gZ,gZ] at e
 omega
theorem bJG {pc:Int} {plan:List gI} {ops:List eV} {last redo:Bool} {stash:List fJ} {full:cZ} {X Y G D:List Int} {sr:cZ} {sl:Int} {ss:Bool} (h:aY aA (pc,plan,ops,last,redo,stash,full,X,Y,G,D,sr,sl,ss)≤1000000000) :
  List.length plan≤1000000000∧aY aE ops≤1000000000∧List.length stash≤1000000000∧(∀ x∈stash,List.length x.2≤1000000000∧∀ y∈x.2,List.length y≤1000000000)∧(List.length full≤1000000000∧∀ y∈full,List.length y≤1000000000) ∧
  List.length X≤1000000000∧List.length Y≤1000000000∧List.length G≤1000000000∧List.length D≤1000000000∧(List.length sr≤1000000000∧∀ y∈sr,List.length y≤1000000000):=by
 have hz:=h
 rw[fR] at hz
 dsimp only at hz
 obtain ⟨_,⟨hplan,_⟩,_,_,_,hst,hfull,⟨hX,_⟩,⟨hY,_⟩,⟨hG,_⟩,⟨hD,_⟩,hsr,_⟩:=iD (t:=aA) h
 exact ⟨hplan,by omega,hst.1,fun x hx=>aJM (hst.2 x hx).2,aJM hfull,hX,hY,hG,hD,aJM hsr⟩
theorem bJ9 {e:TypeId} {t:Ty} (a b:List t.D):aY (.slice e t) (a++b)=aY (.slice e t) a+aY (.slice e t) b:=by
 rw[bZ,bZ,bZ,List.map_append,List.sum_append,List.length_append];omega
theorem bLD {e:TypeId} {t:Ty} (x:t.D):aY (.slice e t) [x]=1+aY t x:=by rw[bZ];simp
theorem aHH {e:TypeId} {t:Ty} (x d:t.D) (c:Nat):(l:List t.D)→(i:Nat)→(i<l.length→aY t x≤aY t (l.getD i d)+c)→aY (.slice e t) (l.set i x)≤aY (.slice e t) l+c
 | [],i,_=>by simp only[List.set_nil];omega
 | a :: l,0,h=>by
  have h1:aY t x≤aY t a+c:=h (Nat.zero_lt_succ _)
  rw[List.set_cons_zero,bZ,bZ]
  simp only[List.map_cons,List.sum_cons,List.length_cons];omega
 | a :: l,i+1,h=>by
  have h1:=aHH (e:=e) x d c l i fun hi=>h (Nat.succ_lt_succ hi)
  rw[bZ,bZ] at h1
  rw[List.set_cons_succ,bZ,bZ]
  simp only[List.map_cons,List.sum_cons,List.length_cons];omega
theorem aQJ {e:TypeId} {r:cZ} {n c:Nat} (h1:r.length≤n) (h2:∀ y∈r,List.length y≤c):aY (.slice e aG4) r≤n+n * c:=by
 have h:=aER (aY aG4) c r fun y hy=>by have e1:=gZ y;have e2:aY aG4 y=aY aB y:=rfl;have:=h2 y hy;omega
 have h3:r.length * c≤n * c:=Nat.mul_le_mul_right _ h1
 rw[bZ];omega
theorem aP6 {α:Type} {n:Nat} (g:Nat→α) (h:n≤6):(mp n g).length≤6:=by rw[eM];exact h
theorem aHD (f:Int→Int→Int × Bool) (a b:List Int):(lH f a b).1.length≤6:=by
 unfold lH;split
 ·exact aP6 _ (lB (by assumption)).1
 ·exact Nat.zero_le _
theorem aM9 (c:Int) (a:List Int):(sY c a).1.length≤6:=by
 unfold sY;split
 ·rename_i h;exact aP6 _ ((cT a).1 h.2).2.1
 ·exact Nat.zero_le _
theorem aSN (a:List Int):(oE a).length≤6:=by
 unfold oE;split
 ·rename_i h;exact aP6 _ ((cT a).1 h).2.1
 ·exact Nat.zero_le _
theorem aT0 (x d:List Int):(oK x d).length≤6:=by
 unfold oK;split
 ·exact aP6 _ (lB (by assumption)).1
 ·exact Nat.zero_le _
theorem aXA (m:aAD) (x:List Int):(kQ m x).1.length≤6:=by
 unfold kQ;split
 ·rename_i h
  obtain ⟨R,C,data,rfl,h1,h2,h3,h4,h5⟩:=mK h.1
  exact aP6 _ (by show (R:Int).toNat≤6;omega)
 ·exact Nat.zero_le _
theorem aSY (m:aAD) (x:List Int):(iA m x).1.length≤6:=by
 unfold iA;split
 ·rename_i h
  obtain ⟨R,C,data,rfl,h1,h2,h3,h4,h5⟩:=mK h.1
  exact aP6 _ (by show (C:Int).toNat≤6;omega)
 ·exact Nat.zero_le _
theorem aYN (o:eV) (x:List Int):(qF o x).1.length≤6:=by
 unfold qF
 split
 ·exact Nat.zero_le _
 split
 ·exact aXA _ _
 split
 ·exact aHD _ _ _
 split
 ·exact aM9 _ _
 split
 ·exact aHD _ _ _
 ·exact aSN _
theorem aZA (o:eV) (x d:List Int):(jB o x d).1.length≤6:=by
 unfold jB
 split
 ·exact Nat.zero_le _
 split
 ·exact aSY _ _
 split
 ·rename_i h _ _
  exact ((cT d).1 ((cI _ _).1 (Decidable.not_not.1 h).2.2).1).2.1
 split
 ·exact aM9 _ _
 split
 ·exact aHD _ _ _
 ·exact aT0 _ _
theorem yA (m:List eV) (x:List Int) (hx:x.length≤6):(k:Nat)→∀ y∈(kW m x k).1,List.length y≤6
 | 0,y,hy=>by
  obtain rfl:y=x:=by simpa [kW] using hy
  exact hx
 | k+1,y,hy=>by
  rw[kW,List.mem_append] at hy
  rcases hy with hy|hy
  ·exact yA m x hx k y hy
  ·obtain rfl:y=_:=List.mem_singleton.1 hy
   exact aYN _ _
theorem aDE {α:Type} {l:List α} {i:Nat} {d:α} (h:l.length≤i):l.getD i d=d:=by rw[List.getD_eq_getElem?_getD,List.getElem?_eq_none h];rfl
theorem aHI {r:cZ} (h:∀ y∈r,List.length y≤6) (i:Nat):(r.getD i []).length≤6:=by
 by_cases hi:i<r.length
 ·rw[aZ hi];exact h _ (List.getElem_mem hi)
 ·rw[aDE (by omega)];exact Nat.zero_le _
theorem aZY (m:List eV) (r:cZ) (d:List Int) (n:Nat) (hd:d.length≤6):(k:Nat)→(eR m r d n k).2.1.length≤6
 | 0=>hd
 | k+1=>aZA _ _ _
theorem aKT {e:TypeId}:(a b:cZ)→aY (.slice e aG4) (eG a b)≤aY (.slice e aG4) a
 | [],b=>by simp[eG]
 | a :: l,[]=>by simp[eG,bZ]
 | a :: l,b :: m=>by
  have h:=aKT (e:=e) l m
  have h1:aY aG4 (rB a b)≤aY aG4 a:=by
   have e1:=gZ (rB a b)
   have e2:=gZ a
   have e3:=sG a b
   have e4:aY aG4 (rB a b)=aY aB (rB a b):=rfl
   have e5:aY aG4 a=aY aB a:=rfl
   omega
  have e:eG (a :: l) (b :: m)=rB a b :: eG l m:=rfl
  rw[bZ,bZ] at h
  rw[e,bZ,bZ]
  simp only[List.map_cons,List.sum_cons,List.length_cons];omega
def bDC (s:bC) (m:Int) (x t:List Int):Bool:=hN s&&(fB x (lW s.2.2.1)&&(decide (eH s.2.2.2.2.2.1 m<0)&&(!s.2.2.2.1 || fB t (iE s.2.2.1))))
def bEU (s:bC) (x:List Int):List Int:=(kW s.2.2.1 x s.2.2.1.length).1.getD s.2.2.1.length []
def aDJ (redo:Bool) (r:cZ):cZ:=if redo=true then r.take 1 else r
def aYM (s:bC) (m:Int) (x t:List Int):bC :=
 (s.1,s.2.1,s.2.2.1,s.2.2.2.1,s.2.2.2.2.1,s.2.2.2.2.2.1++[(m,aDJ s.2.2.2.2.1 (kW s.2.2.1 x s.2.2.1.length).1)],s.2.2.2.2.2.2.1,[],
  (if s.2.2.2.1=true then s.2.2.2.2.2.2.2.2.1 else bEU s x),s.2.2.2.2.2.2.2.2.2.1,s.2.2.2.2.2.2.2.2.2.2.1,s.2.2.2.2.2.2.2.2.2.2.2.1,
  (if s.2.2.2.1=true then (dR s.2.2.2.2.2.2.2.2.2.2.2.2.1 (wQ (bEU s x) t).1).1 else s.2.2.2.2.2.2.2.2.2.2.2.2.1),
  (s.2.2.2.2.2.2.2.2.2.2.2.2.2 || (kW s.2.2.1 x s.2.2.1.length).2 || (s.2.2.2.1&&((wQ (bEU s x) t).2 || (dR s.2.2.2.2.2.2.2.2.2.2.2.2.1 (wQ (bEU s x) t).1).2))))
def aBX (s:bC) (m:Int) (x t:List Int):bC:=if bDC s m x t=true then aYM s m x t else s
def sE (s:bC) (m:Int):bC:=if hN s=true∧0≤eH s.2.2.2.2.2.1 m then
 (s.1,s.2.1,s.2.2.1,s.2.2.2.1,s.2.2.2.2.1,s.2.2.2.2.2.1,(kW s.2.2.1 ((s.2.2.2.2.2.1.getD (eH s.2.2.2.2.2.1 m).toNat (aX aD)).2.getD 0 []) s.2.2.1.length).1,s.2.2.2.2.2.2.2) else s
def nV (s:bC) (m:Int):cZ:=if s.2.2.2.2.1=true then s.2.2.2.2.2.2.1 else (s.2.2.2.2.2.1.getD (eH s.2.2.2.2.2.1 m).toNat (aX aD)).2
def iK (s:bC) (m:Int) (t:List Int):List Int × Bool:=if s.2.2.2.1=true then lH fA ((nV s m).getD s.2.2.1.length []) t else (s.2.2.2.2.2.2.2.2.2.1,false)
def aLJ (m:List eV) (r:cZ):Bool:=decide (r.length=m.length+1)&&rI m r m.length
def bC6 (s:bC) (m:Int) (t:List Int):Bool:=hN s&&(decide (0≤eH s.2.2.2.2.2.1 m)&&(aLJ s.2.2.1 (nV s m)&&fB (iK s m t).1 (iE s.2.2.1)))
def bLK (s:bC) (m:Int) (t:List Int):bC :=
 (s.1,s.2.1,s.2.2.1,s.2.2.2.1,s.2.2.2.2.1,s.2.2.2.2.2.1.take (eH s.2.2.2.2.2.1 m).toNat++s.2.2.2.2.2.1.drop ((eH s.2.2.2.2.2.1 m).toNat+1),[],s.2.2.2.2.2.2.2.1,s.2.2.2.2.2.2.2.2.1,[],
  (rJ s.2.2.1 (nV s m) (iK s m t).1).2.1,iX s.2.2.2.2.2.2.2.2.2.2.2 ((rJ s.2.2.1 (nV s m) (iK s m t).1).1,0,(iK s m t).2 || (rJ s.2.2.1 (nV s m) (iK s m t).1).2.2))
def wD (s:bC) (m:Int) (t:List Int):bC:=if bC6 s m t=true then bLK s m t else s
theorem aGC {v:List Int} {n:Int} (h:fB v n=true):v.length≤6:=((cT _).1 ((cI _ _).1 h).1).2.1
theorem vZ {s:bC} {m:Int} {x t:List Int} (h:hN s=false∨fB x (lW s.2.2.1)=false∨0≤eH s.2.2.2.2.2.1 m∨(s.2.2.2.1=true∧fB t (iE s.2.2.1)=false)):s=aBX s m x t:=by
 unfold aBX;rw[if_neg]
 unfold bDC
 simp only[Bool.and_eq_true,Bool.or_eq_true,decide_eq_true_eq,Bool.not_eq_true']
 rintro ⟨h1,h2,h3,h4⟩
 rcases h with h|h|h|⟨h,h'⟩
 ·rw[h] at h1;cases h1
 ·rw[h] at h2;cases h2
 ·omega
 ·rw[h,h'] at h4;simp at h4
theorem aJE {s:bC} {m:Int} {x t:List Int} (h1:hN s=true) (h2:fB x (lW s.2.2.1)=true) (h3:eH s.2.2.2.2.2.1 m<0) (h4:s.2.2.2.1=true→fB t (iE s.2.2.1)=true):aYM s m x t=aBX s m x t:=by
 unfold aBX;rw[if_pos]
 unfold bDC
 simp only[Bool.and_eq_true,Bool.or_eq_true,decide_eq_true_eq,Bool.not_eq_true']
 refine ⟨h1,h2,h3,?_⟩
 cases hh:s.2.2.2.1
 ·exact .inl rfl
 ·exact .inr (h4 hh)
theorem aJN {s:bC} {m:Int} {x t:List Int} {st:List fJ} {l:Int} {b:Bool} (hla:s.2.2.2.1=true) (e1:st=s.2.2.2.2.2.1++[(m,aDJ s.2.2.2.2.1 (kW s.2.2.1 x s.2.2.1.length).1)])
  (e3:l=(dR s.2.2.2.2.2.2.2.2.2.2.2.2.1 (wQ (List.getD (kW s.2.2.1 x s.2.2.1.length).1 (List.length s.2.2.1) (aX aB)) t).1).1)
  (e4:b=(s.2.2.2.2.2.2.2.2.2.2.2.2.2 || (kW s.2.2.1 x s.2.2.1.length).2 || ((wQ (List.getD (kW s.2.2.1 x s.2.2.1.length).1 (List.length s.2.2.1) (aX aB)) t).2 || (dR s.2.2.2.2.2.2.2.2.2.2.2.2.1 (wQ (List.getD (kW s.2.2.1 x s.2.2.1.length).1 (List.length s.2.2.1) (aX aB)) t).1).2))) :
  (s.1,s.2.1,s.2.2.1,s.2.2.2.1,s.2.2.2.2.1,st,s.2.2.2.2.2.2.1,([]:List Int),s.2.2.2.2.2.2.2.2.1,s.2.2.2.2.2.2.2.2.2.1,s.2.2.2.2.2.2.2.2.2.2.1,s.2.2.2.2.2.2.2.2.2.2.2.1,l,b)=aYM s m x t:=by
 subst e1 e3 e4;unfold aYM;rw[hla];rfl
theorem aJH {s:bC} {m:Int} {x t:List Int} {st:List fJ} {b:Bool} (hla:s.2.2.2.1=false) (e1:st=s.2.2.2.2.2.1++[(m,aDJ s.2.2.2.2.1 (kW s.2.2.1 x s.2.2.1.length).1)])
  (e4:b=(s.2.2.2.2.2.2.2.2.2.2.2.2.2 || (kW s.2.2.1 x s.2.2.1.length).2)) :
  (s.1,s.2.1,s.2.2.1,s.2.2.2.1,s.2.2.2.2.1,st,s.2.2.2.2.2.2.1,([]:List Int),(List.getD (kW s.2.2.1 x s.2.2.1.length).1 (List.length s.2.2.1) (aX aB)),s.2.2.2.2.2.2.2.2.2.1,s.2.2.2.2.2.2.2.2.2.2.1,s.2.2.2.2.2.2.2.2.2.2.2.1,s.2.2.2.2.2.2.2.2.2.2.2.2.1,b)=aYM s m x t:=by
 subst e1 e4;unfold aYM;rw[hla];simp;rfl
theorem bD4 {a b c d:Bool} (h:a=true):true=(a || b || (c || d)):=by rw[h];rfl
theorem bCN {a b c d:Bool} (h:b=true):true=(a || b || (c || d)):=by rw[h];simp
theorem bCH {a b c d:Bool} (h:c=true):true=(a || b || (c || d)):=by rw[h];simp
theorem bD8 {a b c d:Bool} (h1:a=false) (h2:b=false) (h3:c=false):d=(a || b || (c || d)):=by rw[h1,h2,h3];simp
theorem aTC {r:cZ} {b:Bool} (h:b=true):List.drop 0 (List.take 1 r)=aDJ b r:=by subst h;rfl
theorem aRT {r:cZ} {b:Bool} (h:b=false):r=aDJ b r:=by subst h;rfl
noncomputable def dG:Con:=⟨178,aA,aA,[.val ⟨true,aA,[]⟩],[⟨true,aA,[0,2,2,0,0,2,2,2,2,2,2,2,0,0]⟩],false,none,
 ((fun x=>aY aA x≤1000000000):(bC)→Prop),
 ((fun x=>x):(bC)→(bC))⟩
def vS:T :=
 .bPA (.bPG 95 aP 16) (.bPB aU aU (.nl 95 aP) (aK aA 1 (.Z 0))) <|
 .call 0 (aK aA 2 (.Z 0)) <|
 .bPA (.bPD 186 aD) (aK aA 5 (.Z 0)) <|
 .loop (.bP9 tI (.slice 186 aD)) (.bPB tI (.slice 186 aD) (.ci .i64 0) (.nl 186 aD)) <|
  .bPA (.cmp .lss .i64) (.bPB tI tI (.p1 tI (.slice 186 aD) (.Z 4)) (.Z 3)) <|
  .ite (.Z 5) (
   .bPA (.bPE 186 aD) (.bPB (.slice 186 aD) tI (aK aA 5 (.Z 0)) (.p1 tI (.slice 186 aD) (.Z 4))) <|
   .call 1 (aQ aD 1 (.Z 6)) <|
   .bPA (.lit 186 aD 1) (.bPB tI aJ (.p1 tI aJ (.Z 6)) (.Z 7)) <|
   .bPA (.bPG 186 aD 32) (.bPB (.slice 186 aD) (.slice 186 aD) (aQ (.bP9 tI (.slice 186 aD)) 1 (.Z 4)) (.Z 8)) <|
   .bPA (.ar .add .i64) (.bPB tI tI (.p1 tI (.slice 186 aD) (.Z 4)) (.ci .i64 1)) <|
   .bPC 0 (.bPB tI (.slice 186 aD) (.Z 10) (.Z 9))) (
   .call 1 (aK aA 6 (.Z 0)) <|
   .call 2 (aK aA 7 (.Z 0)) <|
   .call 2 (aK aA 8 (.Z 0)) <|
   .call 2 (aK aA 9 (.Z 0)) <|
   .call 2 (aK aA 10 (.Z 0)) <|
   .call 3 (aQ aA 11 (.Z 0)) <|
   .ret (bG aA [(.p1 tI dA (.Z 0)),(.Z 1),(.Z 2),(aK aA 3 (.Z 0)),(aK aA 4 (.Z 0)),(aQ (.bP9 tI (.slice 186 aD)) 1 (.Z 4)),(.Z 6),(.Z 7),(.Z 8),(.Z 9),(.Z 10),(.Z 11)]))
theorem aO8:bN Tryz.prog [kJ,fI,bR,mX] dG false 3000 ⟨[(2991,1004,[.dr 20,.dr 19,.dr 14,.dr 11,.dr 8,.dr 18,.dr 16,.dr 13,.dr 10,.dr 7,.dr 17,.dr 15,.dr 12,.dr 9,.dr 6,.dr 0,.tm 23 0,.sl 24])],[(2981,3007,[33],[])]⟩ = .ok vS:=by kernel_rfl
theorem aNO (x:bC) (hx:okD aA x) (hp:(fun x=>aY aA x≤1000000000) x):vS.wp [kJ,fI,bR,mX] [⟨aA,x⟩] [] (fun v=>v.as aA=(fun x=>x) x):=by
 obtain ⟨pc,plan,ops,last,redo,stash,full,X,Y,G,D,sr,sl,ss⟩:=x
 obtain ⟨hplan,hops,hst,hstm,⟨hfull,hfullm⟩,hX,hY,hG,hD,⟨hsr,hsrm⟩⟩:=bJG hp
 delta vS kJ fI bR mX;refine dD ?_;try with_reducible exact True.intro
 (repeat' first|intro _|(with_reducible apply And.intro))
 all_goals first|omega|(unfold maxLen;omega)|(simp only[List.length_nil];omega)|(simp only[List.length_nil];unfold maxLen;omega)|skip
 refine cJ (fun k=>((k:Int),List.take k stash)) (List.length stash) rfl fun I μ k hk _ go=>?_
 dsimp only
 refine dM ?_
 by_cases hkn:k<List.length stash
 ·have hm:=hstm _ (List.getElem_mem hkn)
  rw[aZ hkn]
  (repeat' first|intro _|(refine go _ ?_ ?_ ?_)|(refine go _ ?_ ?_)|(with_reducible apply And.intro))
  all_goals first|omega|exact hm.1|exact hm.2 _ (by assumption)|(simp only[List.length_take];unfold maxLen;omega)|(simp only[List.length_take];omega)|(rw[jF hkn];rfl)
 ·(repeat' first|intro _|(refine go _ ?_ ?_ ?_)|(refine go _ ?_ ?_)|(with_reducible apply And.intro))
  all_goals first|omega|(have e:k=List.length stash:=(by omega);subst e;first|exact hfullm _ (by assumption)|exact hsrm _ (by assumption)|exact ⟨hsr,hsrm⟩|omega|(unfold maxLen;omega)|(simp only[List.length_nil];omega)|(simp only[List.length_nil];unfold maxLen;omega)|(simp only[List.take_length,List.nil_append];done)|skip)|skip
theorem pV:Con.Holds Tryz.prog dG:=aS aV (aH aIM (aH zD (aH iC (aH aNL aT)))) aO8 aNO
noncomputable def eD:Con:=⟨113,aA,aA,[.val ⟨true,aA,[]⟩],[⟨true,aA,[0,2,2,0,0,2,2,2,2,2,2,2,0,0]⟩],false,none,
 ((fun x=>aY aA x≤1000000000):(bC)→Prop),
 ((fun x=>x):(bC)→(bC))⟩
def aCA:T:=.call 0 (aK aA 2 (.Z 0)) <|
 .bPA (.bPG 95 aP 16) (.bPB aU aU (.nl 95 aP) (aK aA 1 (.Z 0))) <|
 .loop (.bP9 tI (.slice 186 aD)) (.bPB tI (.slice 186 aD) (.ci .i64 0) (.nl 186 aD)) <|
  .bPA (.bPD 186 aD) (aK aA 5 (.Z 0)) <|
  .bPA (.cmp .lss .i64) (.bPB tI tI (.p1 tI (.slice 186 aD) (.Z 3)) (.Z 4)) <|
  .ite (.Z 5) (
   .bPA (.bPE 186 aD) (.bPB (.slice 186 aD) tI (aK aA 5 (.Z 0)) (.p1 tI (.slice 186 aD) (.Z 3))) <|
   .bPA (.bPE 186 aD) (.bPB (.slice 186 aD) tI (aK aA 5 (.Z 0)) (.p1 tI (.slice 186 aD) (.Z 3))) <|
   .call 1 (aQ aD 1 (.Z 7)) <|
   .bPA (.lit 186 aD 1) (.bPB tI aJ (.p1 tI aJ (.Z 6)) (.Z 8)) <|
   .bPA (.bPG 186 aD 32) (.bPB (.slice 186 aD) (.slice 186 aD) (aQ (.bP9 tI (.slice 186 aD)) 1 (.Z 3)) (.Z 9)) <|
   .bPA (.ar .add .i64) (.bPB tI tI (.p1 tI (.slice 186 aD) (.Z 3)) (.ci .i64 1)) <|
   .bPC 0 (.bPB tI (.slice 186 aD) (.Z 11) (.Z 10))) (
   .call 1 (aK aA 6 (.Z 0)) <|
   .bPA (.bPG 3 tI 8) (.bPB aB aB (.nl 3 tI) (aK aA 7 (.Z 0))) <|
   .bPA (.bPG 3 tI 8) (.bPB aB aB (.nl 3 tI) (aK aA 8 (.Z 0))) <|
   .bPA (.bPG 3 tI 8) (.bPB aB aB (.nl 3 tI) (aK aA 9 (.Z 0))) <|
   .bPA (.bPG 3 tI 8) (.bPB aB aB (.nl 3 tI) (aK aA 10 (.Z 0))) <|
   .call 1 (aK aA 11 (.Z 0)) <|
   .ret (bG aA [(.p1 tI dA (.Z 0)),(.Z 2),(.Z 1),(aK aA 3 (.Z 0)),(aK aA 4 (.Z 0)),(aQ (.bP9 tI (.slice 186 aD)) 1 (.Z 3)),(.Z 6),(.Z 7),(.Z 8),(.Z 9),(.Z 10),(.Z 11),(aQ aA 12 (.Z 0))]))
theorem aUB:bN Tryz.prog [lI,qA] eD false 3000 ⟨[(2985,1003,iL 16 5++[.dr 0,.tm 4 0,.sl 24])],[(2977,3006,[38],[])]⟩ = .ok aCA:=by kernel_rfl
theorem aV7 (x:bC) (hx:okD aA x) (hp:(fun x=>aY aA x≤1000000000) x):aCA.wp [lI,qA] [⟨aA,x⟩] [] (fun v=>v.as aA=(fun x=>x) x):=by
 obtain ⟨pc,plan,ops,last,redo,stash,full,X,Y,G,D,sr,sl,ss⟩:=x
 obtain ⟨hplan,hops,hst,hstm,⟨hfull,hfullm⟩,hX,hY,hG,hD,⟨hsr,hsrm⟩⟩:=bJG hp
 delta aCA lI qA;refine dD ?_;try with_reducible exact True.intro
 (repeat' first|intro _|(with_reducible apply And.intro))
 all_goals first|omega|(unfold maxLen;omega)|(simp only[List.length_nil];omega)|(simp only[List.length_nil];unfold maxLen;omega)|skip
 refine cJ (fun k=>((k:Int),List.take k stash)) (List.length stash) rfl fun I μ k hk _ go=>?_
 dsimp only
 refine dM ?_
 by_cases hkn:k<List.length stash
 ·have hm:=hstm _ (List.getElem_mem hkn)
  rw[aZ hkn]
  (repeat' first|intro _|(refine go _ ?_ ?_ ?_)|(refine go _ ?_ ?_)|(with_reducible apply And.intro))
  all_goals first|omega|exact hm.1|exact hm.2 _ (by assumption)|(simp only[List.length_take];unfold maxLen;omega)|(simp only[List.length_take];omega)|(rw[jF hkn];rfl)
 ·(repeat' first|intro _|(refine go _ ?_ ?_ ?_)|(refine go _ ?_ ?_)|(with_reducible apply And.intro))
  all_goals first|omega|(have e:k=List.length stash:=(by omega);subst e;first|exact hfullm _ (by assumption)|exact hsrm _ (by assumption)|exact ⟨hsr,hsrm⟩|omega|(unfold maxLen;omega)|(simp only[List.length_nil];omega)|(simp only[List.length_nil];unfold maxLen;omega)|(simp only[List.take_length,List.nil_append];done)|skip)|skip
theorem vJ:Con.Holds Tryz.prog eD:=aS aV (aH aL5 (aH aW6 aT)) aUB aV7
end Go.Proofs.YtmfpkkbhnmkfdaaGreat
