/- Core7: lemmas. No conditions. -/
import Derived.Test.YtiihghfoeinbbaaGreatCore6
namespace Go.Proofs.YtiihghfoeinbbaaGreat
set_option maxRecDepth 100000
open Go.ChangeShapes Go.WideShapes Go.ChangeAt Go.RowKit Go.Deep
set_option linter.unusedVariables false
set_option linter.unusedSimpArgs false
abbrev oG:Ty:=.slice 206 aD
theorem gI (s:bC):bD aA s=bD aT s.2.1+(bD aE s.2.2.1+(bD oG s.2.2.2.2.2.1+(bD aH s.2.2.2.2.2.2.1+(s.2.2.2.2.2.2.2.1.length+(s.2.2.2.2.2.2.2.2.1.length+(s.2.2.2.2.2.2.2.2.2.1.length+(s.2.2.2.2.2.2.2.2.2.2.1.length+bD aH s.2.2.2.2.2.2.2.2.2.2.2.1))))))):=by
 have e:bD aA s=0+(bD aT s.2.1+(bD aE s.2.2.1+(0+(0+(bD oG s.2.2.2.2.2.1+(bD aH s.2.2.2.2.2.2.1+(bD aB s.2.2.2.2.2.2.2.1+(bD aB s.2.2.2.2.2.2.2.2.1+(bD aB s.2.2.2.2.2.2.2.2.2.1+(bD aB s.2.2.2.2.2.2.2.2.2.2.1+(bD aH s.2.2.2.2.2.2.2.2.2.2.2.1+(0+0)))))))))))):=rfl
 rw[eA,eA,eA,eA] at e
 omega
theorem bGH {pc:Int} {plan:List fI} {ops:List eK} {last redo:Bool} {stash:List eZ} {full:cV} {X Y G D:List Int} {sr:cV} {sl:Int} {ss:Bool} (h:bD aA (pc,plan,ops,last,redo,stash,full,X,Y,G,D,sr,sl,ss)≤1000000000) :
  List.length plan≤1000000000∧bD aE ops≤1000000000∧List.length stash≤1000000000∧(∀ x∈stash,List.length x.2≤1000000000∧∀ y∈x.2,List.length y≤1000000000)∧(List.length full≤1000000000∧∀ y∈full,List.length y≤1000000000) ∧
  List.length X≤1000000000∧List.length Y≤1000000000∧List.length G≤1000000000∧List.length D≤1000000000∧(List.length sr≤1000000000∧∀ y∈sr,List.length y≤1000000000):=by
 have hz:=h
 rw[gI] at hz
 dsimp only at hz
 obtain ⟨_,⟨hplan,_⟩,_,_,_,hst,hfull,⟨hX,_⟩,⟨hY,_⟩,⟨hG,_⟩,⟨hD,_⟩,hsr,_⟩:=gX (t:=aA) h
 exact ⟨hplan,by omega,hst.1,fun x hx=>aHY (hst.2 x hx).2,aHY hfull,hX,hY,hG,hD,aHY hsr⟩
theorem bGR {e:TypeId} {t:Ty} (a b:List t.D):bD (.slice e t) (a++b)=bD (.slice e t) a+bD (.slice e t) b:=by
 rw[bZ,bZ,bZ,List.map_append,List.sum_append,List.length_append];omega
theorem bGF {e:TypeId} {t:Ty} (x:t.D):bD (.slice e t) [x]=1+bD t x:=by rw[bZ];simp
theorem aG5 {e:TypeId} {t:Ty} (x d:t.D) (c:Nat):(l:List t.D)→(i:Nat)→(i<l.length→bD t x≤bD t (l.getD i d)+c)→bD (.slice e t) (l.set i x)≤bD (.slice e t) l+c
 | [],i,_=>by simp only[List.set_nil];omega
 | a :: l,0,h=>by
  have h1:bD t x≤bD t a+c:=h (Nat.zero_lt_succ _)
  rw[List.set_cons_zero,bZ,bZ]
  simp only[List.map_cons,List.sum_cons,List.length_cons];omega
 | a :: l,i+1,h=>by
  have h1:=aG5 (e:=e) x d c l i fun hi=>h (Nat.succ_lt_succ hi)
  rw[bZ,bZ] at h1
  rw[List.set_cons_succ,bZ,bZ]
  simp only[List.map_cons,List.sum_cons,List.length_cons];omega
theorem aP7 {e:TypeId} {r:cV} {n c:Nat} (h1:r.length≤n) (h2:∀ y∈r,List.length y≤c):bD (.slice e aF8) r≤n+n * c:=by
 have h:=xK (bD aF8) c r fun y hy=>by have e1:=eA y;have e2:bD aF8 y=bD aB y:=rfl;have:=h2 y hy;omega
 have h3:r.length * c≤n * c:=Nat.mul_le_mul_right _ h1
 rw[bZ];omega
theorem aNG {α:Type} {n:Nat} (g:Nat→α) (h:n≤6):(mp n g).length≤6:=by rw[fJ];exact h
theorem aGY (f:Int→Int→Int × Bool) (a b:List Int):(kM f a b).1.length≤6:=by
 unfold kM;split
 ·exact aNG _ (kG (by assumption)).1
 ·exact Nat.zero_le _
theorem aJE (c:Int) (a:List Int):(sQ c a).1.length≤6:=by
 unfold sQ;split
 ·rename_i h;exact aNG _ ((cP a).1 h.2).2.1
 ·exact Nat.zero_le _
theorem aOR (a:List Int):(nT a).length≤6:=by
 unfold nT;split
 ·rename_i h;exact aNG _ ((cP a).1 h).2.1
 ·exact Nat.zero_le _
theorem aQU (x d:List Int):(nL x d).length≤6:=by
 unfold nL;split
 ·exact aNG _ (kG (by assumption)).1
 ·exact Nat.zero_le _
theorem aUP (m:zT) (x:List Int):(jZ m x).1.length≤6:=by
 unfold jZ;split
 ·rename_i h
  obtain ⟨R,C,data,rfl,h1,h2,h3,h4,h5⟩:=lN h.1
  exact aNG _ (by show (R:Int).toNat≤6;omega)
 ·exact Nat.zero_le _
theorem aPV (m:zT) (x:List Int):(gO m x).1.length≤6:=by
 unfold gO;split
 ·rename_i h
  obtain ⟨R,C,data,rfl,h1,h2,h3,h4,h5⟩:=lN h.1
  exact aNG _ (by show (C:Int).toNat≤6;omega)
 ·exact Nat.zero_le _
theorem aZ5 (o:eK) (x:List Int):(oV o x).1.length≤6:=by
 unfold oV
 split
 ·exact Nat.zero_le _
 split
 ·exact aUP _ _
 split
 ·exact aGY _ _ _
 split
 ·exact aJE _ _
 split
 ·exact aGY _ _ _
 ·exact aOR _
theorem aX8 (o:eK) (x d:List Int):(iN o x d).1.length≤6:=by
 unfold iN
 split
 ·exact Nat.zero_le _
 split
 ·exact aPV _ _
 split
 ·rename_i h _ _
  exact ((cP d).1 ((cF _ _).1 (Decidable.not_not.1 h).2.2).1).2.1
 split
 ·exact aJE _ _
 split
 ·exact aGY _ _ _
 ·exact aQU _ _
theorem wJ (m:List eK) (x:List Int) (hx:x.length≤6):(k:Nat)→∀ y∈(kE m x k).1,List.length y≤6
 | 0,y,hy=>by
  obtain rfl:y=x:=by simpa [kE] using hy
  exact hx
 | k+1,y,hy=>by
  rw[kE,List.mem_append] at hy
  rcases hy with hy|hy
  ·exact wJ m x hx k y hy
  ·obtain rfl:y=_:=List.mem_singleton.1 hy
   exact aZ5 _ _
theorem bBV {α:Type} {l:List α} {i:Nat} {d:α} (h:l.length≤i):l.getD i d=d:=by rw[List.getD_eq_getElem?_getD,List.getElem?_eq_none h];rfl
theorem aGU {r:cV} (h:∀ y∈r,List.length y≤6) (i:Nat):(r.getD i []).length≤6:=by
 by_cases hi:i<r.length
 ·rw[aZ hi];exact h _ (List.getElem_mem hi)
 ·rw[bBV (by omega)];exact Nat.zero_le _
theorem aWU (m:List eK) (r:cV) (d:List Int) (n:Nat) (hd:d.length≤6):(k:Nat)→(eG m r d n k).2.1.length≤6
 | 0=>hd
 | k+1=>aX8 _ _ _
theorem aLI {e:TypeId}:(a b:cV)→bD (.slice e aF8) (dZ a b)≤bD (.slice e aF8) a
 | [],b=>by simp[dZ]
 | a :: l,[]=>by simp[dZ,bZ]
 | a :: l,b :: m=>by
  have h:=aLI (e:=e) l m
  have h1:bD aF8 (qJ a b)≤bD aF8 a:=by
   have e1:=eA (qJ a b)
   have e2:=eA a
   have e3:=sY a b
   have e4:bD aF8 (qJ a b)=bD aB (qJ a b):=rfl
   have e5:bD aF8 a=bD aB a:=rfl
   omega
  have e:dZ (a :: l) (b :: m)=qJ a b :: dZ l m:=rfl
  rw[bZ,bZ] at h
  rw[e,bZ,bZ]
  simp only[List.map_cons,List.sum_cons,List.length_cons];omega
def bBR (s:bC) (m:Int) (x t:List Int):Bool:=gS s&&(eQ x (lH s.2.2.1)&&(decide (dU s.2.2.2.2.2.1 m<0)&&(!s.2.2.2.1 || eQ t (gY s.2.2.1))))
def bDA (s:bC) (x:List Int):List Int:=(kE s.2.2.1 x s.2.2.1.length).1.getD s.2.2.1.length []
def aCO (redo:Bool) (r:cV):cV:=if redo=true then r.take 1 else r
def aWI (s:bC) (m:Int) (x t:List Int):bC :=
 (s.1,s.2.1,s.2.2.1,s.2.2.2.1,s.2.2.2.2.1,s.2.2.2.2.2.1++[(m,aCO s.2.2.2.2.1 (kE s.2.2.1 x s.2.2.1.length).1)],s.2.2.2.2.2.2.1,[],
  (if s.2.2.2.1=true then s.2.2.2.2.2.2.2.2.1 else bDA s x),s.2.2.2.2.2.2.2.2.2.1,s.2.2.2.2.2.2.2.2.2.2.1,s.2.2.2.2.2.2.2.2.2.2.2.1,
  (if s.2.2.2.1=true then (dI s.2.2.2.2.2.2.2.2.2.2.2.2.1 (vT (bDA s x) t).1).1 else s.2.2.2.2.2.2.2.2.2.2.2.2.1),
  (s.2.2.2.2.2.2.2.2.2.2.2.2.2 || (kE s.2.2.1 x s.2.2.1.length).2 || (s.2.2.2.1&&((vT (bDA s x) t).2 || (dI s.2.2.2.2.2.2.2.2.2.2.2.2.1 (vT (bDA s x) t).1).2))))
def zX (s:bC) (m:Int) (x t:List Int):bC:=if bBR s m x t=true then aWI s m x t else s
def sH (s:bC) (m:Int):bC:=if gS s=true∧0≤dU s.2.2.2.2.2.1 m then
 (s.1,s.2.1,s.2.2.1,s.2.2.2.1,s.2.2.2.2.1,s.2.2.2.2.2.1,(kE s.2.2.1 ((s.2.2.2.2.2.1.getD (dU s.2.2.2.2.2.1 m).toNat (aX aD)).2.getD 0 []) s.2.2.1.length).1,s.2.2.2.2.2.2.2) else s
def nB (s:bC) (m:Int):cV:=if s.2.2.2.2.1=true then s.2.2.2.2.2.2.1 else (s.2.2.2.2.2.1.getD (dU s.2.2.2.2.2.1 m).toNat (aX aD)).2
def hK (s:bC) (m:Int) (t:List Int):List Int × Bool:=if s.2.2.2.1=true then kM eP ((nB s m).getD s.2.2.1.length []) t else (s.2.2.2.2.2.2.2.2.2.1,false)
def aJI (m:List eK) (r:cV):Bool:=decide (r.length=m.length+1)&&qH m r m.length
def bBC (s:bC) (m:Int) (t:List Int):Bool:=gS s&&(decide (0≤dU s.2.2.2.2.2.1 m)&&(aJI s.2.2.1 (nB s m)&&eQ (hK s m t).1 (gY s.2.2.1)))
def bK0 (s:bC) (m:Int) (t:List Int):bC :=
 (s.1,s.2.1,s.2.2.1,s.2.2.2.1,s.2.2.2.2.1,s.2.2.2.2.2.1.take (dU s.2.2.2.2.2.1 m).toNat++s.2.2.2.2.2.1.drop ((dU s.2.2.2.2.2.1 m).toNat+1),[],s.2.2.2.2.2.2.2.1,s.2.2.2.2.2.2.2.2.1,[],
  (qP s.2.2.1 (nB s m) (hK s m t).1).2.1,iA s.2.2.2.2.2.2.2.2.2.2.2 ((qP s.2.2.1 (nB s m) (hK s m t).1).1,0,(hK s m t).2 || (qP s.2.2.1 (nB s m) (hK s m t).1).2.2))
def vB (s:bC) (m:Int) (t:List Int):bC:=if bBC s m t=true then bK0 s m t else s
theorem aF4 {v:List Int} {n:Int} (h:eQ v n=true):v.length≤6:=((cP _).1 ((cF _ _).1 h).1).2.1
theorem vO {s:bC} {m:Int} {x t:List Int} (h:gS s=false∨eQ x (lH s.2.2.1)=false∨0≤dU s.2.2.2.2.2.1 m∨(s.2.2.2.1=true∧eQ t (gY s.2.2.1)=false)):s=zX s m x t:=by
 unfold zX;rw[if_neg]
 unfold bBR
 simp only[Bool.and_eq_true,Bool.or_eq_true,decide_eq_true_eq,Bool.not_eq_true']
 rintro ⟨h1,h2,h3,h4⟩
 rcases h with h|h|h|⟨h,h'⟩
 ·rw[h] at h1;cases h1
 ·rw[h] at h2;cases h2
 ·omega
 ·rw[h,h'] at h4;simp at h4
theorem aI5 {s:bC} {m:Int} {x t:List Int} (h1:gS s=true) (h2:eQ x (lH s.2.2.1)=true) (h3:dU s.2.2.2.2.2.1 m<0) (h4:s.2.2.2.1=true→eQ t (gY s.2.2.1)=true):aWI s m x t=zX s m x t:=by
 unfold zX;rw[if_pos]
 unfold bBR
 simp only[Bool.and_eq_true,Bool.or_eq_true,decide_eq_true_eq,Bool.not_eq_true']
 refine ⟨h1,h2,h3,?_⟩
 cases hh:s.2.2.2.1
 ·exact .inl rfl
 ·exact .inr (h4 hh)
theorem aI1 {s:bC} {m:Int} {x t:List Int} {st:List eZ} {l:Int} {b:Bool} (hla:s.2.2.2.1=true) (e1:st=s.2.2.2.2.2.1++[(m,aCO s.2.2.2.2.1 (kE s.2.2.1 x s.2.2.1.length).1)])
  (e3:l=(dI s.2.2.2.2.2.2.2.2.2.2.2.2.1 (vT (List.getD (kE s.2.2.1 x s.2.2.1.length).1 (List.length s.2.2.1) (aX aB)) t).1).1)
  (e4:b=(s.2.2.2.2.2.2.2.2.2.2.2.2.2 || (kE s.2.2.1 x s.2.2.1.length).2 || ((vT (List.getD (kE s.2.2.1 x s.2.2.1.length).1 (List.length s.2.2.1) (aX aB)) t).2 || (dI s.2.2.2.2.2.2.2.2.2.2.2.2.1 (vT (List.getD (kE s.2.2.1 x s.2.2.1.length).1 (List.length s.2.2.1) (aX aB)) t).1).2))) :
  (s.1,s.2.1,s.2.2.1,s.2.2.2.1,s.2.2.2.2.1,st,s.2.2.2.2.2.2.1,([]:List Int),s.2.2.2.2.2.2.2.2.1,s.2.2.2.2.2.2.2.2.2.1,s.2.2.2.2.2.2.2.2.2.2.1,s.2.2.2.2.2.2.2.2.2.2.2.1,l,b)=aWI s m x t:=by
 subst e1 e3 e4;unfold aWI;rw[hla];rfl
theorem aI8 {s:bC} {m:Int} {x t:List Int} {st:List eZ} {b:Bool} (hla:s.2.2.2.1=false) (e1:st=s.2.2.2.2.2.1++[(m,aCO s.2.2.2.2.1 (kE s.2.2.1 x s.2.2.1.length).1)])
  (e4:b=(s.2.2.2.2.2.2.2.2.2.2.2.2.2 || (kE s.2.2.1 x s.2.2.1.length).2)) :
  (s.1,s.2.1,s.2.2.1,s.2.2.2.1,s.2.2.2.2.1,st,s.2.2.2.2.2.2.1,([]:List Int),(List.getD (kE s.2.2.1 x s.2.2.1.length).1 (List.length s.2.2.1) (aX aB)),s.2.2.2.2.2.2.2.2.2.1,s.2.2.2.2.2.2.2.2.2.2.1,s.2.2.2.2.2.2.2.2.2.2.2.1,s.2.2.2.2.2.2.2.2.2.2.2.2.1,b)=aWI s m x t:=by
 subst e1 e4;unfold aWI;rw[hla];simp;rfl
theorem bAX {a b c d:Bool} (h:a=true):true=(a || b || (c || d)):=by rw[h];rfl
theorem bAE {a b c d:Bool} (h:b=true):true=(a || b || (c || d)):=by rw[h];simp
theorem bAA {a b c d:Bool} (h:c=true):true=(a || b || (c || d)):=by rw[h];simp
theorem bA6 {a b c d:Bool} (h1:a=false) (h2:b=false) (h3:c=false):d=(a || b || (c || d)):=by rw[h1,h2,h3];simp
theorem aQ9 {r:cV} {b:Bool} (h:b=true):List.drop 0 (List.take 1 r)=aCO b r:=by subst h;rfl
theorem aPR {r:cV} {b:Bool} (h:b=false):r=aCO b r:=by subst h;rfl
noncomputable def dA:Con:=⟨182,aA,aA,[.val ⟨true,aA,[]⟩],[⟨true,aA,[0,2,2,0,0,2,2,2,2,2,2,2,0,0]⟩],false,none,
 ((fun x=>bD aA x≤1000000000):(bC)→Prop),
 ((fun x=>x):(bC)→(bC))⟩
def vF:T :=
 .bMD (.bMJ 194 aO 16) (.bME aT aT (.nl 194 aO) (aJ aA 1 (.Z 0))) <|
 .call 0 (aJ aA 2 (.Z 0)) <|
 .bMD (.bMG 206 aD) (aJ aA 5 (.Z 0)) <|
 .loop (.bMC tI (.slice 206 aD)) (.bME tI (.slice 206 aD) (.ci .i64 0) (.nl 206 aD)) <|
  .bMD (.cmp .lss .i64) (.bME tI tI (.p1 tI (.slice 206 aD) (.Z 4)) (.Z 3)) <|
  .ite (.Z 5) (
   .bMD (.bMH 206 aD) (.bME (.slice 206 aD) tI (aJ aA 5 (.Z 0)) (.p1 tI (.slice 206 aD) (.Z 4))) <|
   .call 1 (aQ aD 1 (.Z 6)) <|
   .bMD (.lit 206 aD 1) (.bME tI aH (.p1 tI aH (.Z 6)) (.Z 7)) <|
   .bMD (.bMJ 206 aD 32) (.bME (.slice 206 aD) (.slice 206 aD) (aQ (.bMC tI (.slice 206 aD)) 1 (.Z 4)) (.Z 8)) <|
   .bMD (.ar .add .i64) (.bME tI tI (.p1 tI (.slice 206 aD) (.Z 4)) (.ci .i64 1)) <|
   .bMF 0 (.bME tI (.slice 206 aD) (.Z 10) (.Z 9))) (
   .call 1 (aJ aA 6 (.Z 0)) <|
   .call 2 (aJ aA 7 (.Z 0)) <|
   .call 2 (aJ aA 8 (.Z 0)) <|
   .call 2 (aJ aA 9 (.Z 0)) <|
   .call 2 (aJ aA 10 (.Z 0)) <|
   .call 3 (aQ aA 11 (.Z 0)) <|
   .ret (bE aA [(.p1 tI cY (.Z 0)),(.Z 1),(.Z 2),(aJ aA 3 (.Z 0)),(aJ aA 4 (.Z 0)),(aQ (.bMC tI (.slice 206 aD)) 1 (.Z 4)),(.Z 6),(.Z 7),(.Z 8),(.Z 9),(.Z 10),(.Z 11)]))
theorem aM6:bL Tryz.prog [jY,eW,bP,mG] dA false 3000 ⟨[(2991,1004,[.dr 20,.dr 19,.dr 14,.dr 11,.dr 8,.dr 18,.dr 16,.dr 13,.dr 10,.dr 7,.dr 17,.dr 15,.dr 12,.dr 9,.dr 6,.dr 0,.tm 23 0,.sl 24])],[(2981,3007,[33],[])]⟩ = .ok vF:=by kernel_rfl
theorem aM7 (x:bC) (hx:okD aA x) (hp:(fun x=>bD aA x≤1000000000) x):vF.wp [jY,eW,bP,mG] [⟨aA,x⟩] [] (fun v=>v.as aA=(fun x=>x) x):=by
 obtain ⟨pc,plan,ops,last,redo,stash,full,X,Y,G,D,sr,sl,ss⟩:=x
 obtain ⟨hplan,hops,hst,hstm,⟨hfull,hfullm⟩,hX,hY,hG,hD,⟨hsr,hsrm⟩⟩:=bGH hp
 delta vF jY eW bP mG;refine dD ?_;try with_reducible exact True.intro
 (repeat' first|intro _|(with_reducible apply And.intro))
 all_goals first|omega|(unfold maxLen;omega)|(simp only[List.length_nil];omega)|(simp only[List.length_nil];unfold maxLen;omega)|skip
 refine cS (fun k=>((k:Int),List.take k stash)) (List.length stash) rfl fun I μ k hk _ go=>?_
 dsimp only
 refine eE ?_
 by_cases hkn:k<List.length stash
 ·have hm:=hstm _ (List.getElem_mem hkn)
  rw[aZ hkn]
  (repeat' first|intro _|(refine go _ ?_ ?_ ?_)|(refine go _ ?_ ?_)|(with_reducible apply And.intro))
  all_goals first|omega|exact hm.1|exact hm.2 _ (by assumption)|(simp only[List.length_take];unfold maxLen;omega)|(simp only[List.length_take];omega)|(rw[iU hkn];rfl)
 ·(repeat' first|intro _|(refine go _ ?_ ?_ ?_)|(refine go _ ?_ ?_)|(with_reducible apply And.intro))
  all_goals first|omega|(have e:k=List.length stash:=(by omega);subst e;first|exact hfullm _ (by assumption)|exact hsrm _ (by assumption)|exact ⟨hsr,hsrm⟩|omega|(unfold maxLen;omega)|(simp only[List.length_nil];omega)|(simp only[List.length_nil];unfold maxLen;omega)|(simp only[List.take_length,List.nil_append];done)|skip)|skip
theorem oP:Con.Holds Tryz.prog dA:=aR aW (aG aHA (aG xM (aG gP (aG aMI aS)))) aM6 aM7
noncomputable def dY:Con:=⟨178,aA,aA,[.val ⟨true,aA,[]⟩],[⟨true,aA,[0,2,2,0,0,2,2,2,2,2,2,2,0,0]⟩],false,none,
 ((fun x=>bD aA x≤1000000000):(bC)→Prop),
 ((fun x=>x):(bC)→(bC))⟩
def aA4:T:=.call 0 (aJ aA 2 (.Z 0)) <|
 .bMD (.bMJ 194 aO 16) (.bME aT aT (.nl 194 aO) (aJ aA 1 (.Z 0))) <|
 .loop (.bMC tI (.slice 206 aD)) (.bME tI (.slice 206 aD) (.ci .i64 0) (.nl 206 aD)) <|
  .bMD (.bMG 206 aD) (aJ aA 5 (.Z 0)) <|
  .bMD (.cmp .lss .i64) (.bME tI tI (.p1 tI (.slice 206 aD) (.Z 3)) (.Z 4)) <|
  .ite (.Z 5) (
   .bMD (.bMH 206 aD) (.bME (.slice 206 aD) tI (aJ aA 5 (.Z 0)) (.p1 tI (.slice 206 aD) (.Z 3))) <|
   .bMD (.bMH 206 aD) (.bME (.slice 206 aD) tI (aJ aA 5 (.Z 0)) (.p1 tI (.slice 206 aD) (.Z 3))) <|
   .call 1 (aQ aD 1 (.Z 7)) <|
   .bMD (.lit 206 aD 1) (.bME tI aH (.p1 tI aH (.Z 6)) (.Z 8)) <|
   .bMD (.bMJ 206 aD 32) (.bME (.slice 206 aD) (.slice 206 aD) (aQ (.bMC tI (.slice 206 aD)) 1 (.Z 3)) (.Z 9)) <|
   .bMD (.ar .add .i64) (.bME tI tI (.p1 tI (.slice 206 aD) (.Z 3)) (.ci .i64 1)) <|
   .bMF 0 (.bME tI (.slice 206 aD) (.Z 11) (.Z 10))) (
   .call 1 (aJ aA 6 (.Z 0)) <|
   .bMD (.bMJ 3 tI 8) (.bME aB aB (.nl 3 tI) (aJ aA 7 (.Z 0))) <|
   .bMD (.bMJ 3 tI 8) (.bME aB aB (.nl 3 tI) (aJ aA 8 (.Z 0))) <|
   .bMD (.bMJ 3 tI 8) (.bME aB aB (.nl 3 tI) (aJ aA 9 (.Z 0))) <|
   .bMD (.bMJ 3 tI 8) (.bME aB aB (.nl 3 tI) (aJ aA 10 (.Z 0))) <|
   .call 1 (aJ aA 11 (.Z 0)) <|
   .ret (bE aA [(.p1 tI cY (.Z 0)),(.Z 2),(.Z 1),(aJ aA 3 (.Z 0)),(aJ aA 4 (.Z 0)),(aQ (.bMC tI (.slice 206 aD)) 1 (.Z 3)),(.Z 6),(.Z 7),(.Z 8),(.Z 9),(.Z 10),(.Z 11),(aQ aA 12 (.Z 0))]))
theorem aT0:bL Tryz.prog [lD,pX] dY false 3000 ⟨[(2985,1003,iQ 16 5++[.dr 0,.tm 4 0,.sl 24])],[(2977,3006,[38],[])]⟩ = .ok aA4:=by kernel_rfl
theorem aVF (x:bC) (hx:okD aA x) (hp:(fun x=>bD aA x≤1000000000) x):aA4.wp [lD,pX] [⟨aA,x⟩] [] (fun v=>v.as aA=(fun x=>x) x):=by
 obtain ⟨pc,plan,ops,last,redo,stash,full,X,Y,G,D,sr,sl,ss⟩:=x
 obtain ⟨hplan,hops,hst,hstm,⟨hfull,hfullm⟩,hX,hY,hG,hD,⟨hsr,hsrm⟩⟩:=bGH hp
 delta aA4 lD pX;refine dD ?_;try with_reducible exact True.intro
 (repeat' first|intro _|(with_reducible apply And.intro))
 all_goals first|omega|(unfold maxLen;omega)|(simp only[List.length_nil];omega)|(simp only[List.length_nil];unfold maxLen;omega)|skip
 refine cS (fun k=>((k:Int),List.take k stash)) (List.length stash) rfl fun I μ k hk _ go=>?_
 dsimp only
 refine eE ?_
 by_cases hkn:k<List.length stash
 ·have hm:=hstm _ (List.getElem_mem hkn)
  rw[aZ hkn]
  (repeat' first|intro _|(refine go _ ?_ ?_ ?_)|(refine go _ ?_ ?_)|(with_reducible apply And.intro))
  all_goals first|omega|exact hm.1|exact hm.2 _ (by assumption)|(simp only[List.length_take];unfold maxLen;omega)|(simp only[List.length_take];omega)|(rw[iU hkn];rfl)
 ·(repeat' first|intro _|(refine go _ ?_ ?_ ?_)|(refine go _ ?_ ?_)|(with_reducible apply And.intro))
  all_goals first|omega|(have e:k=List.length stash:=(by omega);subst e;first|exact hfullm _ (by assumption)|exact hsrm _ (by assumption)|exact ⟨hsr,hsrm⟩|omega|(unfold maxLen;omega)|(simp only[List.length_nil];omega)|(simp only[List.length_nil];unfold maxLen;omega)|(simp only[List.take_length,List.nil_append];done)|skip)|skip
theorem uM:Con.Holds Tryz.prog dY:=aR aW (aG aJ6 (aG aTZ aS)) aT0 aVF
end Go.Proofs.YtiihghfoeinbbaaGreat
