/- Core7: lemmas. No conditions. -/
import Derived.Test.YtdeobhdbmehpgaaGreatCore6
namespace Go.Proofs.YtdeobhdbmehpgaaGreat
open Go.ChangeShapes Go.WideShapes Go.ChangeAt Go.RowKit Go.Deep
set_option linter.unusedVariables false
set_option linter.unusedSimpArgs false
abbrev tF:Ty:=.slice 80 aC
theorem kQ (s:aM):eB aB s=eB aL s.2.1+(eB aF s.2.2.1+(eB tF s.2.2.2.2.2.1+(eB aE s.2.2.2.2.2.2.1+(s.2.2.2.2.2.2.2.1.length+(s.2.2.2.2.2.2.2.2.1.length+(s.2.2.2.2.2.2.2.2.2.1.length+(s.2.2.2.2.2.2.2.2.2.2.1.length+eB aE s.2.2.2.2.2.2.2.2.2.2.2.1))))))):=by
 have e:eB aB s=0+(eB aL s.2.1+(eB aF s.2.2.1+(0+(0+(eB tF s.2.2.2.2.2.1+(eB aE s.2.2.2.2.2.2.1+(eB aA s.2.2.2.2.2.2.2.1+(eB aA s.2.2.2.2.2.2.2.2.1+(eB aA s.2.2.2.2.2.2.2.2.2.1+(eB aA s.2.2.2.2.2.2.2.2.2.2.1+(eB aE s.2.2.2.2.2.2.2.2.2.2.2.1+(0+0)))))))))))):=rfl
 rw[kP,kP,kP,kP] at e
 omega
theorem bCU {pc:Int} {plan:List eY} {ops:List dR} {last redo:Bool} {stash:List dQ} {full:bX} {X Y G D:List Int} {sr:bX} {sl:Int} {ss:Bool} (h:eB aB (pc,plan,ops,last,redo,stash,full,X,Y,G,D,sr,sl,ss)≤1000000000) :
  List.length plan≤1000000000∧eB aF ops≤1000000000∧List.length stash≤1000000000∧(∀ x∈stash,List.length x.2≤1000000000∧∀ y∈x.2,List.length y≤1000000000)∧(List.length full≤1000000000∧∀ y∈full,List.length y≤1000000000) ∧
  List.length X≤1000000000∧List.length Y≤1000000000∧List.length G≤1000000000∧List.length D≤1000000000∧(List.length sr≤1000000000∧∀ y∈sr,List.length y≤1000000000):=by
 have hz:=h
 rw[kQ] at hz
 dsimp only at hz
 obtain ⟨_,⟨hplan,_⟩,_,_,_,hst,hfull,⟨hX,_⟩,⟨hY,_⟩,⟨hG,_⟩,⟨hD,_⟩,hsr,_⟩:=aJC (t:=aB) h
 exact ⟨hplan,by omega,hst.1,fun x hx=>aEU (hst.2 x hx).2,aEU hfull,hX,hY,hG,hD,aEU hsr⟩
theorem bDM {e:TypeId} {t:Ty} (a b:List t.D):eB (.slice e t) (a++b)=eB (.slice e t) a+eB (.slice e t) b:=by
 rw[eD,eD,eD,List.map_append,List.sum_append,List.length_append];omega
theorem bDU {e:TypeId} {t:Ty} (x:t.D):eB (.slice e t) [x]=1+eB t x:=by rw[eD];simp
theorem aLI {e:TypeId} {r:bX} {n c:Nat} (h1:r.length≤n) (h2:∀ y∈r,List.length y≤c):eB (.slice e aE6) r≤n+n * c:=by
 have h:=aGW (eB aE6) c r fun y hy=>by have e1:=kP y;have e2:eB aE6 y=eB aA y:=rfl;have:=h2 y hy;omega
 have h3:r.length * c≤n * c:=Nat.mul_le_mul_right _ h1
 rw[eD];omega
theorem aJ6 {α:Type} {n:Nat} (g:Nat→α) (h:n≤6):(mp n g).length≤6:=by rw[nO];exact h
theorem aD1 (f:Int→Int→Int × Bool) (a b:List Int):(kI f a b).1.length≤6:=by
 unfold kI;split
 ·exact aJ6 _ (oH (by assumption)).1
 ·exact Nat.zero_le _
theorem aGV (c:Int) (a:List Int):(yN c a).1.length≤6:=by
 unfold yN;split
 ·rename_i h;exact aJ6 _ ((dU a).1 h.2).2.1
 ·exact Nat.zero_le _
theorem aLQ (a:List Int):(sY a).length≤6:=by
 unfold sY;split
 ·rename_i h;exact aJ6 _ ((dU a).1 h).2.1
 ·exact Nat.zero_le _
theorem aK8 (x d:List Int):(tU x d).length≤6:=by
 unfold tU;split
 ·exact aJ6 _ (oH (by assumption)).1
 ·exact Nat.zero_le _
theorem aOF (m:aE9) (x:List Int):(nN m x).1.length≤6:=by
 unfold nN;split
 ·rename_i h
  obtain ⟨R,C,data,rfl,h1,h2,h3,h4,h5⟩:=oN h.1
  exact aJ6 _ (by show (R:Int).toNat≤6;omega)
 ·exact Nat.zero_le _
theorem aLO (m:aE9) (x:List Int):(jE m x).1.length≤6:=by
 unfold jE;split
 ·rename_i h
  obtain ⟨R,C,data,rfl,h1,h2,h3,h4,h5⟩:=oN h.1
  exact aJ6 _ (by show (C:Int).toNat≤6;omega)
 ·exact Nat.zero_le _
theorem aQY (o:dR) (x:List Int):(vM o x).1.length≤6:=by
 unfold vM
 split
 ·exact Nat.zero_le _
 split
 ·exact aOF _ _
 split
 ·exact aD1 _ _ _
 split
 ·exact aGV _ _
 split
 ·exact aD1 _ _ _
 ·exact aLQ _
theorem aR9 (o:dR) (x d:List Int):(kO o x d).1.length≤6:=by
 unfold kO
 split
 ·exact Nat.zero_le _
 split
 ·exact aLO _ _
 split
 ·rename_i h _ _
  exact ((dU d).1 ((bT _ _).1 (Decidable.not_not.1 h).2.2).1).2.1
 split
 ·exact aGV _ _
 split
 ·exact aD1 _ _ _
 ·exact aK8 _ _
theorem xN (m:List dR) (x:List Int) (hx:x.length≤6):(k:Nat)→∀ y∈(jG m x k).1,List.length y≤6
 | 0,y,hy=>by
  obtain rfl:y=x:=by simpa [jG] using hy
  exact hx
 | k+1,y,hy=>by
  rw[jG,List.mem_append] at hy
  rcases hy with hy|hy
  ·exact xN m x hx k y hy
  ·obtain rfl:y=_:=List.mem_singleton.1 hy
   exact aQY _ _
theorem aTC {α:Type} {l:List α} {i:Nat} {d:α} (h:l.length≤i):l.getD i d=d:=by rw[List.getD_eq_getElem?_getD,List.getElem?_eq_none h];rfl
theorem aK3 {r:bX} (h:∀ y∈r,List.length y≤6) (i:Nat):(r.getD i []).length≤6:=by
 by_cases hi:i<r.length
 ·rw[bE hi];exact h _ (List.getElem_mem hi)
 ·rw[aTC (by omega)];exact Nat.zero_le _
theorem aR4 (m:List dR) (r:bX) (d:List Int) (n:Nat) (hd:d.length≤6):(k:Nat)→(gO m r d n k).2.1.length≤6
 | 0=>hd
 | k+1=>aR9 _ _ _
theorem aHO {e:TypeId}:(a b:bX)→eB (.slice e aE6) (fN a b)≤eB (.slice e aE6) a
 | [],b=>by simp[fN]
 | a :: l,[]=>by simp[fN,eD]
 | a :: l,b :: m=>by
  have h:=aHO (e:=e) l m
  have h1:eB aE6 (vO a b)≤eB aE6 a:=by
   have e1:=kP (vO a b)
   have e2:=kP a
   have e3:=aFS a b
   have e4:eB aE6 (vO a b)=eB aA (vO a b):=rfl
   have e5:eB aE6 a=eB aA a:=rfl
   omega
  have e:fN (a :: l) (b :: m)=vO a b :: fN l m:=rfl
  rw[eD,eD] at h
  rw[e,eD,eD]
  simp only[List.map_cons,List.sum_cons,List.length_cons];omega
def aU9 (s:aM) (m:Int) (x t:List Int):Bool:=eT s&&(eG x (iA s.2.2.1)&&(decide (dT s.2.2.2.2.2.1 m<0)&&(!s.2.2.2.1 || eG t (dJ s.2.2.1))))
def aXE (s:aM) (x:List Int):List Int:=(jG s.2.2.1 x s.2.2.1.length).1.getD s.2.2.1.length []
def yS (redo:Bool) (r:bX):bX:=if redo=true then r.take 1 else r
def aRI (s:aM) (m:Int) (x t:List Int):aM :=
 (s.1,s.2.1,s.2.2.1,s.2.2.2.1,s.2.2.2.2.1,s.2.2.2.2.2.1++[(m,yS s.2.2.2.2.1 (jG s.2.2.1 x s.2.2.1.length).1)],s.2.2.2.2.2.2.1,[],
  (if s.2.2.2.1=true then s.2.2.2.2.2.2.2.2.1 else aXE s x),s.2.2.2.2.2.2.2.2.2.1,s.2.2.2.2.2.2.2.2.2.2.1,s.2.2.2.2.2.2.2.2.2.2.2.1,
  (if s.2.2.2.1=true then (dP s.2.2.2.2.2.2.2.2.2.2.2.2.1 (uM (aXE s x) t).1).1 else s.2.2.2.2.2.2.2.2.2.2.2.2.1),
  (s.2.2.2.2.2.2.2.2.2.2.2.2.2 || (jG s.2.2.1 x s.2.2.1.length).2 || (s.2.2.2.1&&((uM (aXE s x) t).2 || (dP s.2.2.2.2.2.2.2.2.2.2.2.2.1 (uM (aXE s x) t).1).2))))
def aH9 (s:aM) (m:Int) (x t:List Int):aM:=if aU9 s m x t=true then aRI s m x t else s
def uP (s:aM) (m:Int):aM:=if eT s=true∧0≤dT s.2.2.2.2.2.1 m then
 (s.1,s.2.1,s.2.2.1,s.2.2.2.1,s.2.2.2.2.1,s.2.2.2.2.2.1,(jG s.2.2.1 ((s.2.2.2.2.2.1.getD (dT s.2.2.2.2.2.1 m).toNat (bG aC)).2.getD 0 []) s.2.2.1.length).1,s.2.2.2.2.2.2.2) else s
def lN (s:aM) (m:Int):bX:=if s.2.2.2.2.1=true then s.2.2.2.2.2.2.1 else (s.2.2.2.2.2.1.getD (dT s.2.2.2.2.2.1 m).toNat (bG aC)).2
def iO (s:aM) (m:Int) (t:List Int):List Int × Bool:=if s.2.2.2.1=true then kI fK ((lN s m).getD s.2.2.1.length []) t else (s.2.2.2.2.2.2.2.2.2.1,false)
def aH5 (m:List dR) (r:bX):Bool:=decide (r.length=m.length+1)&&nM m r m.length
def aNR (s:aM) (m:Int) (t:List Int):Bool:=eT s&&(decide (0≤dT s.2.2.2.2.2.1 m)&&(aH5 s.2.2.1 (lN s m)&&eG (iO s m t).1 (dJ s.2.2.1)))
def bC0 (s:aM) (m:Int) (t:List Int):aM :=
 (s.1,s.2.1,s.2.2.1,s.2.2.2.1,s.2.2.2.2.1,s.2.2.2.2.2.1.take (dT s.2.2.2.2.2.1 m).toNat++s.2.2.2.2.2.1.drop ((dT s.2.2.2.2.2.1 m).toNat+1),[],s.2.2.2.2.2.2.2.1,s.2.2.2.2.2.2.2.2.1,[],
  (rT s.2.2.1 (lN s m) (iO s m t).1).2.1,lD s.2.2.2.2.2.2.2.2.2.2.2 ((rT s.2.2.1 (lN s m) (iO s m t).1).1,0,(iO s m t).2 || (rT s.2.2.1 (lN s m) (iO s m t).1).2.2))
def aCW (s:aM) (m:Int) (t:List Int):aM:=if aNR s m t=true then bC0 s m t else s
theorem aEW {v:List Int} {n:Int} (h:eG v n=true):v.length≤6:=((dU _).1 ((bT _ _).1 h).1).2.1
theorem aD2 {s:aM} {m:Int} {x t:List Int} (h:eT s=false∨eG x (iA s.2.2.1)=false∨0≤dT s.2.2.2.2.2.1 m∨(s.2.2.2.1=true∧eG t (dJ s.2.2.1)=false)):s=aH9 s m x t:=by
 unfold aH9;rw[if_neg]
 unfold aU9
 simp only[Bool.and_eq_true,Bool.or_eq_true,decide_eq_true_eq,Bool.not_eq_true']
 rintro ⟨h1,h2,h3,h4⟩
 rcases h with h|h|h|⟨h,h'⟩
 ·rw[h] at h1;cases h1
 ·rw[h] at h2;cases h2
 ·omega
 ·rw[h,h'] at h4;simp at h4
theorem aTW {s:aM} {m:Int} {x t:List Int} (h1:eT s=true) (h2:eG x (iA s.2.2.1)=true) (h3:dT s.2.2.2.2.2.1 m<0) (h4:s.2.2.2.1=true→eG t (dJ s.2.2.1)=true):aRI s m x t=aH9 s m x t:=by
 unfold aH9;rw[if_pos]
 unfold aU9
 simp only[Bool.and_eq_true,Bool.or_eq_true,decide_eq_true_eq,Bool.not_eq_true']
 refine ⟨h1,h2,h3,?_⟩
 cases hh:s.2.2.2.1
 ·exact .inl rfl
 ·exact .inr (h4 hh)
theorem aUA {s:aM} {m:Int} {x t:List Int} {st:List dQ} {l:Int} {b:Bool} (hla:s.2.2.2.1=true) (e1:st=s.2.2.2.2.2.1++[(m,yS s.2.2.2.2.1 (jG s.2.2.1 x s.2.2.1.length).1)])
  (e3:l=(dP s.2.2.2.2.2.2.2.2.2.2.2.2.1 (uM (List.getD (jG s.2.2.1 x s.2.2.1.length).1 (List.length s.2.2.1) (bG aA)) t).1).1)
  (e4:b=(s.2.2.2.2.2.2.2.2.2.2.2.2.2 || (jG s.2.2.1 x s.2.2.1.length).2 || ((uM (List.getD (jG s.2.2.1 x s.2.2.1.length).1 (List.length s.2.2.1) (bG aA)) t).2 || (dP s.2.2.2.2.2.2.2.2.2.2.2.2.1 (uM (List.getD (jG s.2.2.1 x s.2.2.1.length).1 (List.length s.2.2.1) (bG aA)) t).1).2))) :
  (s.1,s.2.1,s.2.2.1,s.2.2.2.1,s.2.2.2.2.1,st,s.2.2.2.2.2.2.1,([]:List Int),s.2.2.2.2.2.2.2.2.1,s.2.2.2.2.2.2.2.2.2.1,s.2.2.2.2.2.2.2.2.2.2.1,s.2.2.2.2.2.2.2.2.2.2.2.1,l,b)=aRI s m x t:=by
 subst e1 e3 e4;unfold aRI;rw[hla];rfl
theorem aUE {s:aM} {m:Int} {x t:List Int} {st:List dQ} {b:Bool} (hla:s.2.2.2.1=false) (e1:st=s.2.2.2.2.2.1++[(m,yS s.2.2.2.2.1 (jG s.2.2.1 x s.2.2.1.length).1)])
  (e4:b=(s.2.2.2.2.2.2.2.2.2.2.2.2.2 || (jG s.2.2.1 x s.2.2.1.length).2)) :
  (s.1,s.2.1,s.2.2.1,s.2.2.2.1,s.2.2.2.2.1,st,s.2.2.2.2.2.2.1,([]:List Int),(List.getD (jG s.2.2.1 x s.2.2.1.length).1 (List.length s.2.2.1) (bG aA)),s.2.2.2.2.2.2.2.2.2.1,s.2.2.2.2.2.2.2.2.2.2.1,s.2.2.2.2.2.2.2.2.2.2.2.1,s.2.2.2.2.2.2.2.2.2.2.2.2.1,b)=aRI s m x t:=by
 subst e1 e4;unfold aRI;rw[hla];simp;rfl
theorem bCO {a b c d:Bool} (h:a=true):true=(a || b || (c || d)):=by rw[h];rfl
theorem bCI {a b c d:Bool} (h:b=true):true=(a || b || (c || d)):=by rw[h];simp
theorem bCR {a b c d:Bool} (h:c=true):true=(a || b || (c || d)):=by rw[h];simp
theorem bCT {a b c d:Bool} (h1:a=false) (h2:b=false) (h3:c=false):d=(a || b || (c || d)):=by rw[h1,h2,h3];simp
theorem aYM {r:bX} {b:Bool} (h:b=true):List.drop 0 (List.take 1 r)=yS b r:=by subst h;rfl
theorem aYA {r:bX} {b:Bool} (h:b=false):r=yS b r:=by subst h;rfl
noncomputable def eM:Con:=⟨129,aB,aB,[.val ⟨true,aB,[]⟩],[⟨true,aB,[0,2,2,0,0,2,2,2,2,2,2,2,0,0]⟩],false,none,
 ((fun x=>eB aB x≤1000000000):(aM)→Prop),
 ((fun x=>x):(aM)→(aM))⟩
def uV:T:=.call 0 (aI aB 2 (.Z 0)) <|
 .bEM (.bES 76 aD 16) (.bEN aL aL (.nl 76 aD) (aI aB 1 (.Z 0))) <|
 .loop (.bEL tI (.slice 80 aC)) (.bEN tI (.slice 80 aC) (.ci .i64 0) (.nl 80 aC)) <|
  .bEM (.bEP 80 aC) (aI aB 5 (.Z 0)) <|
  .bEM (.cmp .lss .i64) (.bEN tI tI (.p1 tI (.slice 80 aC) (.Z 3)) (.Z 4)) <|
  .ite (.Z 5) (
   .bEM (.bEQ 80 aC) (.bEN (.slice 80 aC) tI (aI aB 5 (.Z 0)) (.p1 tI (.slice 80 aC) (.Z 3))) <|
   .bEM (.bEQ 80 aC) (.bEN (.slice 80 aC) tI (aI aB 5 (.Z 0)) (.p1 tI (.slice 80 aC) (.Z 3))) <|
   .call 1 (aN aC 1 (.Z 7)) <|
   .bEM (.lit 80 aC 1) (.bEN tI aE (.p1 tI aE (.Z 6)) (.Z 8)) <|
   .bEM (.bES 80 aC 32) (.bEN (.slice 80 aC) (.slice 80 aC) (aN (.bEL tI (.slice 80 aC)) 1 (.Z 3)) (.Z 9)) <|
   .bEM (.ar .add .i64) (.bEN tI tI (.p1 tI (.slice 80 aC) (.Z 3)) (.ci .i64 1)) <|
   .bEO 0 (.bEN tI (.slice 80 aC) (.Z 11) (.Z 10))) (
   .call 1 (aI aB 6 (.Z 0)) <|
   .bEM (.bES 3 tI 8) (.bEN aA aA (.nl 3 tI) (aI aB 7 (.Z 0))) <|
   .bEM (.bES 3 tI 8) (.bEN aA aA (.nl 3 tI) (aI aB 8 (.Z 0))) <|
   .bEM (.bES 3 tI 8) (.bEN aA aA (.nl 3 tI) (aI aB 9 (.Z 0))) <|
   .bEM (.bES 3 tI 8) (.bEN aA aA (.nl 3 tI) (aI aB 10 (.Z 0))) <|
   .call 1 (aI aB 11 (.Z 0)) <|
   .ret (aY aB [(.p1 tI iT (.Z 0)),(.Z 2),(.Z 1),(aI aB 3 (.Z 0)),(aI aB 4 (.Z 0)),(aN (.bEL tI (.slice 80 aC)) 1 (.Z 3)),(.Z 6),(.Z 7),(.Z 8),(.Z 9),(.Z 10),(.Z 11),(aN aB 12 (.Z 0))]))
set_option maxRecDepth 100000 in
theorem aO7:bJ Tryz.prog [iQ,mZ] eM false 3000 ⟨[(2985,1003,jT 16 5++[.dr 0,.tm 4 0,.sl 24])],[(2977,3006,[38],[])]⟩ = .ok uV:=by kernel_rfl
theorem aMG (x:aM) (hx:okD aB x) (hp:(fun x=>eB aB x≤1000000000) x):uV.wp [iQ,mZ] [⟨aB,x⟩] [] (fun v=>v.as aB=(fun x=>x) x):=by
 obtain ⟨pc,plan,ops,last,redo,stash,full,X,Y,G,D,sr,sl,ss⟩:=x
 obtain ⟨hplan,hops,hst,hstm,⟨hfull,hfullm⟩,hX,hY,hG,hD,⟨hsr,hsrm⟩⟩:=bCU hp
 delta uV iQ mZ;refine eE ?_;try with_reducible exact True.intro
 (repeat' first|intro _|(with_reducible apply And.intro))
 all_goals first|omega|(unfold maxLen;omega)|(simp only[List.length_nil];omega)|(simp only[List.length_nil];unfold maxLen;omega)|skip
 refine jC (fun k=>((k:Int),List.take k stash)) (List.length stash) rfl fun I μ k hk _ go=>?_
 dsimp only
 refine fJ ?_
 by_cases hkn:k<List.length stash
 ·have hm:=hstm _ (List.getElem_mem hkn)
  rw[bE hkn]
  (repeat' first|intro _|(refine go _ ?_ ?_ ?_)|(refine go _ ?_ ?_)|(with_reducible apply And.intro))
  all_goals first|omega|exact hm.1|exact hm.2 _ (by assumption)|(simp only[List.length_take];unfold maxLen;omega)|(simp only[List.length_take];omega)|(rw[aKX hkn];rfl)
 ·(repeat' first|intro _|(refine go _ ?_ ?_ ?_)|(refine go _ ?_ ?_)|(with_reducible apply And.intro))
  all_goals first|omega|(have e:k=List.length stash:=(by omega);subst e;first|exact hfullm _ (by assumption)|exact hsrm _ (by assumption)|exact ⟨hsr,hsrm⟩|omega|(unfold maxLen;omega)|(simp only[List.length_nil];omega)|(simp only[List.length_nil];unfold maxLen;omega)|(simp only[List.take_length,List.nil_append];done)|skip)|skip
theorem uU:Con.Holds Tryz.prog eM:=aQ aR (aG aHN (aG aOL aO)) aO7 aMG
end Go.Proofs.YtdeobhdbmehpgaaGreat
