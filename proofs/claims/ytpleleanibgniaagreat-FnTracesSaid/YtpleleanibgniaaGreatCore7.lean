/- Core7: lemmas. No conditions. -/
import Derived.Test.YtpleleanibgniaaGreatCore6
namespace Go.Proofs.YtpleleanibgniaaGreat
open Go.ChangeShapes Go.WideShapes Go.ChangeAt Go.RowKit Go.Deep
set_option linter.unusedVariables false
set_option linter.unusedSimpArgs false
abbrev uV:Ty:=.slice 133 aM
theorem fD (s:bC):bW aA s=bW aY s.2.1+(bW aD s.2.2.1+(bW uV s.2.2.2.2.2.1+(bW aP s.2.2.2.2.2.2.1+(s.2.2.2.2.2.2.2.1.length+(s.2.2.2.2.2.2.2.2.1.length+(s.2.2.2.2.2.2.2.2.2.1.length+(s.2.2.2.2.2.2.2.2.2.2.1.length+bW aP s.2.2.2.2.2.2.2.2.2.2.2.1))))))):=by
 have e:bW aA s=0+(bW aY s.2.1+(bW aD s.2.2.1+(0+(0+(bW uV s.2.2.2.2.2.1+(bW aP s.2.2.2.2.2.2.1+(bW aB s.2.2.2.2.2.2.2.1+(bW aB s.2.2.2.2.2.2.2.2.1+(bW aB s.2.2.2.2.2.2.2.2.2.1+(bW aB s.2.2.2.2.2.2.2.2.2.2.1+(bW aP s.2.2.2.2.2.2.2.2.2.2.2.1+(0+0)))))))))))):=rfl
 rw[fT,fT,fT,fT] at e
 omega
theorem bHR {pc:Int} {plan:List cQ} {ops:List dE} {last redo:Bool} {stash:List kR} {full:dT} {X Y G D:List Int} {sr:dT} {sl:Int} {ss:Bool} (h:bW aA (pc,plan,ops,last,redo,stash,full,X,Y,G,D,sr,sl,ss)≤1000000000) :
  List.length plan≤1000000000∧bW aD ops≤1000000000∧List.length stash≤1000000000∧(∀ x∈stash,List.length x.2≤1000000000∧∀ y∈x.2,List.length y≤1000000000)∧(List.length full≤1000000000∧∀ y∈full,List.length y≤1000000000) ∧
  List.length X≤1000000000∧List.length Y≤1000000000∧List.length G≤1000000000∧List.length D≤1000000000∧(List.length sr≤1000000000∧∀ y∈sr,List.length y≤1000000000):=by
 have hz:=h
 rw[fD] at hz
 dsimp only at hz
 obtain ⟨_,⟨hplan,_⟩,_,_,_,hst,hfull,⟨hX,_⟩,⟨hY,_⟩,⟨hG,_⟩,⟨hD,_⟩,hsr,_⟩:=qL (t:=aA) h
 exact ⟨hplan,by omega,hst.1,fun x hx=>aFU (hst.2 x hx).2,aFU hfull,hX,hY,hG,hD,aFU hsr⟩
theorem aZZ {e:TypeId} {t:Ty} (a b:List t.D):bW (.slice e t) (a++b)=bW (.slice e t) a+bW (.slice e t) b:=by
 rw[cW,cW,cW,List.map_append,List.sum_append,List.length_append];omega
theorem bBE {e:TypeId} {t:Ty} (x:t.D):bW (.slice e t) [x]=1+bW t x:=by rw[cW];simp
theorem aDM {e:TypeId} {t:Ty} (x d:t.D) (c:Nat):(l:List t.D)→(i:Nat)→(i<l.length→bW t x≤bW t (l.getD i d)+c)→bW (.slice e t) (l.set i x)≤bW (.slice e t) l+c
 | [],i,_=>by simp only[List.set_nil];omega
 | a :: l,0,h=>by
  have h1:bW t x≤bW t a+c:=h (Nat.zero_lt_succ _)
  rw[List.set_cons_zero,cW,cW]
  simp only[List.map_cons,List.sum_cons,List.length_cons];omega
 | a :: l,i+1,h=>by
  have h1:=aDM (e:=e) x d c l i fun hi=>h (Nat.succ_lt_succ hi)
  rw[cW,cW] at h1
  rw[List.set_cons_succ,cW,cW]
  simp only[List.map_cons,List.sum_cons,List.length_cons];omega
theorem aMG {e:TypeId} {r:dT} {n c:Nat} (h1:r.length≤n) (h2:∀ y∈r,List.length y≤c):bW (.slice e aIH) r≤n+n * c:=by
 have h:=aAU (bW aIH) c r fun y hy=>by have e1:=fT y;have e2:bW aIH y=bW aB y:=rfl;have:=h2 y hy;omega
 have h3:r.length * c≤n * c:=Nat.mul_le_mul_right _ h1
 rw[cW];omega
theorem aLE {α:Type} {n:Nat} (g:Nat→α) (h:n≤6):(mp n g).length≤6:=by rw[iD];exact h
theorem aE2 (f:Int→Int→Int × Bool) (a b:List Int):(qG f a b).1.length≤6:=by
 unfold qG;split
 ·exact aLE _ (oK (by assumption)).1
 ·exact Nat.zero_le _
theorem aHA (c:Int) (a:List Int):(zU c a).1.length≤6:=by
 unfold zU;split
 ·rename_i h;exact aLE _ ((dB a).1 h.2).2.1
 ·exact Nat.zero_le _
theorem aM2 (a:List Int):(uN a).length≤6:=by
 unfold uN;split
 ·rename_i h;exact aLE _ ((dB a).1 h).2.1
 ·exact Nat.zero_le _
theorem aM1 (x d:List Int):(uP x d).length≤6:=by
 unfold uP;split
 ·exact aLE _ (oK (by assumption)).1
 ·exact Nat.zero_le _
theorem aOL (m:vU) (x:List Int):(mE m x).1.length≤6:=by
 unfold mE;split
 ·rename_i h
  obtain ⟨R,C,data,rfl,h1,h2,h3,h4,h5⟩:=sT h.1
  exact aLE _ (by show (R:Int).toNat≤6;omega)
 ·exact Nat.zero_le _
theorem aM6 (m:vU) (x:List Int):(jV m x).1.length≤6:=by
 unfold jV;split
 ·rename_i h
  obtain ⟨R,C,data,rfl,h1,h2,h3,h4,h5⟩:=sT h.1
  exact aLE _ (by show (C:Int).toNat≤6;omega)
 ·exact Nat.zero_le _
theorem aSV (o:dE) (x:List Int):(zW o x).1.length≤6:=by
 unfold zW
 split
 ·exact Nat.zero_le _
 split
 ·exact aOL _ _
 split
 ·exact aE2 _ _ _
 split
 ·exact aHA _ _
 split
 ·exact aE2 _ _ _
 ·exact aM2 _
theorem aV4 (o:dE) (x d:List Int):(lW o x d).1.length≤6:=by
 unfold lW
 split
 ·exact Nat.zero_le _
 split
 ·exact aM6 _ _
 split
 ·rename_i h _ _
  exact ((dB d).1 ((tO _ _).1 (Decidable.not_not.1 h).2.2).1).2.1
 split
 ·exact aHA _ _
 split
 ·exact aE2 _ _ _
 ·exact aM1 _ _
theorem zF (m:List dE) (x:List Int) (hx:x.length≤6):(k:Nat)→∀ y∈(jZ m x k).1,List.length y≤6
 | 0,y,hy=>by
  obtain rfl:y=x:=by simpa [jZ] using hy
  exact hx
 | k+1,y,hy=>by
  rw[jZ,List.mem_append] at hy
  rcases hy with hy|hy
  ·exact zF m x hx k y hy
  ·obtain rfl:y=_:=List.mem_singleton.1 hy
   exact aSV _ _
theorem aWB {α:Type} {l:List α} {i:Nat} {d:α} (h:l.length≤i):l.getD i d=d:=by rw[List.getD_eq_getElem?_getD,List.getElem?_eq_none h];rfl
theorem aKG {r:dT} (h:∀ y∈r,List.length y≤6) (i:Nat):(r.getD i []).length≤6:=by
 by_cases hi:i<r.length
 ·rw[bD hi];exact h _ (List.getElem_mem hi)
 ·rw[aWB (by omega)];exact Nat.zero_le _
theorem aS6 (m:List dE) (r:dT) (d:List Int) (n:Nat) (hd:d.length≤6):(k:Nat)→(gO m r d n k).2.1.length≤6
 | 0=>hd
 | k+1=>aV4 _ _ _
theorem aHI {e:TypeId}:(a b:dT)→bW (.slice e aIH) (fB a b)≤bW (.slice e aIH) a
 | [],b=>by simp[fB]
 | a :: l,[]=>by simp[fB,cW]
 | a :: l,b :: m=>by
  have h:=aHI (e:=e) l m
  have h1:bW aIH (vP a b)≤bW aIH a:=by
   have e1:=fT (vP a b)
   have e2:=fT a
   have e3:=wU a b
   have e4:bW aIH (vP a b)=bW aB (vP a b):=rfl
   have e5:bW aIH a=bW aB a:=rfl
   omega
  have e:fB (a :: l) (b :: m)=vP a b :: fB l m:=rfl
  rw[cW,cW] at h
  rw[e,cW,cW]
  simp only[List.map_cons,List.sum_cons,List.length_cons];omega
def aV9 (s:bC) (m:Int) (x t:List Int):Bool:=hZ s&&(gC x (jG s.2.2.1)&&(decide (eG s.2.2.2.2.2.1 m<0)&&(!s.2.2.2.1 || gC t (fI s.2.2.1))))
def aXX (s:bC) (x:List Int):List Int:=(jZ s.2.2.1 x s.2.2.1.length).1.getD s.2.2.1.length []
def aA4 (redo:Bool) (r:dT):dT:=if redo=true then r.take 1 else r
def aUX (s:bC) (m:Int) (x t:List Int):bC :=
 (s.1,s.2.1,s.2.2.1,s.2.2.2.1,s.2.2.2.2.1,s.2.2.2.2.2.1++[(m,aA4 s.2.2.2.2.1 (jZ s.2.2.1 x s.2.2.1.length).1)],s.2.2.2.2.2.2.1,[],
  (if s.2.2.2.1=true then s.2.2.2.2.2.2.2.2.1 else aXX s x),s.2.2.2.2.2.2.2.2.2.1,s.2.2.2.2.2.2.2.2.2.2.1,s.2.2.2.2.2.2.2.2.2.2.2.1,
  (if s.2.2.2.1=true then (eI s.2.2.2.2.2.2.2.2.2.2.2.2.1 (xU (aXX s x) t).1).1 else s.2.2.2.2.2.2.2.2.2.2.2.2.1),
  (s.2.2.2.2.2.2.2.2.2.2.2.2.2 || (jZ s.2.2.1 x s.2.2.1.length).2 || (s.2.2.2.1&&((xU (aXX s x) t).2 || (eI s.2.2.2.2.2.2.2.2.2.2.2.2.1 (xU (aXX s x) t).1).2))))
def yH (s:bC) (m:Int) (x t:List Int):bC:=if aV9 s m x t=true then aUX s m x t else s
def oW (s:bC) (m:Int):bC:=if hZ s=true∧0≤eG s.2.2.2.2.2.1 m then
 (s.1,s.2.1,s.2.2.1,s.2.2.2.1,s.2.2.2.2.1,s.2.2.2.2.2.1,(jZ s.2.2.1 ((s.2.2.2.2.2.1.getD (eG s.2.2.2.2.2.1 m).toNat (aS aM)).2.getD 0 []) s.2.2.1.length).1,s.2.2.2.2.2.2.2) else s
def tH (s:bC) (m:Int):dT:=if s.2.2.2.2.1=true then s.2.2.2.2.2.2.1 else (s.2.2.2.2.2.1.getD (eG s.2.2.2.2.2.1 m).toNat (aS aM)).2
def jU (s:bC) (m:Int) (t:List Int):List Int × Bool:=if s.2.2.2.1=true then qG kN ((tH s m).getD s.2.2.1.length []) t else (s.2.2.2.2.2.2.2.2.2.1,false)
def aIQ (m:List dE) (r:dT):Bool:=decide (r.length=m.length+1)&&rY m r m.length
def aWS (s:bC) (m:Int) (t:List Int):Bool:=hZ s&&(decide (0≤eG s.2.2.2.2.2.1 m)&&(aIQ s.2.2.1 (tH s m)&&gC (jU s m t).1 (fI s.2.2.1)))
def bFQ (s:bC) (m:Int) (t:List Int):bC :=
 (s.1,s.2.1,s.2.2.1,s.2.2.2.1,s.2.2.2.2.1,s.2.2.2.2.2.1.take (eG s.2.2.2.2.2.1 m).toNat++s.2.2.2.2.2.1.drop ((eG s.2.2.2.2.2.1 m).toNat+1),[],s.2.2.2.2.2.2.2.1,s.2.2.2.2.2.2.2.2.1,[],
  (tL s.2.2.1 (tH s m) (jU s m t).1).2.1,lI s.2.2.2.2.2.2.2.2.2.2.2 ((tL s.2.2.1 (tH s m) (jU s m t).1).1,0,(jU s m t).2 || (tL s.2.2.1 (tH s m) (jU s m t).1).2.2))
def uT (s:bC) (m:Int) (t:List Int):bC:=if aWS s m t=true then bFQ s m t else s
theorem aFP {v:List Int} {n:Int} (h:gC v n=true):v.length≤6:=((dB _).1 ((tO _ _).1 h).1).2.1
theorem aMY {s:bC} {m:Int} {x t:List Int} (h:hZ s=false∨gC x (jG s.2.2.1)=false∨0≤eG s.2.2.2.2.2.1 m∨(s.2.2.2.1=true∧gC t (fI s.2.2.1)=false)):s=yH s m x t:=by
 unfold yH;rw[if_neg]
 unfold aV9
 simp only[Bool.and_eq_true,Bool.or_eq_true,decide_eq_true_eq,Bool.not_eq_true']
 rintro ⟨h1,h2,h3,h4⟩
 rcases h with h|h|h|⟨h,h'⟩
 ·rw[h] at h1;cases h1
 ·rw[h] at h2;cases h2
 ·omega
 ·rw[h,h'] at h4;simp at h4
theorem aW1 {s:bC} {m:Int} {x t:List Int} (h1:hZ s=true) (h2:gC x (jG s.2.2.1)=true) (h3:eG s.2.2.2.2.2.1 m<0) (h4:s.2.2.2.1=true→gC t (fI s.2.2.1)=true):aUX s m x t=yH s m x t:=by
 unfold yH;rw[if_pos]
 unfold aV9
 simp only[Bool.and_eq_true,Bool.or_eq_true,decide_eq_true_eq,Bool.not_eq_true']
 refine ⟨h1,h2,h3,?_⟩
 cases hh:s.2.2.2.1
 ·exact .inl rfl
 ·exact .inr (h4 hh)
theorem aW6 {s:bC} {m:Int} {x t:List Int} {st:List kR} {l:Int} {b:Bool} (hla:s.2.2.2.1=true) (e1:st=s.2.2.2.2.2.1++[(m,aA4 s.2.2.2.2.1 (jZ s.2.2.1 x s.2.2.1.length).1)])
  (e3:l=(eI s.2.2.2.2.2.2.2.2.2.2.2.2.1 (xU (List.getD (jZ s.2.2.1 x s.2.2.1.length).1 (List.length s.2.2.1) (aS aB)) t).1).1)
  (e4:b=(s.2.2.2.2.2.2.2.2.2.2.2.2.2 || (jZ s.2.2.1 x s.2.2.1.length).2 || ((xU (List.getD (jZ s.2.2.1 x s.2.2.1.length).1 (List.length s.2.2.1) (aS aB)) t).2 || (eI s.2.2.2.2.2.2.2.2.2.2.2.2.1 (xU (List.getD (jZ s.2.2.1 x s.2.2.1.length).1 (List.length s.2.2.1) (aS aB)) t).1).2))) :
  (s.1,s.2.1,s.2.2.1,s.2.2.2.1,s.2.2.2.2.1,st,s.2.2.2.2.2.2.1,([]:List Int),s.2.2.2.2.2.2.2.2.1,s.2.2.2.2.2.2.2.2.2.1,s.2.2.2.2.2.2.2.2.2.2.1,s.2.2.2.2.2.2.2.2.2.2.2.1,l,b)=aUX s m x t:=by
 subst e1 e3 e4;unfold aUX;rw[hla];rfl
theorem aVM {s:bC} {m:Int} {x t:List Int} {st:List kR} {b:Bool} (hla:s.2.2.2.1=false) (e1:st=s.2.2.2.2.2.1++[(m,aA4 s.2.2.2.2.1 (jZ s.2.2.1 x s.2.2.1.length).1)])
  (e4:b=(s.2.2.2.2.2.2.2.2.2.2.2.2.2 || (jZ s.2.2.1 x s.2.2.1.length).2)) :
  (s.1,s.2.1,s.2.2.1,s.2.2.2.1,s.2.2.2.2.1,st,s.2.2.2.2.2.2.1,([]:List Int),(List.getD (jZ s.2.2.1 x s.2.2.1.length).1 (List.length s.2.2.1) (aS aB)),s.2.2.2.2.2.2.2.2.2.1,s.2.2.2.2.2.2.2.2.2.2.1,s.2.2.2.2.2.2.2.2.2.2.2.1,s.2.2.2.2.2.2.2.2.2.2.2.2.1,b)=aUX s m x t:=by
 subst e1 e4;unfold aUX;rw[hla];simp;rfl
theorem bG1 {a b c d:Bool} (h:a=true):true=(a || b || (c || d)):=by rw[h];rfl
theorem bG2 {a b c d:Bool} (h:b=true):true=(a || b || (c || d)):=by rw[h];simp
theorem bG0 {a b c d:Bool} (h:c=true):true=(a || b || (c || d)):=by rw[h];simp
theorem bG4 {a b c d:Bool} (h1:a=false) (h2:b=false) (h3:c=false):d=(a || b || (c || d)):=by rw[h1,h2,h3];simp
theorem bBU {r:dT} {b:Bool} (h:b=true):List.drop 0 (List.take 1 r)=aA4 b r:=by subst h;rfl
theorem bBR {r:dT} {b:Bool} (h:b=false):r=aA4 b r:=by subst h;rfl
noncomputable def cV:Con:=⟨61,aA,aA,[.val ⟨true,aA,[]⟩],[⟨true,aA,[0,2,2,0,0,2,2,2,2,2,2,2,0,0]⟩],false,none,
 ((fun x=>bW aA x≤1000000000):(bC)→Prop),
 ((fun x=>x):(bC)→(bC))⟩
def rP:T :=
 .bJ3 (.bJ9 52 aC 16) (.bJ4 aY aY (.nl 52 aC) (aJ aA 1 (.Z 0))) <|
 .call 0 (aJ aA 2 (.Z 0)) <|
 .bJ3 (.bJ6 133 aM) (aJ aA 5 (.Z 0)) <|
 .loop (.bJ2 tI (.slice 133 aM)) (.bJ4 tI (.slice 133 aM) (.ci .i64 0) (.nl 133 aM)) <|
  .bJ3 (.cmp .lss .i64) (.bJ4 tI tI (.p1 tI (.slice 133 aM) (.Z 4)) (.Z 3)) <|
  .ite (.Z 5) (
   .bJ3 (.bJ7 133 aM) (.bJ4 (.slice 133 aM) tI (aJ aA 5 (.Z 0)) (.p1 tI (.slice 133 aM) (.Z 4))) <|
   .call 1 (aR aM 1 (.Z 6)) <|
   .bJ3 (.lit 133 aM 1) (.bJ4 tI aP (.p1 tI aP (.Z 6)) (.Z 7)) <|
   .bJ3 (.bJ9 133 aM 32) (.bJ4 (.slice 133 aM) (.slice 133 aM) (aR (.bJ2 tI (.slice 133 aM)) 1 (.Z 4)) (.Z 8)) <|
   .bJ3 (.ar .add .i64) (.bJ4 tI tI (.p1 tI (.slice 133 aM) (.Z 4)) (.ci .i64 1)) <|
   .bJ5 0 (.bJ4 tI (.slice 133 aM) (.Z 10) (.Z 9))) (
   .call 1 (aJ aA 6 (.Z 0)) <|
   .call 2 (aJ aA 7 (.Z 0)) <|
   .call 2 (aJ aA 8 (.Z 0)) <|
   .call 2 (aJ aA 9 (.Z 0)) <|
   .call 2 (aJ aA 10 (.Z 0)) <|
   .call 3 (aR aA 11 (.Z 0)) <|
   .ret (bJ aA [(.p1 tI fJ (.Z 0)),(.Z 1),(.Z 2),(aJ aA 3 (.Z 0)),(aJ aA 4 (.Z 0)),(aR (.bJ2 tI (.slice 133 aM)) 1 (.Z 4)),(.Z 6),(.Z 7),(.Z 8),(.Z 9),(.Z 10),(.Z 11)]))
set_option maxRecDepth 100000 in
theorem aKB:bV Tryz.prog [nB,eB,bM,kD] cV false 3000 ⟨[(2991,1004,[.dr 20,.dr 19,.dr 14,.dr 11,.dr 8,.dr 18,.dr 16,.dr 13,.dr 10,.dr 7,.dr 17,.dr 15,.dr 12,.dr 9,.dr 6,.dr 0,.tm 23 0,.sl 24])],[(2981,3007,[33],[])]⟩ = .ok rP:=by kernel_rfl
theorem aK7 (x:bC) (hx:okD aA x) (hp:(fun x=>bW aA x≤1000000000) x):rP.wp [nB,eB,bM,kD] [⟨aA,x⟩] [] (fun v=>v.as aA=(fun x=>x) x):=by
 obtain ⟨pc,plan,ops,last,redo,stash,full,X,Y,G,D,sr,sl,ss⟩:=x
 obtain ⟨hplan,hops,hst,hstm,⟨hfull,hfullm⟩,hX,hY,hG,hD,⟨hsr,hsrm⟩⟩:=bHR hp
 delta rP nB eB bM kD;refine eE ?_;try with_reducible exact True.intro
 (repeat' first|intro _|(with_reducible apply And.intro))
 all_goals first|omega|(unfold maxLen;omega)|(simp only[List.length_nil];omega)|(simp only[List.length_nil];unfold maxLen;omega)|skip
 refine fC (fun k=>((k:Int),List.take k stash)) (List.length stash) rfl fun I μ k hk _ go=>?_
 dsimp only
 refine eL ?_
 by_cases hkn:k<List.length stash
 ·have hm:=hstm _ (List.getElem_mem hkn)
  rw[bD hkn]
  (repeat' first|intro _|(refine go _ ?_ ?_ ?_)|(refine go _ ?_ ?_)|(with_reducible apply And.intro))
  all_goals first|omega|exact hm.1|exact hm.2 _ (by assumption)|(simp only[List.length_take];unfold maxLen;omega)|(simp only[List.length_take];omega)|(rw[iQ hkn];rfl)
 ·(repeat' first|intro _|(refine go _ ?_ ?_ ?_)|(refine go _ ?_ ?_)|(with_reducible apply And.intro))
  all_goals first|omega|(have e:k=List.length stash:=(by omega);subst e;first|exact hfullm _ (by assumption)|exact hsrm _ (by assumption)|exact ⟨hsr,hsrm⟩|omega|(unfold maxLen;omega)|(simp only[List.length_nil];omega)|(simp only[List.length_nil];unfold maxLen;omega)|(simp only[List.take_length,List.nil_append];done)|skip)|skip
theorem mR:Con.Holds Tryz.prog cV:=aV aX (aG aQU (aG tS (aG fM (aG aK8 aT)))) aKB aK7
end Go.Proofs.YtpleleanibgniaaGreat
