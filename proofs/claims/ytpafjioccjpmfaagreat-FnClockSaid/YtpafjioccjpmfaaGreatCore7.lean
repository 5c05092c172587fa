/- Core7: lemmas. No conditions. -/
import Derived.Test.YtpafjioccjpmfaaGreatCore6
namespace Go.Proofs.YtpafjioccjpmfaaGreat
open Go.ChangeShapes Go.WideShapes Go.ChangeAt Go.RowKit Go.Deep
set_option linter.unusedVariables false
set_option linter.unusedSimpArgs false
abbrev qX:Ty:=.slice 104 aL
theorem fN (s:bG):bS aA s=bS aR s.2.1+(bS aE s.2.2.1+(bS qX s.2.2.2.2.2.1+(bS aO s.2.2.2.2.2.2.1+(s.2.2.2.2.2.2.2.1.length+(s.2.2.2.2.2.2.2.2.1.length+(s.2.2.2.2.2.2.2.2.2.1.length+(s.2.2.2.2.2.2.2.2.2.2.1.length+bS aO s.2.2.2.2.2.2.2.2.2.2.2.1))))))):=by
 have e:bS aA s=0+(bS aR s.2.1+(bS aE s.2.2.1+(0+(0+(bS qX s.2.2.2.2.2.1+(bS aO s.2.2.2.2.2.2.1+(bS aB s.2.2.2.2.2.2.2.1+(bS aB s.2.2.2.2.2.2.2.2.1+(bS aB s.2.2.2.2.2.2.2.2.2.1+(bS aB s.2.2.2.2.2.2.2.2.2.2.1+(bS aO s.2.2.2.2.2.2.2.2.2.2.2.1+(0+0)))))))))))):=rfl
 rw[gN,gN,gN,gN] at e
 omega
theorem bNI {pc:Int} {plan:List cP} {ops:List cZ} {last redo:Bool} {stash:List gK} {full:dG} {X Y G D:List Int} {sr:dG} {sl:Int} {ss:Bool} (h:bS aA (pc,plan,ops,last,redo,stash,full,X,Y,G,D,sr,sl,ss)≤1000000000) :
  List.length plan≤1000000000∧bS aE ops≤1000000000∧List.length stash≤1000000000∧(∀ x∈stash,List.length x.2≤1000000000∧∀ y∈x.2,List.length y≤1000000000)∧(List.length full≤1000000000∧∀ y∈full,List.length y≤1000000000) ∧
  List.length X≤1000000000∧List.length Y≤1000000000∧List.length G≤1000000000∧List.length D≤1000000000∧(List.length sr≤1000000000∧∀ y∈sr,List.length y≤1000000000):=by
 have hz:=h
 rw[fN] at hz
 dsimp only at hz
 obtain ⟨_,⟨hplan,_⟩,_,_,_,hst,hfull,⟨hX,_⟩,⟨hY,_⟩,⟨hG,_⟩,⟨hD,_⟩,hsr,_⟩:=rC (t:=aA) h
 exact ⟨hplan,by omega,hst.1,fun x hx=>aJA (hst.2 x hx).2,aJA hfull,hX,hY,hG,hD,aJA hsr⟩
theorem bJZ {e:TypeId} {t:Ty} (a b:List t.D):bS (.slice e t) (a++b)=bS (.slice e t) a+bS (.slice e t) b:=by
 rw[dK,dK,dK,List.map_append,List.sum_append,List.length_append];omega
theorem bG8 {e:TypeId} {t:Ty} (x:t.D):bS (.slice e t) [x]=1+bS t x:=by rw[dK];simp
theorem aH4 {e:TypeId} {t:Ty} (x d:t.D) (c:Nat):(l:List t.D)→(i:Nat)→(i<l.length→bS t x≤bS t (l.getD i d)+c)→bS (.slice e t) (l.set i x)≤bS (.slice e t) l+c
 | [],i,_=>by simp only[List.set_nil];omega
 | a :: l,0,h=>by
  have h1:bS t x≤bS t a+c:=h (Nat.zero_lt_succ _)
  rw[List.set_cons_zero,dK,dK]
  simp only[List.map_cons,List.sum_cons,List.length_cons];omega
 | a :: l,i+1,h=>by
  have h1:=aH4 (e:=e) x d c l i fun hi=>h (Nat.succ_lt_succ hi)
  rw[dK,dK] at h1
  rw[List.set_cons_succ,dK,dK]
  simp only[List.map_cons,List.sum_cons,List.length_cons];omega
theorem aSR {e:TypeId} {r:dG} {n c:Nat} (h1:r.length≤n) (h2:∀ y∈r,List.length y≤c):bS (.slice e aFJ) r≤n+n * c:=by
 have h:=aE5 (bS aFJ) c r fun y hy=>by have e1:=gN y;have e2:bS aFJ y=bS aB y:=rfl;have:=h2 y hy;omega
 have h3:r.length * c≤n * c:=Nat.mul_le_mul_right _ h1
 rw[dK];omega
theorem aP2 {α:Type} {n:Nat} (g:Nat→α) (h:n≤6):(mp n g).length≤6:=by rw[fL];exact h
theorem aGG (f:Int→Int→Int × Bool) (a b:List Int):(oT f a b).1.length≤6:=by
 unfold oT;split
 ·exact aP2 _ (rP (by assumption)).1
 ·exact Nat.zero_le _
theorem aKQ (c:Int) (a:List Int):(zK c a).1.length≤6:=by
 unfold zK;split
 ·rename_i h;exact aP2 _ ((dB a).1 h.2).2.1
 ·exact Nat.zero_le _
theorem aRU (a:List Int):(uV a).length≤6:=by
 unfold uV;split
 ·rename_i h;exact aP2 _ ((dB a).1 h).2.1
 ·exact Nat.zero_le _
theorem aSD (x d:List Int):(uZ x d).length≤6:=by
 unfold uZ;split
 ·exact aP2 _ (rP (by assumption)).1
 ·exact Nat.zero_le _
theorem aVD (m:aA2) (x:List Int):(nH m x).1.length≤6:=by
 unfold nH;split
 ·rename_i h
  obtain ⟨R,C,data,rfl,h1,h2,h3,h4,h5⟩:=wO h.1
  exact aP2 _ (by show (R:Int).toNat≤6;omega)
 ·exact Nat.zero_le _
theorem aQC (m:aA2) (x:List Int):(kC m x).1.length≤6:=by
 unfold kC;split
 ·rename_i h
  obtain ⟨R,C,data,rfl,h1,h2,h3,h4,h5⟩:=wO h.1
  exact aP2 _ (by show (C:Int).toNat≤6;omega)
 ·exact Nat.zero_le _
theorem aYW (o:cZ) (x:List Int):(rU o x).1.length≤6:=by
 unfold rU
 split
 ·exact Nat.zero_le _
 split
 ·exact aVD _ _
 split
 ·exact aGG _ _ _
 split
 ·exact aKQ _ _
 split
 ·exact aGG _ _ _
 ·exact aRU _
theorem aXF (o:cZ) (x d:List Int):(mG o x d).1.length≤6:=by
 unfold mG
 split
 ·exact Nat.zero_le _
 split
 ·exact aQC _ _
 split
 ·rename_i h _ _
  exact ((dB d).1 ((fF _ _).1 (Decidable.not_not.1 h).2.2).1).2.1
 split
 ·exact aKQ _ _
 split
 ·exact aGG _ _ _
 ·exact aSD _ _
theorem aC0 (m:List cZ) (x:List Int) (hx:x.length≤6):(k:Nat)→∀ y∈(jC m x k).1,List.length y≤6
 | 0,y,hy=>by
  obtain rfl:y=x:=by simpa [jC] using hy
  exact hx
 | k+1,y,hy=>by
  rw[jC,List.mem_append] at hy
  rcases hy with hy|hy
  ·exact aC0 m x hx k y hy
  ·obtain rfl:y=_:=List.mem_singleton.1 hy
   exact aYW _ _
theorem aBV {α:Type} {l:List α} {i:Nat} {d:α} (h:l.length≤i):l.getD i d=d:=by rw[List.getD_eq_getElem?_getD,List.getElem?_eq_none h];rfl
theorem aPA {r:dG} (h:∀ y∈r,List.length y≤6) (i:Nat):(r.getD i []).length≤6:=by
 by_cases hi:i<r.length
 ·rw[aW hi];exact h _ (List.getElem_mem hi)
 ·rw[aBV (by omega)];exact Nat.zero_le _
theorem aX3 (m:List cZ) (r:dG) (d:List Int) (n:Nat) (hd:d.length≤6):(k:Nat)→(iD m r d n k).2.1.length≤6
 | 0=>hd
 | k+1=>aXF _ _ _
theorem aL5 {e:TypeId}:(a b:dG)→bS (.slice e aFJ) (eY a b)≤bS (.slice e aFJ) a
 | [],b=>by simp[eY]
 | a :: l,[]=>by simp[eY,dK]
 | a :: l,b :: m=>by
  have h:=aL5 (e:=e) l m
  have h1:bS aFJ (xL a b)≤bS aFJ a:=by
   have e1:=gN (xL a b)
   have e2:=gN a
   have e3:=aB3 a b
   have e4:bS aFJ (xL a b)=bS aB (xL a b):=rfl
   have e5:bS aFJ a=bS aB a:=rfl
   omega
  have e:eY (a :: l) (b :: m)=xL a b :: eY l m:=rfl
  rw[dK,dK] at h
  rw[e,dK,dK]
  simp only[List.map_cons,List.sum_cons,List.length_cons];omega
def aUS (s:bG) (m:Int) (x t:List Int):Bool:=dP s&&(cN x (dM s.2.2.1)&&(decide (eE s.2.2.2.2.2.1 m<0)&&(!s.2.2.2.1 || cN t (cH s.2.2.1))))
def aO5 (s:bG) (x:List Int):List Int:=(jC s.2.2.1 x s.2.2.1.length).1.getD s.2.2.1.length []
def zH (redo:Bool) (r:dG):dG:=if redo=true then r.take 1 else r
def aNM (s:bG) (m:Int) (x t:List Int):bG :=
 (s.1,s.2.1,s.2.2.1,s.2.2.2.1,s.2.2.2.2.1,s.2.2.2.2.2.1++[(m,zH s.2.2.2.2.1 (jC s.2.2.1 x s.2.2.1.length).1)],s.2.2.2.2.2.2.1,[],
  (if s.2.2.2.1=true then s.2.2.2.2.2.2.2.2.1 else aO5 s x),s.2.2.2.2.2.2.2.2.2.1,s.2.2.2.2.2.2.2.2.2.2.1,s.2.2.2.2.2.2.2.2.2.2.2.1,
  (if s.2.2.2.1=true then (fD s.2.2.2.2.2.2.2.2.2.2.2.2.1 (aAC (aO5 s x) t).1).1 else s.2.2.2.2.2.2.2.2.2.2.2.2.1),
  (s.2.2.2.2.2.2.2.2.2.2.2.2.2 || (jC s.2.2.1 x s.2.2.1.length).2 || (s.2.2.2.1&&((aAC (aO5 s x) t).2 || (fD s.2.2.2.2.2.2.2.2.2.2.2.2.1 (aAC (aO5 s x) t).1).2))))
def sQ (s:bG) (m:Int) (x t:List Int):bG:=if aUS s m x t=true then aNM s m x t else s
def oK (s:bG) (m:Int):bG:=if dP s=true∧0≤eE s.2.2.2.2.2.1 m then
 (s.1,s.2.1,s.2.2.1,s.2.2.2.1,s.2.2.2.2.1,s.2.2.2.2.2.1,(jC s.2.2.1 ((s.2.2.2.2.2.1.getD (eE s.2.2.2.2.2.1 m).toNat (aP aL)).2.getD 0 []) s.2.2.1.length).1,s.2.2.2.2.2.2.2) else s
def rJ (s:bG) (m:Int):dG:=if s.2.2.2.2.1=true then s.2.2.2.2.2.2.1 else (s.2.2.2.2.2.1.getD (eE s.2.2.2.2.2.1 m).toNat (aP aL)).2
def kD (s:bG) (m:Int) (t:List Int):List Int × Bool:=if s.2.2.2.1=true then oT nD ((rJ s m).getD s.2.2.1.length []) t else (s.2.2.2.2.2.2.2.2.2.1,false)
def aCV (m:List cZ) (r:dG):Bool:=decide (r.length=m.length+1)&&sH m r m.length
def aIH (s:bG) (m:Int) (t:List Int):Bool:=dP s&&(decide (0≤eE s.2.2.2.2.2.1 m)&&(aCV s.2.2.1 (rJ s m)&&cN (kD s m t).1 (cH s.2.2.1)))
def aU4 (s:bG) (m:Int) (t:List Int):bG :=
 (s.1,s.2.1,s.2.2.1,s.2.2.2.1,s.2.2.2.2.1,s.2.2.2.2.2.1.take (eE s.2.2.2.2.2.1 m).toNat++s.2.2.2.2.2.1.drop ((eE s.2.2.2.2.2.1 m).toNat+1),[],s.2.2.2.2.2.2.2.1,s.2.2.2.2.2.2.2.2.1,[],
  (oP s.2.2.1 (rJ s m) (kD s m t).1).2.1,nU s.2.2.2.2.2.2.2.2.2.2.2 ((oP s.2.2.1 (rJ s m) (kD s m t).1).1,0,(kD s m t).2 || (oP s.2.2.1 (rJ s m) (kD s m t).1).2.2))
def oI (s:bG) (m:Int) (t:List Int):bG:=if aIH s m t=true then aU4 s m t else s
theorem aJ2 {v:List Int} {n:Int} (h:cN v n=true):v.length≤6:=((dB _).1 ((fF _ _).1 h).1).2.1
theorem aQB {s:bG} {m:Int} {x t:List Int} (h:dP s=false∨cN x (dM s.2.2.1)=false∨0≤eE s.2.2.2.2.2.1 m∨(s.2.2.2.1=true∧cN t (cH s.2.2.1)=false)):s=sQ s m x t:=by
 unfold sQ;rw[if_neg]
 unfold aUS
 simp only[Bool.and_eq_true,Bool.or_eq_true,decide_eq_true_eq,Bool.not_eq_true']
 rintro ⟨h1,h2,h3,h4⟩
 rcases h with h|h|h|⟨h,h'⟩
 ·rw[h] at h1;cases h1
 ·rw[h] at h2;cases h2
 ·omega
 ·rw[h,h'] at h4;simp at h4
theorem bBD {s:bG} {m:Int} {x t:List Int} (h1:dP s=true) (h2:cN x (dM s.2.2.1)=true) (h3:eE s.2.2.2.2.2.1 m<0) (h4:s.2.2.2.1=true→cN t (cH s.2.2.1)=true):aNM s m x t=sQ s m x t:=by
 unfold sQ;rw[if_pos]
 unfold aUS
 simp only[Bool.and_eq_true,Bool.or_eq_true,decide_eq_true_eq,Bool.not_eq_true']
 refine ⟨h1,h2,h3,?_⟩
 cases hh:s.2.2.2.1
 ·exact .inl rfl
 ·exact .inr (h4 hh)
theorem bB0 {s:bG} {m:Int} {x t:List Int} {st:List gK} {l:Int} {b:Bool} (hla:s.2.2.2.1=true) (e1:st=s.2.2.2.2.2.1++[(m,zH s.2.2.2.2.1 (jC s.2.2.1 x s.2.2.1.length).1)])
  (e3:l=(fD s.2.2.2.2.2.2.2.2.2.2.2.2.1 (aAC (List.getD (jC s.2.2.1 x s.2.2.1.length).1 (List.length s.2.2.1) (aP aB)) t).1).1)
  (e4:b=(s.2.2.2.2.2.2.2.2.2.2.2.2.2 || (jC s.2.2.1 x s.2.2.1.length).2 || ((aAC (List.getD (jC s.2.2.1 x s.2.2.1.length).1 (List.length s.2.2.1) (aP aB)) t).2 || (fD s.2.2.2.2.2.2.2.2.2.2.2.2.1 (aAC (List.getD (jC s.2.2.1 x s.2.2.1.length).1 (List.length s.2.2.1) (aP aB)) t).1).2))) :
  (s.1,s.2.1,s.2.2.1,s.2.2.2.1,s.2.2.2.2.1,st,s.2.2.2.2.2.2.1,([]:List Int),s.2.2.2.2.2.2.2.2.1,s.2.2.2.2.2.2.2.2.2.1,s.2.2.2.2.2.2.2.2.2.2.1,s.2.2.2.2.2.2.2.2.2.2.2.1,l,b)=aNM s m x t:=by
 subst e1 e3 e4;unfold aNM;rw[hla];rfl
theorem bCC {s:bG} {m:Int} {x t:List Int} {st:List gK} {b:Bool} (hla:s.2.2.2.1=false) (e1:st=s.2.2.2.2.2.1++[(m,zH s.2.2.2.2.1 (jC s.2.2.1 x s.2.2.1.length).1)])
  (e4:b=(s.2.2.2.2.2.2.2.2.2.2.2.2.2 || (jC s.2.2.1 x s.2.2.1.length).2)) :
  (s.1,s.2.1,s.2.2.1,s.2.2.2.1,s.2.2.2.2.1,st,s.2.2.2.2.2.2.1,([]:List Int),(List.getD (jC s.2.2.1 x s.2.2.1.length).1 (List.length s.2.2.1) (aP aB)),s.2.2.2.2.2.2.2.2.2.1,s.2.2.2.2.2.2.2.2.2.2.1,s.2.2.2.2.2.2.2.2.2.2.2.1,s.2.2.2.2.2.2.2.2.2.2.2.2.1,b)=aNM s m x t:=by
 subst e1 e4;unfold aNM;rw[hla];simp;rfl
theorem bMO {a b c d:Bool} (h:a=true):true=(a || b || (c || d)):=by rw[h];rfl
theorem bMT {a b c d:Bool} (h:b=true):true=(a || b || (c || d)):=by rw[h];simp
theorem bMY {a b c d:Bool} (h:c=true):true=(a || b || (c || d)):=by rw[h];simp
theorem bMN {a b c d:Bool} (h1:a=false) (h2:b=false) (h3:c=false):d=(a || b || (c || d)):=by rw[h1,h2,h3];simp
theorem bGB {r:dG} {b:Bool} (h:b=true):List.drop 0 (List.take 1 r)=zH b r:=by subst h;rfl
theorem bGO {r:dG} {b:Bool} (h:b=false):r=zH b r:=by subst h;rfl
noncomputable def dI:Con:=⟨91,aA,aA,[.val ⟨true,aA,[]⟩],[⟨true,aA,[0,2,2,0,0,2,2,2,2,2,2,2,0,0]⟩],false,none,
 ((fun x=>bS aA x≤1000000000):(bG)→Prop),
 ((fun x=>x):(bG)→(bG))⟩
def vV:T :=
 .bPX (.bQ3 76 aD 16) (.bPY aR aR (.nl 76 aD) (aH aA 1 (.Z 0))) <|
 .call 0 (aH aA 2 (.Z 0)) <|
 .bPX (.bQ0 104 aL) (aH aA 5 (.Z 0)) <|
 .loop (.bPW tI (.slice 104 aL)) (.bPY tI (.slice 104 aL) (.ci .i64 0) (.nl 104 aL)) <|
  .bPX (.cmp .lss .i64) (.bPY tI tI (.p1 tI (.slice 104 aL) (.Z 4)) (.Z 3)) <|
  .ite (.Z 5) (
   .bPX (.bQ1 104 aL) (.bPY (.slice 104 aL) tI (aH aA 5 (.Z 0)) (.p1 tI (.slice 104 aL) (.Z 4))) <|
   .call 1 (aS aL 1 (.Z 6)) <|
   .bPX (.lit 104 aL 1) (.bPY tI aO (.p1 tI aO (.Z 6)) (.Z 7)) <|
   .bPX (.bQ3 104 aL 32) (.bPY (.slice 104 aL) (.slice 104 aL) (aS (.bPW tI (.slice 104 aL)) 1 (.Z 4)) (.Z 8)) <|
   .bPX (.ar .add .i64) (.bPY tI tI (.p1 tI (.slice 104 aL) (.Z 4)) (.ci .i64 1)) <|
   .bPZ 0 (.bPY tI (.slice 104 aL) (.Z 10) (.Z 9))) (
   .call 1 (aH aA 6 (.Z 0)) <|
   .call 2 (aH aA 7 (.Z 0)) <|
   .call 2 (aH aA 8 (.Z 0)) <|
   .call 2 (aH aA 9 (.Z 0)) <|
   .call 2 (aH aA 10 (.Z 0)) <|
   .call 3 (aS aA 11 (.Z 0)) <|
   .ret (bP aA [(.p1 tI gO (.Z 0)),(.Z 1),(.Z 2),(aH aA 3 (.Z 0)),(aH aA 4 (.Z 0)),(aS (.bPW tI (.slice 104 aL)) 1 (.Z 4)),(.Z 6),(.Z 7),(.Z 8),(.Z 9),(.Z 10),(.Z 11)]))
set_option maxRecDepth 100000 in
theorem aNS:bW Tryz.prog [kA,fG,bT,mW] dI false 3000 ⟨[(2991,1004,[.dr 20,.dr 19,.dr 14,.dr 11,.dr 8,.dr 18,.dr 16,.dr 13,.dr 10,.dr 7,.dr 17,.dr 15,.dr 12,.dr 9,.dr 6,.dr 0,.tm 23 0,.sl 24])],[(2981,3007,[33],[])]⟩ = .ok vV:=by kernel_rfl
theorem aNB (x:bG) (hx:okD aA x) (hp:(fun x=>bS aA x≤1000000000) x):vV.wp [kA,fG,bT,mW] [⟨aA,x⟩] [] (fun v=>v.as aA=(fun x=>x) x):=by
 obtain ⟨pc,plan,ops,last,redo,stash,full,X,Y,G,D,sr,sl,ss⟩:=x
 obtain ⟨hplan,hops,hst,hstm,⟨hfull,hfullm⟩,hX,hY,hG,hD,⟨hsr,hsrm⟩⟩:=bNI hp
 delta vV kA fG bT mW;refine dY ?_;try with_reducible exact True.intro
 (repeat' first|intro _|(with_reducible apply And.intro))
 all_goals first|omega|(unfold maxLen;omega)|(simp only[List.length_nil];omega)|(simp only[List.length_nil];unfold maxLen;omega)|skip
 refine eW (fun k=>((k:Int),List.take k stash)) (List.length stash) rfl fun I μ k hk _ go=>?_
 dsimp only
 refine eD ?_
 by_cases hkn:k<List.length stash
 ·have hm:=hstm _ (List.getElem_mem hkn)
  rw[aW hkn]
  (repeat' first|intro _|(refine go _ ?_ ?_ ?_)|(refine go _ ?_ ?_)|(with_reducible apply And.intro))
  all_goals first|omega|exact hm.1|exact hm.2 _ (by assumption)|(simp only[List.length_take];unfold maxLen;omega)|(simp only[List.length_take];omega)|(rw[mC hkn];rfl)
 ·(repeat' first|intro _|(refine go _ ?_ ?_ ?_)|(refine go _ ?_ ?_)|(with_reducible apply And.intro))
  all_goals first|omega|(have e:k=List.length stash:=(by omega);subst e;first|exact hfullm _ (by assumption)|exact hsrm _ (by assumption)|exact ⟨hsr,hsrm⟩|omega|(unfold maxLen;omega)|(simp only[List.length_nil];omega)|(simp only[List.length_nil];unfold maxLen;omega)|(simp only[List.take_length,List.nil_append];done)|skip)|skip
theorem pM:Con.Holds Tryz.prog dI:=aX aZ (aG aIJ (aG yM (aG gT (aG aNO aT)))) aNS aNB
end Go.Proofs.YtpafjioccjpmfaaGreat
