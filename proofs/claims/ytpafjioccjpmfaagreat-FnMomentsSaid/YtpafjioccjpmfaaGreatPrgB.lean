/- PrgB: lemmas. No conditions. -/
import Derived.Test.YtpafjioccjpmfaaGreatPrgA
import Derived.Test.YtpafjioccjpmfaaGreatTrcP
namespace Go.Proofs.YtpafjioccjpmfaaGreat
open Go.ChangeShapes Go.WideShapes Go.ChangeAt Go.RowKit Go.Deep
set_option linter.unusedVariables false
set_option linter.unusedSimpArgs false
def kd (pl:List cP) (k:Nat):Int:=(pl.getD k (0,0)).1
def aI6 (ms:List Int) (i:cP):List Int:=if i.1=2 then ms++[i.2] else if i.1=6 then ms.drop 1 else ms
def msF (l:List cP):List Int:=l.foldl aI6 []
def NX (first last redo:Bool) (a b:Int):Prop :=
 ((b=2∧first=false)↔a=1)∧(b=3↔(a=2∧last=false))∧(((b=5∨b=6)∧last=false)↔(a=4∨(a=5∧last=false)))∧((b=6∧redo=true)↔a=5)∧(b=7↔(a=6∧first=false))
instance (first last redo:Bool) (a b:Int):Decidable (NX first last redo a b):=by unfold NX;infer_instance
def IN (first last redo:Bool) (mi:Int) (K:Nat) (i:cP) (ms:List Int):Prop :=
 (0≤i.2∧i.2<mi)∧(1≤i.1∧i.1≤8)∧(i.1=1→first=false)∧(i.1=3→last=false)∧(i.1=4→last=false)∧(i.1=7→first=false)∧(i.1=5→redo=true)∧(i.1=2→i.2 ∉ ms∧ms.length<K)∧(i.1=5∨i.1=6→ms.head?=some i.2)
instance (first last redo:Bool) (mi:Int) (K:Nat) (i:cP) (ms:List Int):Decidable (IN first last redo mi K i ms):=by unfold IN;infer_instance
def aWI (first last redo:Bool) (mi:Int) (K:Nat):List cP→List Int→Bool
 | [],_=>true
 | i :: l,ms=>decide (IN first last redo mi K i ms)&&(decide (NX first last redo i.1 (l.getD 0 (0,0)).1)&&(decide (i.1=8↔l.length=0)&&aWI first last redo mi K l (aI6 ms i)))
structure PlC (first last redo:Bool) (mi:Int) (K:Nat) (pl:List cP):Prop where
 i1:∀ k (h:k<pl.length),IN first last redo mi K pl[k] (msF (pl.take k))
 n1:∀ k,k<pl.length→NX first last redo (kd pl k) (kd pl (k+1))
 n0:NX first last redo 0 (kd pl 0)
 e8:∀ k,k<pl.length→(kd pl k=8↔k+1=pl.length)
theorem aI9 {pl:List cP} {k:Nat} (h:k<pl.length):kd pl k=pl[k].1:=by unfold kd;rw[aW h]
theorem aJE {first last redo:Bool} {mi:Int} {K:Nat}:(l:List cP)→(ms:List Int)→aWI first last redo mi K l ms=true →
  ∀ k (h:k<l.length),IN first last redo mi K l[k] ((l.take k).foldl aI6 ms)∧NX first last redo (kd l k) (kd l (k+1))∧(kd l k=8↔k+1=l.length)
 | [],_,_,k,h=>absurd h (Nat.not_lt_zero _)
 | i :: l,ms,hs,k,h=>by
  rw[aWI,Bool.and_eq_true,Bool.and_eq_true,Bool.and_eq_true,decide_eq_true_eq,decide_eq_true_eq,decide_eq_true_eq] at hs
  obtain ⟨h1,h2,h3,h4⟩:=hs
  cases k with
  | zero =>
   refine ⟨h1,h2,?_⟩
   show i.1=8↔0+1=l.length+1
   rw[h3];omega
  | succ k =>
   obtain ⟨a1,a2,a3⟩:=aJE l _ h4 k (by simpa using h)
   refine ⟨a1,a2,?_⟩
   show kd l k=8↔k+1+1=l.length+1
   rw[a3];omega
theorem bO4 {first last redo:Bool} {mi:Int} {K:Nat} {pl:List cP} (h:aWI first last redo mi K pl []=true) (h0:NX first last redo 0 (kd pl 0)):PlC first last redo mi K pl :=
 ⟨fun k hk=>(aJE pl [] h k hk).1,fun k hk=>(aJE pl [] h k hk).2.1,h0,fun k hk=>(aJE pl [] h k hk).2.2⟩
theorem aG0 {pl:List cP} {k:Nat} (h:k<pl.length):msF (pl.take (k+1))=aI6 (msF (pl.take k)) pl[k]:=by
 unfold msF;rw[← mC h,List.foldl_append];rfl
def aKG (m:List cZ) (r:dG):Prop:=r.length=m.length+1∧∀ i,i≤m.length→cN (r.getD i []) (gI m i)=true
theorem bLI {m:List cZ} {r:dG} (h:aKG m r):aCV m r=true:=aK9 h.1 ((tB _ _ _).2 fun i hi=>h.2 i (Nat.le_of_lt hi))
theorem bJL {m:List cZ} {x:List Int} (hm:bO m=true) (hx:cN x (dM m)=true):aKG m (jC m x m.length).1:=⟨qK _ _ _,fun i hi=>aJ7 hm hx hi⟩
structure StI (ops:List cZ) (pl:List cP) (first last redo:Bool) (k:Nat) (x:bG):Prop where
 e1:x.1=(k:Int)
 e2:x.2.1=pl
 e3:x.2.2.1=ops
 e4:x.2.2.2.1=last
 e5:x.2.2.2.2.1=redo
 st:dP x=true
 ms:x.2.2.2.2.2.1.map (·.1)=msF (pl.take k)
 vF:if kd pl k=6∧redo=true then aKG ops x.2.2.2.2.2.2.1 else x.2.2.2.2.2.2.1=[]
 vX:if kd pl k=2∧first=false then cN x.2.2.2.2.2.2.2.1 (dM ops)=true else x.2.2.2.2.2.2.2.1=[]
 vY:if kd pl k=3 then cN x.2.2.2.2.2.2.2.2.1 (cH ops)=true else x.2.2.2.2.2.2.2.2.1=[]
 vG:if (kd pl k=5∨kd pl k=6)∧last=false then cN x.2.2.2.2.2.2.2.2.2.1 (cH ops)=true else x.2.2.2.2.2.2.2.2.2.1=[]
 vD:if kd pl k=7 then cN x.2.2.2.2.2.2.2.2.2.2.1 (dM ops)=true else x.2.2.2.2.2.2.2.2.2.2.1=[]
theorem ifP {a b:Prop} [Decidable a] [Decidable b] {x y:Prop} (h:a↔b):(if a then x else y)=(if b then x else y):=by
 by_cases ha:a
 ·rw[if_pos ha,if_pos (h.1 ha)]
 ·rw[if_neg ha,if_neg (fun hb=>ha (h.2 hb))]
theorem StI.next {ops:List cZ} {pl:List cP} {first last redo:Bool} {k:Nat} {x y:bG} (hk:k<pl.length) (hn:NX first last redo (kd pl k) (kd pl (k+1)))
  (e1:y.1=(k:Int)) (e2:y.2.1=pl) (e3:y.2.2.1=ops) (e4:y.2.2.2.1=last) (e5:y.2.2.2.2.1=redo) (st:dP y=true) (ms:y.2.2.2.2.2.1.map (·.1)=msF (pl.take (k+1)))
  (vF:if kd pl k=5 then aKG ops y.2.2.2.2.2.2.1 else y.2.2.2.2.2.2.1=[])
  (vX:if kd pl k=1 then cN y.2.2.2.2.2.2.2.1 (dM ops)=true else y.2.2.2.2.2.2.2.1=[])
  (vY:if kd pl k=2∧last=false then cN y.2.2.2.2.2.2.2.2.1 (cH ops)=true else y.2.2.2.2.2.2.2.2.1=[])
  (vG:if kd pl k=4∨(kd pl k=5∧last=false) then cN y.2.2.2.2.2.2.2.2.2.1 (cH ops)=true else y.2.2.2.2.2.2.2.2.2.1=[])
  (vD:if kd pl k=6∧first=false then cN y.2.2.2.2.2.2.2.2.2.2.1 (dM ops)=true else y.2.2.2.2.2.2.2.2.2.2.1=[]):StI ops pl first last redo (k+1) (jJ y (y.1+1)):=by
 obtain ⟨n1,n2,n3,n4,n5⟩:=hn
 refine ⟨by show y.1+1=_;rw[e1];rfl,e2,e3,e4,e5,bP1 st (by omega) (by rw[e2];omega),ms,?_,?_,?_,?_,?_⟩
 ·rw[ifP n4];exact vF
 ·rw[ifP n1];exact vX
 ·rw[ifP n2];exact vY
 ·rw[ifP n3];exact vG
 ·rw[ifP n5];exact vD
section
variable {ops:List cZ} {pl:List cP} {first last redo:Bool} {mi:Int} {K:Nat} {k:Nat} {x:bG}
theorem aBX (hk:k<pl.length) (h2:¬ kd pl k=2) (h6:¬ kd pl k=6):msF (pl.take (k+1))=msF (pl.take k):=by
 rw[aI9 hk] at h2 h6
 rw[aG0 hk];unfold aI6;rw[if_neg h2,if_neg h6]
theorem StI.mB (h:StI ops pl first last redo k x):bO ops=true:=by have:=((cD x).1 h.st).1;rwa [h.e3] at this
theorem StI.s1 (hC:PlC first last redo mi K pl) (h:StI ops pl first last redo k x) (hk:k<pl.length) (h1:kd pl k=1) {v:List Int} (hv:cN v (dM ops)=true):StI ops pl first last redo (k+1) (jJ (aUL x v) ((aUL x v).1+1)):=by
 have vF:=h.vF;have vX:=h.vX;have vY:=h.vY;have vG:=h.vG;have vD:=h.vD
 rw[h1] at vF vX vY vG vD
 refine StI.next (x:=x) hk (hC.n1 k hk) h.e1 h.e2 h.e3 h.e4 h.e5 (bPN h.st (by rw[h.e3];exact aSF hv)) (by rw[aBX hk (by omega) (by omega)];exact h.ms) ?_ ?_ ?_ ?_ ?_
 all_goals rw[h1]
 ·rw[if_neg (by omega)] at vF ⊢;exact vF
 ·rw[if_pos rfl];exact hv
 ·rw[if_neg (by omega)] at vY ⊢;exact vY
 ·rw[if_neg (by omega)] at vG ⊢;exact vG
 ·rw[if_neg (by omega)] at vD ⊢;exact vD
theorem StI.s2 (hC:PlC first last redo mi K pl) (h:StI ops pl first last redo k x) (hk:k<pl.length) (h2:kd pl k=2) {v t:List Int} (hv:cN v (dM ops)=true) (ht:last=true→cN t (cH ops)=true) :
  StI ops pl first last redo (k+1) (jJ (sQ x pl[k].2 v t) ((sQ x pl[k].2 v t).1+1))∧sQ x pl[k].2 v t=aNM x pl[k].2 v t:=by
 have vF:=h.vF;have vX:=h.vX;have vY:=h.vY;have vG:=h.vG;have vD:=h.vD
 rw[h2] at vF vX vY vG vD
 have hi:=(hC.i1 k hk).2.2.2.2.2.2.2.1 (by rw[← aI9 hk];exact h2)
 have hf:=bEN (l:=x.2.2.2.2.2.1) (m:=pl[k].2) (by rw[h.ms];exact hi.1)
 have hx':cN v (dM x.2.2.1)=true:=by rw[h.e3];exact hv
 have e:sQ x pl[k].2 v t=aNM x pl[k].2 v t:=by
  unfold sQ;rw[if_pos]
  unfold aUS
  rw[h.st,hx',hf,h.e4,h.e3]
  cases hl:last with
  | false=>rfl
  | true=>rw[ht hl];rfl
 refine ⟨?_,e⟩
 rw[e]
 have hm:=h.mB
 refine StI.next (x:=x) hk (hC.n1 k hk) h.e1 h.e2 h.e3 h.e4 h.e5 (bNN h.st hx') ?_ ?_ ?_ ?_ ?_ ?_
 ·rw[aG0 hk]
  unfold aI6
  rw[if_pos (by rw[← aI9 hk];exact h2),← h.ms]
  show (x.2.2.2.2.2.1++[_]).map _=_
  rw[List.map_append];rfl
 all_goals rw[h2]
 ·rw[if_neg (by omega)] at vF ⊢;exact vF
 ·rw[if_neg (by omega)];rfl
 ·show if (2:Int)=2∧last=false then cN (if x.2.2.2.1=true then x.2.2.2.2.2.2.2.2.1 else aO5 x v) (cH ops)=true else (if x.2.2.2.1=true then x.2.2.2.2.2.2.2.2.1 else aO5 x v)=[]
  rw[h.e4]
  cases hl:last with
  | false =>
   rw[if_pos ⟨rfl,rfl⟩,if_neg (by decide),← h.e3]
   exact bB7 (by rw[h.e3];exact hm) hx'
  | true =>
   rw[if_neg (fun hh=>by cases hh.2),if_pos rfl]
   rw[if_neg (by omega)] at vY;exact vY
 ·rw[if_neg (by omega)] at vG ⊢;exact vG
 ·rw[if_neg (by omega)] at vD ⊢;exact vD
theorem StI.s3 (hC:PlC first last redo mi K pl) (h:StI ops pl first last redo k x) (hk:k<pl.length) (h3:kd pl k=3):StI ops pl first last redo (k+1) (jJ (aWX x []) ((aWX x []).1+1)):=by
 have vF:=h.vF;have vX:=h.vX;have vY:=h.vY;have vG:=h.vG;have vD:=h.vD
 rw[h3] at vF vX vY vG vD
 refine StI.next (x:=x) hk (hC.n1 k hk) h.e1 h.e2 h.e3 h.e4 h.e5 (bPS h.st (aN9 _)) (by rw[aBX hk (by omega) (by omega)];exact h.ms) ?_ ?_ ?_ ?_ ?_
 all_goals rw[h3]
 ·rw[if_neg (by omega)] at vF ⊢;exact vF
 ·rw[if_neg (by omega)] at vX ⊢;exact vX
 ·rw[if_neg (by omega)];rfl
 ·rw[if_neg (by omega)] at vG ⊢;exact vG
 ·rw[if_neg (by omega)] at vD ⊢;exact vD
theorem StI.s4 (hC:PlC first last redo mi K pl) (h:StI ops pl first last redo k x) (hk:k<pl.length) (h4:kd pl k=4) {v:List Int} (hv:cN v (cH ops)=true):StI ops pl first last redo (k+1) (jJ (aWA x v) ((aWA x v).1+1)):=by
 have vF:=h.vF;have vX:=h.vX;have vY:=h.vY;have vG:=h.vG;have vD:=h.vD
 rw[h4] at vF vX vY vG vD
 refine StI.next (x:=x) hk (hC.n1 k hk) h.e1 h.e2 h.e3 h.e4 h.e5 (bPT h.st (by rw[h.e3];exact aSF hv)) (by rw[aBX hk (by omega) (by omega)];exact h.ms) ?_ ?_ ?_ ?_ ?_
 all_goals rw[h4]
 ·rw[if_neg (by omega)] at vF ⊢;exact vF
 ·rw[if_neg (by omega)] at vX ⊢;exact vX
 ·rw[if_neg (by omega)] at vY ⊢;exact vY
 ·rw[if_pos (.inl rfl)];exact hv
 ·rw[if_neg (by omega)] at vD ⊢;exact vD
theorem StI.due (hC:PlC first last redo mi K pl) (h:StI ops pl first last redo k x) (hk:k<pl.length) (h5:kd pl k=5∨kd pl k=6) :
  eE x.2.2.2.2.2.1 pl[k].2=0∧kX ops redo (x.2.2.2.2.2.1.getD 0 (aP aL))=true∧∃ a l,x.2.2.2.2.2.1=a :: l:=by
 have hi:=(hC.i1 k hk).2.2.2.2.2.2.2.2 (by rw[← aI9 hk];exact h5)
 rw[← h.ms] at hi
 have hst:=((cD x).1 h.st).2.2.2.1
 rw[h.e3,h.e5] at hst
 refine ⟨bF6 hi,?_,?_⟩
 ·cases hl:x.2.2.2.2.2.1 with
  | nil=>rw[hl] at hi;cases hi
  | cons a l=>rw[hl] at hst;rw[List.all_cons,Bool.and_eq_true] at hst;exact hst.1
 ·cases hl:x.2.2.2.2.2.1 with
  | nil=>rw[hl] at hi;cases hi
  | cons a l=>exact ⟨a,l,rfl⟩
theorem StI.s5 (hC:PlC first last redo mi K pl) (h:StI ops pl first last redo k x) (hk:k<pl.length) (h5:kd pl k=5):StI ops pl first last redo (k+1) (jJ (oK x pl[k].2) ((oK x pl[k].2).1+1)):=by
 have vF:=h.vF;have vX:=h.vX;have vY:=h.vY;have vG:=h.vG;have vD:=h.vD
 rw[h5] at vF vX vY vG vD
 obtain ⟨d1,d2,d3⟩:=h.due hC hk (.inl h5)
 have hm:=h.mB
 have hr:cN ((x.2.2.2.2.2.1.getD (eE x.2.2.2.2.2.1 pl[k].2).toNat (aP aL)).2.getD 0 []) (dM ops)=true:=by
  rw[d1]
  have:=((sE _ _ _).1 d2).2 0 (by unfold aCS;split <;> omega)
  rw[aG1 hm] at this
  exact this
 rw[← aVZ h.st (by rw[d1];exact Int.le_refl _)]
 refine StI.next (x:=x) hk (hC.n1 k hk) h.e1 h.e2 h.e3 h.e4 h.e5 (bM4 h.st) (by rw[aBX hk (by omega) (by omega)];exact h.ms) ?_ ?_ ?_ ?_ ?_
 all_goals rw[h5]
 ·rw[if_pos rfl]
  show aKG ops (jC x.2.2.1 _ x.2.2.1.length).1
  rw[h.e3]
  exact bJL hm hr
 ·rw[if_neg (by omega)] at vX ⊢;exact vX
 ·rw[if_neg (by omega)] at vY ⊢;exact vY
 ·cases hl:last with
  | false =>
   rw[hl,if_pos ⟨.inl rfl,rfl⟩] at vG
   rw[if_pos (.inr ⟨rfl,rfl⟩)];exact vG
  | true =>
   rw[hl,if_neg (fun hh=>by cases hh.2)] at vG
   rw[if_neg (by rintro (hh|hh);omega;cases hh.2)];exact vG
 ·rw[if_neg (by omega)] at vD ⊢;exact vD
theorem StI.s6 (hC:PlC first last redo mi K pl) (h:StI ops pl first last redo k x) (hk:k<pl.length) (h6:kd pl k=6) {t:List Int} (ht:last=true→cN t (cH ops)=true) :
  oI x pl[k].2 t=aU4 x pl[k].2 t∧StI ops pl first last redo (k+1) (jJ (if first=true then wZ (oI x pl[k].2 t) [] else oI x pl[k].2 t) ((if first=true then wZ (oI x pl[k].2 t) [] else oI x pl[k].2 t).1+1)):=by
 have vF:=h.vF;have vX:=h.vX;have vY:=h.vY;have vG:=h.vG;have vD:=h.vD
 rw[h6] at vF vX vY vG vD
 obtain ⟨d1,d2,a,l,d3⟩:=h.due hC hk (.inr h6)
 have hm:=h.mB
 have hg:aKG ops (rJ x pl[k].2):=by
  unfold rJ
  rw[h.e5]
  cases hr:redo with
  | true =>
   rw[hr,if_pos ⟨rfl,rfl⟩] at vF
   rw[if_pos rfl];exact vF
  | false =>
   rw[hr] at d2
   rw[if_neg (by decide),d1]
   have:=(sE _ _ _).1 d2
   exact ⟨this.1,fun i hi=>this.2 i (by show i<ops.length+1;omega)⟩
 have hd:cN (kD x pl[k].2 t).1 (cH ops)=true:=by
  unfold kD
  rw[h.e4]
  cases hl:last with
  | true =>
   rw[if_pos rfl,h.e3]
   have h1:=hg.2 ops.length (Nat.le_refl _)
   rw[tO hm] at h1
   exact bPF (fun _ _=>aBW _) h1 (ht hl)
  | false =>
   rw[hl,if_pos ⟨.inr rfl,rfl⟩] at vG
   rw[if_neg (by decide)];exact vG
 have hok:aIH x pl[k].2 t=true:=by
  unfold aIH
  rw[h.st,d1,h.e3,bLI hg,hd];rfl
 have e:oI x pl[k].2 t=aU4 x pl[k].2 t:=by unfold oI;rw[if_pos hok]
 obtain ⟨s1,s2⟩:=bNW hok
 rw[h.e3] at s2
 refine ⟨e,?_⟩
 rw[e]
 have ems:(aU4 x pl[k].2 t).2.2.2.2.2.1.map (·.1)=msF (pl.take (k+1)):=by
  rw[aG0 hk]
  unfold aI6
  rw[if_neg (by rw[← aI9 hk];omega),if_pos (by rw[← aI9 hk];exact h6),← h.ms]
  show (x.2.2.2.2.2.1.take (eE x.2.2.2.2.2.1 pl[k].2).toNat++x.2.2.2.2.2.1.drop ((eE x.2.2.2.2.2.1 pl[k].2).toNat+1)).map _=_
  rw[d1,d3];rfl
 cases hf:first with
 | true =>
  rw[if_pos rfl]
  refine StI.next (x:=x) hk (by have:=hC.n1 k hk;rwa [hf] at this) h.e1 h.e2 h.e3 h.e4 h.e5 (bPC s1 (aN9 _)) ems ?_ ?_ ?_ ?_ ?_
  all_goals rw[h6]
  ·rw[if_neg (by omega)];rfl
  ·rw[if_neg (by omega)] at vX ⊢;exact vX
  ·rw[if_neg (by omega)] at vY ⊢;exact vY
  ·rw[if_neg (by omega)];rfl
  ·rw[if_neg (fun hh=>by cases hh.2)];rfl
 | false =>
  rw[if_neg (by decide)]
  refine StI.next (x:=x) hk (by have:=hC.n1 k hk;rwa [hf] at this) h.e1 h.e2 h.e3 h.e4 h.e5 s1 ems ?_ ?_ ?_ ?_ ?_
  all_goals rw[h6]
  ·rw[if_neg (by omega)];rfl
  ·rw[if_neg (by omega)] at vX ⊢;exact vX
  ·rw[if_neg (by omega)] at vY ⊢;exact vY
  ·rw[if_neg (by omega)];rfl
  ·rw[if_pos ⟨rfl,rfl⟩]
   show cN (oP x.2.2.1 (rJ x pl[k].2) (kD x pl[k].2 t).1).2.1 (dM ops)=true
   rw[h.e3];exact s2
theorem StI.s7 (hC:PlC first last redo mi K pl) (h:StI ops pl first last redo k x) (hk:k<pl.length) (h7:kd pl k=7):StI ops pl first last redo (k+1) (jJ (wZ x []) ((wZ x []).1+1)):=by
 have vF:=h.vF;have vX:=h.vX;have vY:=h.vY;have vG:=h.vG;have vD:=h.vD
 rw[h7] at vF vX vY vG vD
 refine StI.next (x:=x) hk (hC.n1 k hk) h.e1 h.e2 h.e3 h.e4 h.e5 (bPC h.st (aN9 _)) (by rw[aBX hk (by omega) (by omega)];exact h.ms) ?_ ?_ ?_ ?_ ?_
 all_goals rw[h7]
 ·rw[if_neg (by omega)] at vF ⊢;exact vF
 ·rw[if_neg (by omega)] at vX ⊢;exact vX
 ·rw[if_neg (by omega)] at vY ⊢;exact vY
 ·rw[if_neg (by omega)] at vG ⊢;exact vG
 ·rw[if_neg (by omega)];rfl
theorem StI.s8 (hC:PlC first last redo mi K pl) (h:StI ops pl first last redo k x) (hk:k<pl.length) (h8:kd pl k=8):StI ops pl first last redo (k+1) (jJ x (x.1+1)):=by
 have vF:=h.vF;have vX:=h.vX;have vY:=h.vY;have vG:=h.vG;have vD:=h.vD
 rw[h8] at vF vX vY vG vD
 refine StI.next (x:=x) hk (hC.n1 k hk) h.e1 h.e2 h.e3 h.e4 h.e5 h.st (by rw[aBX hk (by omega) (by omega)];exact h.ms) ?_ ?_ ?_ ?_ ?_
 all_goals rw[h8]
 ·rw[if_neg (by omega)] at vF ⊢;exact vF
 ·rw[if_neg (by omega)] at vX ⊢;exact vX
 ·rw[if_neg (by omega)] at vY ⊢;exact vY
 ·rw[if_neg (by omega)] at vG ⊢;exact vG
 ·rw[if_neg (by omega)] at vD ⊢;exact vD
end
end Go.Proofs.YtpafjioccjpmfaaGreat
