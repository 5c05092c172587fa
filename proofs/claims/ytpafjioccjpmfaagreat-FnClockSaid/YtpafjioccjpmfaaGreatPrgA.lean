/- PrgA: lemmas. No conditions. -/
import Derived.Test.YtpafjioccjpmfaaGreatRiF
import Derived.Test.YtpafjioccjpmfaaGreatTrc
namespace Go.Proofs.YtpafjioccjpmfaaGreat
open Go.ChangeShapes Go.WideShapes Go.ChangeAt Go.RowKit Go.Deep
set_option linter.unusedVariables false
set_option linter.unusedSimpArgs false
theorem xI {m:List cZ} {i:Nat} (h:i<m.length):gI m i=(m.getD i qY).2.1:=if_pos h
theorem tO {m:List cZ} (hm:bO m=true):gI m m.length=cH m:=by unfold gI cH;rw[if_neg (Nat.lt_irrefl _),if_pos hm]
theorem aG1 {m:List cZ} (hm:bO m=true):gI m 0=dM m:=by
 have h1:=(bM m).1 hm
 rw[xI (show 0<m.length by omega)];unfold dM;rw[if_pos hm]
theorem aJ7 {m:List cZ} {x:List Int} (hm:bO m=true) (hx:cN x (dM m)=true) {i:Nat} (hi:i≤m.length):cN ((jC m x m.length).1.getD i []) (gI m i)=true:=by
 have h1:=(bM m).1 hm
 rw[aR8 m x _ i hi]
 rcases Nat.lt_or_eq_of_le hi with h|rfl
 ·rw[xI h];exact (aZH hm hx i h).1
 ·have:=(aZH hm hx (m.length - 1) (by omega)).2
  rw[show m.length - 1+1=m.length by omega] at this
  unfold gI;rw[if_neg (Nat.lt_irrefl _)];exact this
theorem bDK {m:List cZ} {x:List Int} (redo:Bool) (k:Int) (hm:bO m=true) (hx:cN x (dM m)=true):kX m redo (k,zH redo (jC m x m.length).1)=true:=by
 have hl:=qK m x m.length
 refine (sE m redo _).2 ?_
 cases redo with
 | true =>
  refine ⟨by show (List.take 1 _).length=1;rw[List.length_take];omega,fun i hi=>?_⟩
  have h0:i=0:=by have:i<1:=hi;omega
  subst h0
  have:=aJ7 hm hx (i:=0) (Nat.zero_le _)
  show cN ((List.take 1 (jC m x m.length).1).getD 0 []) _=true
  rw[List.getD_eq_getElem?_getD,List.getElem?_take,if_pos (by decide),← List.getD_eq_getElem?_getD]
  exact this
 | false=>exact ⟨hl,fun i hi=>aJ7 hm hx (by have:i<m.length+1:=hi;omega)⟩
theorem bH4 {l:List Int} (h:l.all gM=true) (i:Nat):gM (l.getD i 0)=true:=by
 rcases Nat.lt_or_ge i l.length with hi|hi
 ·rw[aW hi];exact List.all_eq_true.1 h _ (List.getElem_mem hi)
 ·rw[List.getD_eq_getElem?_getD,List.getElem?_eq_none hi];decide
theorem bPF {f:Int→Int→Int × Bool} {a b:List Int} {n:Int} (hf:∀ x y,gM (f x y).1=true) (ha:cN a n=true) (hb:cN b n=true):cN (oT f a b).1 n=true:=by
 obtain ⟨a1,a2⟩:=(fF a n).1 ha
 obtain ⟨a3,a4,a5⟩:=(dB a).1 a1
 unfold oT
 rw[if_pos ((aC4 _ _).2 ⟨a1,by rw[a2];exact hb⟩)]
 exact uN a3 a4 a2 fun i=>hf _ _
theorem bP8 {o:cZ} {x d:List Int} (h:opB o=true) (hx:cN x o.2.1=true) (hd:cN d o.2.2.1=true):cN (mG o x d).1 o.2.1=true:=by
 obtain ⟨⟨h1,h2,h3,h4,h5,h6,h7,h8⟩,h9⟩:=(eH o).1 h
 obtain ⟨x1,x2⟩:=(fF x _).1 hx
 obtain ⟨x3,x4,x5⟩:=(dB x).1 x1
 obtain ⟨d1,d2⟩:=(fF d _).1 hd
 obtain ⟨d3,d4,d5⟩:=(dB d).1 d1
 have hmb:o.1=1∨o.1=5→cN (kC (uF o) d).1 o.2.1=true:=fun hk=>by
  unfold kC
  rw[if_pos ⟨bCZ h hk,hd⟩]
  exact uN (by show 1≤o.2.1.toNat;omega) (by show o.2.1.toNat≤6;omega) (by show (o.2.1.toNat:Int)=o.2.1;omega) fun i=>bHX _ _
 unfold mG
 rw[if_neg (fun hn=>hn ⟨h,hx,hd⟩)]
 split
 ·rename_i hk;exact hmb (.inl hk)
 ·rename_i hk1
  have he:=h7 hk1
  split
  ·rw[he];exact hd
  ·split
   ·rename_i hk
    have hl:o.2.2.2.length=1:=by
     have:(o.2.2.2.length:Int)=1:=by rw[h8];unfold dZ;rw[if_neg (by omega),if_neg (by omega),if_neg (by omega),if_pos hk]
     omega
    unfold zK
    rw[if_pos ⟨bCK h 0 (by omega),d1⟩]
    exact uN d3 d4 (by rw[d2,he]) fun i=>aBW _
   ·split
    ·rename_i hk
     exact bPF (fun _ _=>aBW _) (by rw[he];exact hd) (hmb (.inr hk))
    ·unfold uZ
     rw[if_pos ((aC4 _ _).2 ⟨x1,by rw[x2,he];exact hd⟩)]
     refine uN x3 x4 x2 fun i=>?_
     split
     ·exact bH4 d5 i
     ·decide
theorem bL8 {a b:Int} {x y:Nat} (ha:(x:Int)=a) (hb:(y:Int)=b):((x * y:Nat):Int)=a * b:=by rw[Int.natCast_mul,ha,hb]
theorem bNC {o:cZ} {x d:List Int} (h:opB o=true) (hx:cN x o.2.1=true) (hd:cN d o.2.2.1=true):(mG o x d).2.1.length=o.2.2.2.length:=by
 obtain ⟨⟨h1,h2,h3,h4,h5,h6,h7,h8⟩,h9⟩:=(eH o).1 h
 obtain ⟨x1,x2⟩:=(fF x _).1 hx
 obtain ⟨d1,d2⟩:=(fF d _).1 hd
 have ho:o.1=1∨o.1=5→(wV d x).1.2.2.length=o.2.2.2.length:=fun hk=>by
  unfold wV
  rw[if_pos ⟨d1,x1⟩]
  have e:(rG (aA9 d x) d.length).length=d.length * x.length:=tA (fun i=>fL _ _) _
  have e2:(o.2.2.2.length:Int)=o.2.1 * o.2.2.1:=by rw[h8];unfold dZ;rw[if_neg (by omega),if_pos hk]
  have e3:=bL8 d2 x2
  rw[Int.mul_comm] at e2
  show (rG (aA9 d x) d.length).length=_
  rw[e];omega
 unfold mG
 rw[if_neg (fun hn=>hn ⟨h,hx,hd⟩)]
 split
 ·rename_i hk;exact ho (.inl hk)
 ·rename_i hk1
  have he:=h7 hk1
  split
  ·rename_i hk
   have:(o.2.2.2.length:Int)=o.2.1:=by rw[h8];unfold dZ;rw[if_neg (by omega),if_neg (by omega),if_pos hk]
   show d.length=_
   omega
  ·split
   ·rename_i hk
    have:(o.2.2.2.length:Int)=1:=by rw[h8];unfold dZ;rw[if_neg (by omega),if_neg (by omega),if_neg (by omega),if_pos hk]
    show 1=_
    omega
   ·split
    ·rename_i hk;exact ho (.inr hk)
    ·have:(o.2.2.2.length:Int)=0:=by rw[h8];unfold dZ;rw[if_neg (by omega),if_neg (by omega),if_neg (by omega),if_neg (by omega)]
     show 0=_
     omega
theorem aWF {m:List cZ} {r:dG} {d:List Int} (hm:bO m=true) (hr:sH m r m.length=true) (hd:cN d (cH m)=true):(k:Nat)→k≤m.length →
  cN (iD m r d m.length k).2.1 (gI m (m.length - k))=true∧∀ i,m.length - k≤i→i<m.length→((iD m r d m.length k).1.getD i []).length=(m.getD i qY).2.2.2.length
 | 0,_=>by
  rw[Nat.sub_zero,tO hm]
  exact ⟨hd,fun i h1 h2=>by omega⟩
 | k+1,hk=>by
  obtain ⟨i1,i2⟩:=aWF hm hr hd k (by omega)
  have hl:=xG m r d m.length k
  have hM:=(bM m).1 hm
  have hj:m.length - 1 - k<m.length:=by omega
  have ho:opB (m.getD (m.length - 1 - k) qY)=true:=by rw[aW hj];exact ((iO m hj).1 (hM.2.2 _ hj)).1
  have hx:=(tB _ _ _).1 hr _ hj
  rw[xI hj] at hx
  rw[show m.length - k=m.length - 1 - k+1 by omega,aUU hm hj] at i1
  refine ⟨?_,fun i h1 h2=>?_⟩
  ·rw[show m.length - (k+1)=m.length - 1 - k by omega,xI hj]
   exact bP8 ho hx i1
  ·show ((((iD m r d m.length k).1.set (m.length - 1 - k) _).getD i []):List Int).length=_
   rw[hZ]
   by_cases hi:m.length - 1 - k=i
   ·rw[if_pos ⟨hi,by omega⟩,← hi]
    exact bNC ho hx i1
   ·rw[if_neg (fun hh=>hi hh.1)]
    exact i2 i (by omega) h2
theorem bKD {m:List cZ} {r:dG} {d:List Int} (hm:bO m=true) (hr:aCV m r=true) (hd:cN d (cH m)=true) :
  cN (oP m r d).2.1 (dM m)=true∧(oP m r d).1.length=m.length∧∀ i,i<m.length→((oP m r d).1.getD i []).length=(m.getD i qY).2.2.2.length:=by
 unfold aCV at hr
 rw[Bool.and_eq_true] at hr
 obtain ⟨h1,h2⟩:=aWF hm hr.2 hd m.length (Nat.le_refl _)
 rw[Nat.sub_self,aG1 hm] at h1
 exact ⟨h1,xG _ _ _ _ _,fun i hi=>h2 i (by omega) hi⟩
theorem aYR {m:List cZ} {g:List (List Int)}:aHL m g=true↔g.length=m.length∧∀ i,i<m.length→(g.getD i []).length=(m.getD i qY).2.2.2.length:=by
 rw[aFK]
 constructor
 ·rintro ⟨h1,h2⟩
  refine ⟨h1,fun i hi=>?_⟩
  have:=(aHG m g hi (by omega)).1 (h2 i hi)
  rw[aW hi,aW (show i<g.length by omega)];exact this
 ·rintro ⟨h1,h2⟩
  refine ⟨h1,fun i hi=>(aHG m g hi (by omega)).2 ?_⟩
  have:=h2 i hi
  rw[aW hi,aW (show i<g.length by omega)] at this;exact this
theorem bM1 {m:List cZ} {a b:List (List Int)} (ha:aHL m a=true) (hb:b.length=m.length) (hc:∀ i,i<m.length→(b.getD i []).length=(m.getD i qY).2.2.2.length):aHL m (eY a b)=true:=by
 obtain ⟨a1,a2⟩:=aYR.1 ha
 refine aYR.2 ⟨by rw[nL];omega,fun i hi=>?_⟩
 have e1:=a2 i hi
 have e2:=hc i hi
 rw[aW (show i<a.length by omega)] at e1
 rw[aW (show i<b.length by omega)] at e2
 have hl:i<(eY a b).length:=by rw[nL];omega
 rw[aW hl]
 have e3:(eY a b)[i]=xL (a[i]'(by omega)) (b[i]'(by omega)):=List.getElem_zipWith
 rw[e3]
 unfold xL
 rw[List.length_zipWith];omega
theorem aN9 (n:Int):jE [] n=true:=rfl
theorem aSF {v:List Int} {n:Int} (h:cN v n=true):jE v n=true:=(bF3 v n).2 (.inr h)
theorem bP1 {x:bG} {k:Int} (h:dP x=true) (h1:0≤k) (h2:k≤(x.2.1.length:Int)):dP (jJ x k)=true:=by
 obtain ⟨a1,a2,a3,a4,a5,a6,a7,a8⟩:=(cD x).1 h
 exact (cD _).2 ⟨a1,⟨h1,h2⟩,a3,a4,a5,a6,a7,a8⟩
theorem bPN {x:bG} {v:List Int} (h:dP x=true) (hv:jE v (dM x.2.2.1)=true):dP (aUL x v)=true:=by
 obtain ⟨a1,a2,a3,a4,a5,a6,a7,a8⟩:=(cD x).1 h
 exact (cD _).2 ⟨a1,a2,a3,a4,hv,a6,a7,a8⟩
theorem bPS {x:bG} {v:List Int} (h:dP x=true) (hv:jE v (cH x.2.2.1)=true):dP (aWX x v)=true:=by
 obtain ⟨a1,a2,a3,a4,a5,a6,a7,a8⟩:=(cD x).1 h
 exact (cD _).2 ⟨a1,a2,a3,a4,a5,a6,hv,a8⟩
theorem bPT {x:bG} {v:List Int} (h:dP x=true) (hv:jE v (cH x.2.2.1)=true):dP (aWA x v)=true:=by
 obtain ⟨a1,a2,a3,a4,a5,a6,a7,a8⟩:=(cD x).1 h
 exact (cD _).2 ⟨a1,a2,a3,a4,a5,a6,a7,hv⟩
theorem bPC {x:bG} {v:List Int} (h:dP x=true) (hv:jE v (dM x.2.2.1)=true):dP (wZ x v)=true:=by
 obtain ⟨a1,a2,a3,a4,a5,a6,a7,a8⟩:=(cD x).1 h
 exact (cD _).2 ⟨a1,a2,a3,a4,a5,hv,a7,a8⟩
theorem bB7 {s:bG} {x:List Int} (hm:bO s.2.2.1=true) (hx:cN x (dM s.2.2.1)=true):cN (aO5 s x) (cH s.2.2.1)=true:=by
 have:=aJ7 hm hx (i:=s.2.2.1.length) (Nat.le_refl _)
 rw[tO hm] at this
 exact this
theorem bNN {s:bG} {m:Int} {x t:List Int} (h:dP s=true) (hx:cN x (dM s.2.2.1)=true):dP (aNM s m x t)=true:=by
 obtain ⟨a1,a2,a3,a4,a5,a6,a7,a8⟩:=(cD s).1 h
 refine (cD _).2 ⟨a1,a2,a3,?_,aN9 _,a6,?_,a8⟩
 ·show (s.2.2.2.2.2.1++[(m,zH s.2.2.2.2.1 (jC s.2.2.1 x s.2.2.1.length).1)]).all (kX s.2.2.1 s.2.2.2.2.1)=true
  rw[List.all_append,a4,Bool.true_and,List.all_cons,List.all_nil,Bool.and_true]
  exact bDK _ _ a1 hx
 ·show jE (if s.2.2.2.1=true then s.2.2.2.2.2.2.2.2.1 else aO5 s x) (cH s.2.2.1)=true
  split
  ·exact a7
  ·exact aSF (bB7 a1 hx)
theorem bM4 {s:bG} {r:dG} (h:dP s=true):dP (s.1,s.2.1,s.2.2.1,s.2.2.2.1,s.2.2.2.2.1,s.2.2.2.2.2.1,r,s.2.2.2.2.2.2.2)=true:=by
 obtain ⟨a1,a2,a3,a4,a5,a6,a7,a8⟩:=(cD s).1 h
 exact (cD _).2 ⟨a1,a2,a3,a4,a5,a6,a7,a8⟩
theorem bNW {s:bG} {m:Int} {t:List Int} (h:aIH s m t=true):dP (aU4 s m t)=true∧cN (oP s.2.2.1 (rJ s m) (kD s m t).1).2.1 (dM s.2.2.1)=true:=by
 unfold aIH at h
 simp only[Bool.and_eq_true] at h
 obtain ⟨h1,h2,h3,h4⟩:=h
 obtain ⟨a1,a2,a3,a4,a5,a6,a7,a8⟩:=(cD s).1 h1
 obtain ⟨b1,b2,b3⟩:=bKD a1 h3 h4
 refine ⟨(cD _).2 ⟨a1,a2,bM1 a3 b2 b3,?_,a5,aSF b1,a7,aN9 _⟩,b1⟩
 show (s.2.2.2.2.2.1.take _++s.2.2.2.2.2.1.drop _).all (kX s.2.2.1 s.2.2.2.2.1)=true
 rw[List.all_eq_true] at a4 ⊢
 intro y hy
 rcases List.mem_append.1 hy with hy|hy
 ·exact a4 y (List.mem_of_mem_take hy)
 ·exact a4 y (List.mem_of_mem_drop hy)
theorem bF6 {l:List gK} {m:Int} (h:(l.map (·.1)).head?=some m):eE l m=0:=by
 cases l with
 | nil=>cases h
 | cons a l =>
  have e:a.1=m:=by simpa using h
  exact (aPK (l:=a :: l) (m:=m) (k:=0) (Nat.zero_lt_succ _) rfl e).symm
theorem bEN {l:List gK} {m:Int} (h:m ∉ l.map (·.1)):eE l m = -1:=by
 have:∀ k,k≤l.length→nW l m k = -1:=fun k=>by
  induction k with
  | zero=>intro _;rfl
  | succ k ih =>
   intro hk
   refine aPB (ih (by omega)) fun e=>h ?_
   rw[aW (show k<l.length by omega)] at e
   rw[← e]
   exact List.mem_map.2 ⟨_,List.getElem_mem _,rfl⟩
 exact this _ (Nat.le_refl _)
end Go.Proofs.YtpafjioccjpmfaaGreat
