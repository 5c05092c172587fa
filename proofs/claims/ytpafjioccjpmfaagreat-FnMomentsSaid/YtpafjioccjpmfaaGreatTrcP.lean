/- TrcP: lemmas. No conditions. -/
import Derived.Test.YtpafjioccjpmfaaGreatTrc
namespace Go.Proofs.YtpafjioccjpmfaaGreat
open Go.ChangeShapes Go.WideShapes Go.ChangeAt Go.RowKit Go.Deep
set_option linter.unusedVariables false
set_option linter.unusedSimpArgs false
def aUG (a b:Int):List cP→List Int→Bool
 | [],_=>true
 | i :: l,sn=>(if i.1=b then sn.any (fun m=>decide (m=i.2)) else true)&&aUG a b l (if i.1=a then i.2 :: sn else sn)
theorem aW0 {a b:Int}:(l pre:List cP)→(sn:List Int)→(∀ m∈sn,(a,m)∈pre)→aUG a b l sn=true→∀ k (h:k<l.length),l[k].1=b→(a,l[k].2)∈pre++l.take k
 | [],_,_,_,_,k,h,_=>absurd h (Nat.not_lt_zero _)
 | i :: l,pre,sn,hs,hg,k,h,hb=>by
  rw[aUG,Bool.and_eq_true] at hg
  cases k with
  | zero =>
   rw[List.getElem_cons_zero] at hb ⊢
   have h1:=hg.1
   rw[if_pos hb,List.any_eq_true] at h1
   obtain ⟨m,hm,e⟩:=h1
   rw[decide_eq_true_eq] at e
   rw[← e]
   exact List.mem_append_left _ (hs m hm)
  | succ k =>
   rw[List.getElem_cons_succ] at hb ⊢
   have h1:=aW0 l (pre++[i]) _ (fun m hm=>by
    split at hm
    ·rename_i hi
     rcases List.mem_cons.1 hm with rfl|hm
     ·exact List.mem_append_right _ (List.mem_singleton.2 (Prod.ext hi.symm rfl))
     ·exact List.mem_append_left _ (hs m hm)
    ·exact List.mem_append_left _ (hs m hm)) hg.2 k (by simpa using h) hb
   rw[List.append_assoc] at h1
   exact h1
theorem aQV {l:List cP} {a b:Int} (h:aUG a b l []=true):ahd l a b:=fun k hk hb=>by
 have:=aW0 l [] [] (fun m hm=>by cases hm) h k hk hb
 rwa [List.nil_append] at this
def lI (n:Int):List Int:=(List.range n.toNat).map fun (k:Nat)=>(k:Int)
def bJI (ds n s mi:Int) (r:Bool):Bool :=
 (decide (s≤0) || decide (oV 1 (fU ds n s mi r)=lI mi))&&((decide (n - 1≤s) || decide (oV 3 (fU ds n s mi r)=lI mi))&&((decide (n - 1≤s) || decide (oV 4 (fU ds n s mi r)=lI mi))&&((decide (s≤0) || decide (oV 7 (fU ds n s mi r)=lI mi)) &&
 ((decide (s≤0) || aUG 1 2 (fU ds n s mi r) [])&&(aUG 2 3 (fU ds n s mi r) []&&((decide (n - 1≤s) || aUG 4 6 (fU ds n s mi r) [])&&aUG 6 7 (fU ds n s mi r) []))))))
theorem bLY:(([1,2]:List Int).all fun ds=>([1,2,3,4]:List Int).all fun n=>([0,1,2,3]:List Int).all fun s=>([1,2,3,4,5]:List Int).all fun mi=>[true,false].all fun r=>decide (n≤s) || bJI ds n s mi r)=true:=by kernel_rfl
theorem bK9 {ds n s mi:Int} (r:Bool) (hd:ds=1∨ds=2) (hn:1≤n∧n≤4) (hs:0≤s∧s<n) (hm:1≤mi∧mi≤5):bJI ds n s mi r=true:=by
 have h:=bLY
 simp only[List.all_eq_true] at h
 have:=h ds (by simp;omega) n (by simp;omega) s (by simp;omega) mi (by simp;omega) r (by cases r <;> simp)
 rw[decide_eq_false (show ¬ n≤s by omega),Bool.false_or] at this
 exact this
theorem aLI {m:List cZ} (h:bO m=true) {a b:Nat} (hab:a<b) (hb:b≤m.length):bO (List.drop a (List.take b m))=true:=by
 obtain ⟨h1,h2,h3⟩:=(bM m).1 h
 have hl:(List.drop a (List.take b m)).length=b - a:=by rw[List.length_drop,List.length_take];omega
 have e:∀ i,i<b - a→(List.drop a (List.take b m)).getD i qY=m.getD (a+i) qY:=fun i hi=>by
  rw[List.getD_eq_getElem?_getD,List.getD_eq_getElem?_getD,List.getElem?_drop,List.getElem?_take,if_pos (by omega)]
 refine (bM _).2 ⟨by omega,by omega,fun i hi=>?_⟩
 rw[hl] at hi
 have h4:=h3 (a+i) (by omega)
 unfold aLV at h4 ⊢
 rw[e i hi,e (i - 1) (by omega)]
 rw[Bool.and_eq_true] at h4 ⊢
 refine ⟨h4.1,?_⟩
 by_cases h0:i=0
 ·rw[decide_eq_true h0];rfl
 ·have h5:=h4.2
  rw[decide_eq_false (show ¬ a+i=0 by omega),Bool.false_or] at h5
  rw[show a+(i - 1)=a+i - 1 by omega,h5,Bool.or_true]
theorem nT {c:bB} {b:List cB} (h:cE c b=0) {s:Nat} (hs:s<(bA c b).2.1.length) :
  gE (bA c b) s=fU c.2.2.1 (bC c.1 c.2.1) (s:Int) (b.length:Int) (c.2.2.2.1.getD s false)∧gP (bA c b) s=0:=by
 obtain ⟨a1,a2,a3,a4,a5,a6,a7,a8⟩:=iZ h
 rw[← qW h] at hs ⊢
 have hs2:s<(bC c.1 c.2.1).toNat:=by
  have e:(mp (bC c.1 c.2.1).toNat (fun s=>aB9 c b.length (s:Int))).length=(bC c.1 c.2.1).toNat:=fL _ _
  have:s<(mp (bC c.1 c.2.1).toNat (fun s=>aB9 c b.length (s:Int))).length:=hs
  omega
 have hr:=aCE a3 (show (0:Int)≤(s:Int) by omega) (show (s:Int)≤(c.2.1.length:Int) by omega)
 have hm:bO (List.drop (aY c.1 c.2.1 (s:Int)).1.toNat (List.take (aY c.1 c.2.1 (s:Int)).2.toNat c.1))=true:=aLI a1 (by omega) (by omega)
 unfold gE gP
 dsimp only
 rw[aG7 _ _ _ hs2]
 unfold aB9 aBH
 rw[if_pos hm,Int.toNat_natCast]
 exact ⟨rfl,rfl⟩
theorem kN {c:bB} {b:List cB} (h:cE c b=0):((bA c b).2.1.length:Int)=bC c.1 c.2.1:=by
 obtain ⟨a1,a2,a3,a4,a5,a6,a7,a8⟩:=iZ h
 rw[← qW h]
 show ((mp _ _).length:Int)=_
 rw[fL];omega
theorem bAT {c:bB} {b:List cB} (h:cE c b=0):c.2.2.1=1∨c.2.2.1=2:=by
 obtain ⟨a1,a2,a3,a4,a5,a6,a7,a8⟩:=iZ h
 by_cases h4:c.2.2.1=1∨c.2.2.1=2
 ·exact h4
 ·rw[← bKP a1 a2 (by omega) h4] at h;omega
theorem bM3 {c : bB} {b : List cB} (h : cE c b = 0) : PlOk (bA c b) := by
  obtain ⟨a1, a2, a3, a4, a5, a6, a7, a8⟩ := iZ h
  have hb := ((nC _ _).1 a2).2.1
  have hn := kN h
  have C : ∀ s, s < (bA c b).2.1.length → bJI c.2.2.1 (bC c.1 c.2.1) (s : Int) (b.length : Int) (c.2.2.2.1.getD s false) = true := fun s hs =>
    bK9 _ (bAT h) ⟨by omega, a5⟩ ⟨by omega, by omega⟩ ⟨by omega, by omega⟩
  have D : ∀ s, s < (bA c b).2.1.length → (0 < s → oV 1 (gE (bA c b) s) = lI (b.length : Int)) ∧ (s + 1 < (bA c b).2.1.length → oV 3 (gE (bA c b) s) = lI (b.length : Int)) ∧ (s + 1 < (bA c b).2.1.length → oV 4 (gE (bA c b) s) = lI (b.length : Int)) ∧
      (0 < s → oV 7 (gE (bA c b) s) = lI (b.length : Int)) ∧ (0 < s → ahd (gE (bA c b) s) 1 2) ∧ ahd (gE (bA c b) s) 2 3 ∧ (s + 1 < (bA c b).2.1.length → ahd (gE (bA c b) s) 4 6) ∧ ahd (gE (bA c b) s) 6 7 := fun s hs => by
    have h1 := C s hs
    unfold bJI at h1
    rw [(nT h hs).1]
    simp only [Bool.and_eq_true, Bool.or_eq_true, decide_eq_true_eq] at h1
    obtain ⟨q1, q2, q3, q4, q5, q6, q7, q8⟩ := h1
    exact ⟨fun h0 => q1.resolve_left (by omega), fun h0 => q2.resolve_left (by omega), fun h0 => q3.resolve_left (by omega), fun h0 => q4.resolve_left (by omega), fun h0 => aQV (q5.resolve_left (by omega)), aQV q6, fun h0 => aQV (q7.resolve_left (by omega)), aQV q8⟩
  exact { q1 := fun s hs => ((D (s + 1) hs).1 (by omega)).trans ((D s (by omega)).2.1 hs).symm
          q4 := fun s hs => ((D s (by omega)).2.2.1 hs).trans ((D (s + 1) hs).2.2.2.1 (by omega)).symm
          a1 := fun s hs h0 => (D s hs).2.2.2.2.1 h0
          a2 := fun s hs => (D s hs).2.2.2.2.2.1
          a4 := fun s hs => (D s (by omega)).2.2.2.2.2.2.1 hs
          a6 := fun s hs => (D s hs).2.2.2.2.2.2.2 }
theorem bD2 {c:bB} {b:List cB} (h:cE c b=0):TrI (bA c b) (bA c b) []:=by
 have q:∀ (n:Nat) (s:Nat),((mp n (aFR c)).getD s (aP aM)).2.length=0:=fun n s=>by
  by_cases hs:s<n
  ·rw[aG7 _ _ _ hs];rfl
  ·rw[List.getD_eq_getElem?_getD,List.getElem?_eq_none (by rw[fL];omega)];rfl
 refine TrI.start (fun s hs=>(nT h hs).2) (fun s=>?_) (fun s=>?_)
 ·rw[← qW h];exact q _ s
 ·rw[← qW h];exact q _ s
end Go.Proofs.YtpafjioccjpmfaaGreat
