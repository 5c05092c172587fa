/- TrcP: lemmas. No conditions. -/
import Derived.Test.YtpleleanibgniaaGreatTrc
namespace Go.Proofs.YtpleleanibgniaaGreat
open Go.ChangeShapes Go.WideShapes Go.ChangeAt Go.RowKit Go.Deep
set_option linter.unusedVariables false
set_option linter.unusedSimpArgs false
def aO9 (a b:Int):List cQ→List Int→Bool
 | [],_=>true
 | i :: l,sn=>(if i.1=b then sn.any (fun m=>decide (m=i.2)) else true)&&aO9 a b l (if i.1=a then i.2 :: sn else sn)
theorem aPT {a b:Int}:(l pre:List cQ)→(sn:List Int)→(∀ m∈sn,(a,m)∈pre)→aO9 a b l sn=true→∀ k (h:k<l.length),l[k].1=b→(a,l[k].2)∈pre++l.take k
 | [],_,_,_,_,k,h,_=>absurd h (Nat.not_lt_zero _)
 | i :: l,pre,sn,hs,hg,k,h,hb=>by
  rw[aO9,Bool.and_eq_true] at hg
  cases k with
  | zero =>
   rw[List.getElem_cons_zero] at hb ⊢
   have h1:=hg.1
   rw[if_pos hb,List.any_eq_true] at h1
   obtain ⟨m,hm,e⟩:=h1
   rw[decide_eq_true_eq] at e
   rw[← e]
   exact List.mem_append_left _ (hs m hm)
  | succ k =>
   rw[List.getElem_cons_succ] at hb ⊢
   have h1:=aPT l (pre++[i]) _ (fun m hm=>by
    split at hm
    ·rename_i hi
     rcases List.mem_cons.1 hm with rfl|hm
     ·exact List.mem_append_right _ (List.mem_singleton.2 (Prod.ext hi.symm rfl))
     ·exact List.mem_append_left _ (hs m hm)
    ·exact List.mem_append_left _ (hs m hm)) hg.2 k (by simpa using h) hb
   rw[List.append_assoc] at h1
   exact h1
theorem aN3 {l:List cQ} {a b:Int} (h:aO9 a b l []=true):ahd l a b:=fun k hk hb=>by
 have:=aPT l [] [] (fun m hm=>by cases hm) h k hk hb
 rwa [List.nil_append] at this
def aEU (n:Int):List Int:=(List.range n.toNat).map fun (k:Nat)=>(k:Int)
def bEW (ds n s mi:Int) (r:Bool):Bool :=
 (decide (s≤0) || decide (zZ 1 (lJ ds n s mi r)=aEU mi))&&((decide (n - 1≤s) || decide (zZ 3 (lJ ds n s mi r)=aEU mi))&&((decide (n - 1≤s) || decide (zZ 4 (lJ ds n s mi r)=aEU mi))&&((decide (s≤0) || decide (zZ 7 (lJ ds n s mi r)=aEU mi)) &&
 ((decide (s≤0) || aO9 1 2 (lJ ds n s mi r) [])&&(aO9 2 3 (lJ ds n s mi r) []&&((decide (n - 1≤s) || aO9 4 6 (lJ ds n s mi r) [])&&aO9 6 7 (lJ ds n s mi r) []))))))
theorem bFH:(([1,2]:List Int).all fun ds=>([1,2,3,4]:List Int).all fun n=>([0,1,2,3]:List Int).all fun s=>([1,2,3,4,5]:List Int).all fun mi=>[true,false].all fun r=>decide (n≤s) || bEW ds n s mi r)=true:=by kernel_rfl
theorem bGO {ds n s mi:Int} (r:Bool) (hd:ds=1∨ds=2) (hn:1≤n∧n≤4) (hs:0≤s∧s<n) (hm:1≤mi∧mi≤5):bEW ds n s mi r=true:=by
 have h:=bFH
 simp only[List.all_eq_true] at h
 have:=h ds (by simp;omega) n (by simp;omega) s (by simp;omega) mi (by simp;omega) r (by cases r <;> simp)
 rw[decide_eq_false (show ¬ n≤s by omega),Bool.false_or] at this
 exact this
theorem aUB {m:List dE} (h:bT m=true) {a b:Nat} (hab:a<b) (hb:b≤m.length):bT (List.drop a (List.take b m))=true:=by
 obtain ⟨h1,h2,h3⟩:=(bR m).1 h
 have hl:(List.drop a (List.take b m)).length=b - a:=by rw[List.length_drop,List.length_take];omega
 have e:∀ i,i<b - a→(List.drop a (List.take b m)).getD i zOp=m.getD (a+i) zOp:=fun i hi=>by
  rw[List.getD_eq_getElem?_getD,List.getD_eq_getElem?_getD,List.getElem?_drop,List.getElem?_take,if_pos (by omega)]
 refine (bR _).2 ⟨by omega,by omega,fun i hi=>?_⟩
 rw[hl] at hi
 have h4:=h3 (a+i) (by omega)
 unfold aHB at h4 ⊢
 rw[e i hi,e (i - 1) (by omega)]
 rw[Bool.and_eq_true] at h4 ⊢
 refine ⟨h4.1,?_⟩
 by_cases h0:i=0
 ·rw[decide_eq_true h0];rfl
 ·have h5:=h4.2
  rw[decide_eq_false (show ¬ a+i=0 by omega),Bool.false_or] at h5
  rw[show a+(i - 1)=a+i - 1 by omega,h5,Bool.or_true]
theorem aFV {c:bK} {b:List cI} (h:dH c b=0) {s:Nat} (hs:s<(fH c b).2.1.length) :
  vN (fH c b) s=lJ c.2.2.1 (bL c.1 c.2.1) (s:Int) (b.length:Int) (c.2.2.2.1.getD s false)∧pcS (fH c b) s=0:=by
 obtain ⟨a1,a2,a3,a4,a5,a6,a7,a8⟩:=aBI h
 rw[← aDT h] at hs ⊢
 have hs2:s<(bL c.1 c.2.1).toNat:=by
  have e:(mp (bL c.1 c.2.1).toNat (fun s=>wJ c b.length (s:Int))).length=(bL c.1 c.2.1).toNat:=iD _ _
  have:s<(mp (bL c.1 c.2.1).toNat (fun s=>wJ c b.length (s:Int))).length:=hs
  omega
 have hr:=aWG a3 (show (0:Int)≤(s:Int) by omega) (show (s:Int)≤(c.2.1.length:Int) by omega)
 have hm:bT (List.drop (bA c.1 c.2.1 (s:Int)).1.toNat (List.take (bA c.1 c.2.1 (s:Int)).2.toNat c.1))=true:=aUB a1 (by omega) (by omega)
 unfold vN pcS
 dsimp only
 rw[aW7 _ _ _ hs2]
 unfold wJ aAY
 rw[if_pos hm,Int.toNat_natCast]
 exact ⟨rfl,rfl⟩
theorem bEU {c:bK} {b:List cI} (h:dH c b=0):((fH c b).2.1.length:Int)=bL c.1 c.2.1:=by
 obtain ⟨a1,a2,a3,a4,a5,a6,a7,a8⟩:=aBI h
 rw[← aDT h]
 show ((mp _ _).length:Int)=_
 rw[iD];omega
theorem bIQ {c:bK} {b:List cI} (h:dH c b=0):c.2.2.1=1∨c.2.2.1=2:=by
 obtain ⟨a1,a2,a3,a4,a5,a6,a7,a8⟩:=aBI h
 by_cases h4:c.2.2.1=1∨c.2.2.1=2
 ·exact h4
 ·rw[← bHF a1 a2 (by omega) h4] at h;omega
theorem bEZ {c : bK} {b : List cI} (h : dH c b = 0) : PlOk (fH c b) := by
  obtain ⟨a1, a2, a3, a4, a5, a6, a7, a8⟩ := aBI h
  have hb := ((aH6 _ _).1 a2).2.1
  have hn := bEU h
  have C : ∀ s, s < (fH c b).2.1.length → bEW c.2.2.1 (bL c.1 c.2.1) (s : Int) (b.length : Int) (c.2.2.2.1.getD s false) = true := fun s hs =>
    bGO _ (bIQ h) ⟨by omega, a5⟩ ⟨by omega, by omega⟩ ⟨by omega, by omega⟩
  have D : ∀ s, s < (fH c b).2.1.length → (0 < s → zZ 1 (vN (fH c b) s) = aEU (b.length : Int)) ∧ (s + 1 < (fH c b).2.1.length → zZ 3 (vN (fH c b) s) = aEU (b.length : Int)) ∧ (s + 1 < (fH c b).2.1.length → zZ 4 (vN (fH c b) s) = aEU (b.length : Int)) ∧
      (0 < s → zZ 7 (vN (fH c b) s) = aEU (b.length : Int)) ∧ (0 < s → ahd (vN (fH c b) s) 1 2) ∧ ahd (vN (fH c b) s) 2 3 ∧ (s + 1 < (fH c b).2.1.length → ahd (vN (fH c b) s) 4 6) ∧ ahd (vN (fH c b) s) 6 7 := fun s hs => by
    have h1 := C s hs
    unfold bEW at h1
    rw [(aFV h hs).1]
    simp only [Bool.and_eq_true, Bool.or_eq_true, decide_eq_true_eq] at h1
    obtain ⟨q1, q2, q3, q4, q5, q6, q7, q8⟩ := h1
    exact ⟨fun h0 => q1.resolve_left (by omega), fun h0 => q2.resolve_left (by omega), fun h0 => q3.resolve_left (by omega), fun h0 => q4.resolve_left (by omega), fun h0 => aN3 (q5.resolve_left (by omega)), aN3 q6, fun h0 => aN3 (q7.resolve_left (by omega)), aN3 q8⟩
  exact { q1 := fun s hs => ((D (s + 1) hs).1 (by omega)).trans ((D s (by omega)).2.1 hs).symm
          q4 := fun s hs => ((D s (by omega)).2.2.1 hs).trans ((D (s + 1) hs).2.2.2.1 (by omega)).symm
          a1 := fun s hs h0 => (D s hs).2.2.2.2.1 h0
          a2 := fun s hs => (D s hs).2.2.2.2.2.1
          a4 := fun s hs => (D s (by omega)).2.2.2.2.2.2.1 hs
          a6 := fun s hs => (D s hs).2.2.2.2.2.2.2 }
theorem bDH {c:bK} {b:List cI} (h:dH c b=0):TrI (fH c b) (fH c b) []:=by
 have q:∀ (n:Nat) (s:Nat),((mp n (vS c)).getD s (aS aN)).2.length=0:=fun n s=>by
  by_cases hs:s<n
  ·rw[aW7 _ _ _ hs];rfl
  ·rw[List.getD_eq_getElem?_getD,List.getElem?_eq_none (by rw[iD];omega)];rfl
 refine TrI.start (fun s hs=>(aFV h hs).2) (fun s=>?_) (fun s=>?_)
 ·rw[← aDT h];exact q _ s
 ·rw[← aDT h];exact q _ s
end Go.Proofs.YtpleleanibgniaaGreat
