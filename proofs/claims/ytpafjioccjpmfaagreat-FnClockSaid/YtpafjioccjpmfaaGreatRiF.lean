/- RiF: lemmas. No conditions. -/
import Derived.Test.YtpafjioccjpmfaaGreatSeq5
namespace Go.Proofs.YtpafjioccjpmfaaGreat
open Go.ChangeShapes Go.WideShapes Go.ChangeAt Go.RowKit Go.Deep
set_option linter.unusedVariables false
set_option linter.unusedSimpArgs false
theorem bCK {o:cZ} (h:opB o=true) (k:Nat) (hk:k<o.2.2.2.length):gM (o.2.2.2.getD k 0)=true:=by
 rw[aW hk]
 exact List.all_eq_true.1 ((eH o).1 h).2 _ (List.getElem_mem hk)
theorem bOE (x:Int):gM (iK x)=true:=(sY _).2 (qP x)
theorem aBW (x:Int):gM (aWO x).1=true:=bOE x
theorem bJ8 (a b:List Int):(k:Nat)→gM (aMH a b k).1=true
 | 0=>by show gM 0=true;decide
 | k+1=>aBW _
theorem bHX (a b:List Int):gM (mI a b).1=true:=by
 unfold mI;split
 ·exact bJ8 _ _ _
 ·show gM 0=true;decide
theorem uN {n:Nat} {z:Int} {g:Nat→Int} (h1:1≤n) (h6:n≤6) (hz:(n:Int)=z) (h:∀ i,gM (g i)=true):cN (mp n g) z=true:=by
 refine (fF _ _).2 ⟨(dB _).2 ⟨by rw[fL];exact h1,by rw[fL];exact h6,List.all_eq_true.2 fun v hv=>?_⟩,by rw[fL];exact hz⟩
 obtain ⟨i,_,rfl⟩:=List.mem_map.1 (show v∈(List.range n).map g from hv)
 exact h i
theorem bCZ {o:cZ} (h:opB o=true) (hk:o.1=1∨o.1=5):aIM (uF o)=true:=by
 obtain ⟨⟨h1,h2,h3,h4,h5,h6,h7,h8⟩,h9⟩:=(eH o).1 h
 refine (wP _).2 ⟨⟨h5,h6,h3,h4,?_⟩,h9⟩
 show (o.2.2.2.length:Int)=o.2.2.1 * o.2.1
 rw[h8];unfold dZ
 rw[if_neg (by omega),if_pos hk,Int.mul_comm]
theorem bLT (x:Int):gM (aPR x)=true:=(sY _).2 (by have:=qP x;unfold aPR;omega)
theorem bMP {o:cZ} {x:List Int} (h:opB o=true) (hx:cN x o.2.1=true):cN (rU o x).1 o.2.2.1=true:=by
 obtain ⟨⟨h1,h2,h3,h4,h5,h6,h7,h8⟩,h9⟩:=(eH o).1 h
 obtain ⟨x1,x2⟩:=(fF x _).1 hx
 obtain ⟨x3,x4,x5⟩:=(dB x).1 x1
 have hmv:o.1=1∨o.1=5→cN (nH (uF o) x).1 o.2.2.1=true:=fun hk=>by
  unfold nH
  rw[if_pos ⟨bCZ h hk,hx⟩]
  exact uN (by show 1≤o.2.2.1.toNat;omega) (by show o.2.2.1.toNat≤6;omega) (by show (o.2.2.1.toNat:Int)=o.2.2.1;omega) fun i=>bHX _ _
 have hva:∀ b,o.2.1=o.2.2.1→cN b o.2.1=true→cN (oT fD x b).1 o.2.2.1=true:=fun b he hb=>by
  unfold oT
  rw[if_pos ((aC4 _ _).2 ⟨x1,by rw[x2];exact hb⟩)]
  exact uN x3 x4 (by rw[x2,he]) fun i=>aBW _
 unfold rU
 rw[if_neg (fun hn=>hn ⟨h,hx⟩)]
 split
 ·rename_i hk;exact hmv (.inl hk)
 ·rename_i hk1
  have he:=h7 hk1
  split
  ·rename_i hk
   refine hva _ he ((fF _ _).2 ⟨(dB _).2 ?_,?_⟩)
   ·have hl:(o.2.2.2.length:Int)=o.2.1:=by rw[h8];unfold dZ;rw[if_neg (by omega),if_neg (by omega),if_pos hk]
    exact ⟨by omega,by omega,h9⟩
   ·rw[h8];unfold dZ;rw[if_neg (by omega),if_neg (by omega),if_pos hk]
  ·split
   ·rename_i hk
    unfold zK
    have hl:o.2.2.2.length=1:=by
     have:(o.2.2.2.length:Int)=1:=by rw[h8];unfold dZ;rw[if_neg (by omega),if_neg (by omega),if_neg (by omega),if_pos hk]
     omega
    rw[if_pos ⟨bCK h 0 (by omega),x1⟩]
    exact uN x3 x4 (by rw[x2,he]) fun i=>aBW _
   ·split
    ·rename_i hk
     exact hva _ he (by rw[he];exact hmv (.inr hk))
    ·unfold uV
     rw[if_pos x1]
     exact uN x3 x4 (by rw[x2,he]) fun i=>bLT _
def bMK (m:List cZ) (x:List Int):Nat→List Int
 | 0=>x
 | k+1=>(rU (m.getD k qY) (bMK m x k)).1
theorem aR8 (m : List cZ) (x : List Int) : (k i : Nat) → i ≤ k → (jC m x k).1.getD i [] = bMK m x i
  | 0, i, h => by obtain rfl : i = 0 := by omega
                  rfl
  | k + 1, i, h => by
    have hl := qK m x k
    show ((jC m x k).1 ++ [(rU (m.getD k qY) ((jC m x k).1.getD k [])).1]).getD i [] = _
    rcases Nat.lt_or_ge i (k + 1) with hi | hi
    · rw [List.getD_eq_getElem?_getD, List.getElem?_append_left (by omega), ← List.getD_eq_getElem?_getD]
      exact aR8 m x k i (by omega)
    · obtain rfl : i = k + 1 := by omega
      rw [List.getD_eq_getElem?_getD, List.getElem?_append_right (by omega), hl, Nat.sub_self]
      show (rU (m.getD k qY) ((jC m x k).1.getD k [])).1 = _
      rw [aR8 m x k k (Nat.le_refl _)]; rfl
theorem aZH {m:List cZ} {x:List Int} (hm:bO m=true) (hx:cN x (dM m)=true):(k:Nat)→k<m.length→cN (bMK m x k) (m.getD k qY).2.1=true∧cN (bMK m x (k+1)) (m.getD k qY).2.2.1=true
 | 0,h=>by
  have h1:=(bM m).1 hm
  have ho:opB (m.getD 0 qY)=true:=by rw[aW h];exact ((iO m h).1 (h1.2.2 0 h)).1
  have h2:cN x (m.getD 0 qY).2.1=true:=by unfold dM at hx;rwa [if_pos hm] at hx
  exact ⟨h2,bMP ho h2⟩
 | k+1,h=>by
  have h1:=(bM m).1 hm
  obtain ⟨g1,g2⟩:=(iO m h).1 (h1.2.2 (k+1) h)
  have hk:=(aZH hm hx k (by omega)).2
  have e:(m.getD k qY).2.2.1=(m.getD (k+1) qY).2.1:=by
   have:=g2.resolve_left (by omega)
   rw[aW (show k<m.length by omega),aW h]
   simpa using this
  rw[e] at hk
  exact ⟨hk,bMP (by rw[aW h];exact g1) hk⟩
end Go.Proofs.YtpafjioccjpmfaaGreat
