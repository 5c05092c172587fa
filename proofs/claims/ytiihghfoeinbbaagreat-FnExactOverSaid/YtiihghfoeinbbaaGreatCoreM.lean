/- CoreM: lemmas. No conditions. -/
import Derived.Test.YtiihghfoeinbbaaGreatCoreS
namespace Go.Proofs.YtiihghfoeinbbaaGreat
noncomputable section
open Go.ChangeShapes Go.WideShapes Go.ChangeAt Go.RowKit Go.Deep
set_option linter.unusedVariables false
set_option linter.unusedSimpArgs false
theorem aNF (p:bO) (s:Int):(dQ p s).2.1.length=p.2.1.length:=by unfold dQ;split <;> simp
theorem bKP {e:TypeId} {t:Ty} (n:Nat) (g:Nat→t.D) (B:Nat) (h:∀ i,i<n→bD t (g i)≤B):bD (.slice e t) (mp n g)≤n+n * B:=by
 have h1:=xK (bD t) B (mp n g) (fun x hx=>by
  unfold mp at hx
  obtain ⟨i,hi,rfl⟩:=List.mem_map.1 hx
  exact h i (List.mem_range.1 hi))
 have h2:=fJ n g
 rw[h2] at h1
 rw[bZ,h2];omega
theorem bJT (l:List fI):bD aT l=l.length:=by
 have e:bD aT l=l.length+(l.map (bD aO)).sum:=rfl
 rw[e,aLH (bD aO) l (fun _=>rfl)];rfl
theorem bIT (c:bN) (n:Nat) (s:Int):bD aA (aCF c n s)≤bD aE c.1+400:=by
 unfold aCF aAI
 split
 ·rw[gI]
  dsimp only
  have h1:=bJT (zA c.2.2.1 (bS c.1 c.2.1) s (n:Int) (c.2.2.2.1.getD s.toNat false))
  have h2:=aFZ c.2.2.1 (bS c.1 c.2.1) s (n:Int) (c.2.2.2.1.getD s.toNat false)
  have h3:=aWJ (m:=c.1) (bB c.1 c.2.1 s).1.toNat (bB c.1 c.2.1 s).2.toNat
  have h4:=bHK (List.drop (bB c.1 c.2.1 s).1.toNat (List.take (bB c.1 c.2.1 s).2.toNat c.1))
  have h5:=aP7 (e:=156) h4.1 h4.2
  have e0:bD oG ([]:List eZ)=0:=rfl
  have e1:bD aH ([]:cV)=0:=rfl
  have h5':bD aH (wV (List.drop (bB c.1 c.2.1 s).1.toNat (List.take (bB c.1 c.2.1 s).2.toNat c.1))).1≤8+8 * 36:=h5
  simp only[List.length_nil]
  rw[e0,e1];omega
 ·exact Nat.zero_le _
theorem aRH {c:bN} {b:List bW} (h1:bD aC c≤2000000) (h2:bD aN b≤2000000):bD aL (pG c b)≤90000000:=by
 unfold pG
 split
 ·rename_i h
  obtain ⟨a1,a2,a3,a4,a5,a6,a7,a8⟩:=aYH h
  have hcl:=aKQ a7
  have hmm:bD aE c.1≤bD aC c:=Nat.le_add_right _ _
  have s1:=bKP (e:=126) (t:=aA) (bS c.1 c.2.1).toNat (fun s=>aCF c b.length (s:Int)) (bD aE c.1+400) (fun i _=>bIT _ _ _)
  have s2:=bKP (e:=170) (t:=aM) c.2.2.2.2.1.length (yK c) 0 (fun i _=>Nat.le_refl _)
  have s3:(bS c.1 c.2.1).toNat * (bD aE c.1+400)≤4 * (bD aE c.1+400):=Nat.mul_le_mul_right _ (by omega)
  rw[aR7]
  dsimp only
  have s2':bD aK (mp c.2.2.2.2.1.length (yK c))≤c.2.2.2.2.1.length+c.2.2.2.2.1.length * 0:=s2
  omega
 ·exact Nat.zero_le _
end
end Go.Proofs.YtiihghfoeinbbaaGreat
