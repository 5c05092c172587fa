/- CoreM: lemmas. No conditions. -/
import Derived.Test.YtpleleanibgniaaGreatCoreS
namespace Go.Proofs.YtpleleanibgniaaGreat
noncomputable section
open Go.ChangeShapes Go.WideShapes Go.ChangeAt Go.RowKit Go.Deep
set_option linter.unusedVariables false
set_option linter.unusedSimpArgs false
theorem bFY {e:TypeId} {t:Ty} (n:Nat) (g:Nat→t.D) (B:Nat) (h:∀ i,i<n→bW t (g i)≤B):bW (.slice e t) (mp n g)≤n+n * B:=by
 have h1:=aAU (bW t) B (mp n g) (fun x hx=>by
  unfold mp at hx
  obtain ⟨i,hi,rfl⟩:=List.mem_map.1 hx
  exact h i (List.mem_range.1 hi))
 have h2:=iD n g
 rw[h2] at h1
 rw[cW,h2];omega
theorem bE0 (l:List cQ):bW aY l=l.length:=by
 have e:bW aY l=l.length+(l.map (bW aC)).sum:=rfl
 rw[e,aQ9 (bW aC) l (fun _=>rfl)];rfl
theorem bES (c:bK) (n:Nat) (s:Int):bW aA (wJ c n s)≤bW aD c.1+400:=by
 unfold wJ aAY
 split
 ·rw[fD]
  dsimp only
  have h1:=bE0 (lJ c.2.2.1 (bL c.1 c.2.1) s (n:Int) (c.2.2.2.1.getD s.toNat false))
  have h2:=aDZ c.2.2.1 (bL c.1 c.2.1) s (n:Int) (c.2.2.2.1.getD s.toNat false)
  have h3:=bAV (m:=c.1) (bA c.1 c.2.1 s).1.toNat (bA c.1 c.2.1 s).2.toNat
  have h4:=bBH (List.drop (bA c.1 c.2.1 s).1.toNat (List.take (bA c.1 c.2.1 s).2.toNat c.1))
  have h5:=aMG (e:=124) h4.1 h4.2
  have e0:bW uV ([]:List kR)=0:=rfl
  have e1:bW aP ([]:dT)=0:=rfl
  have h5':bW aP (aC0 (List.drop (bA c.1 c.2.1 s).1.toNat (List.take (bA c.1 c.2.1 s).2.toNat c.1))).1≤8+8 * 36:=h5
  simp only[List.length_nil]
  rw[e0,e1];omega
 ·exact Nat.zero_le _
theorem bBL {c:bK} {b:List cI} (h1:bW aE c≤2000000) (h2:bW aF b≤2000000):bW aO (fH c b)≤90000000:=by
 unfold fH
 split
 ·rename_i h
  obtain ⟨a1,a2,a3,a4,a5,a6,a7,a8⟩:=aBI h
  have hcl:=aQZ a7
  have hmm:bW aD c.1≤bW aE c:=Nat.le_add_right _ _
  have s1:=bFY (e:=50) (t:=aA) (bL c.1 c.2.1).toNat (fun s=>wJ c b.length (s:Int)) (bW aD c.1+400) (fun i _=>bES _ _ _)
  have s2:=bFY (e:=74) (t:=aN) c.2.2.2.2.1.length (vS c) 0 (fun i _=>Nat.le_refl _)
  have s3:(bL c.1 c.2.1).toNat * (bW aD c.1+400)≤4 * (bW aD c.1+400):=Nat.mul_le_mul_right _ (by omega)
  rw[aHL]
  dsimp only
  have s2':bW aH (mp c.2.2.2.2.1.length (vS c))≤c.2.2.2.2.1.length+c.2.2.2.2.1.length * 0:=s2
  omega
 ·exact Nat.zero_le _
theorem aXR {c:bK} {b:List cI} (h:dH c b=0):1≤(fH c b).2.1.length∧(fH c b).2.1.length≤4:=by
 obtain ⟨a1,a2,a3,a4,a5,a6,a7,a8⟩:=aBI h
 rw[← aDT h]
 show 1≤(mp _ _).length∧(mp _ _).length≤4
 rw[iD];omega
end
end Go.Proofs.YtpleleanibgniaaGreat
