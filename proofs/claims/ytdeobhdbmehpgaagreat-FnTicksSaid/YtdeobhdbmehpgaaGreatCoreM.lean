/- CoreM: lemmas. No conditions. -/
import Derived.Test.YtdeobhdbmehpgaaGreatCoreS
namespace Go.Proofs.YtdeobhdbmehpgaaGreat
noncomputable section
open Go.ChangeShapes Go.WideShapes Go.ChangeAt Go.RowKit Go.Deep
set_option linter.unusedVariables false
set_option linter.unusedSimpArgs false
theorem bCH (p:aY) (s:Int):(eR p s).2.1.length=p.2.1.length:=by unfold eR;split <;> simp
theorem bLA {e:TypeId} {t:Ty} (n:Nat) (g:Nat→t.D) (B:Nat) (h:∀ i,i<n→bQ t (g i)≤B):bQ (.slice e t) (mp n g)≤n+n * B:=by
 have h1:=aE8 (bQ t) B (mp n g) (fun x hx=>by
  unfold mp at hx
  obtain ⟨i,hi,rfl⟩:=List.mem_map.1 hx
  exact h i (List.mem_range.1 hi))
 have h2:=fR n g
 rw[h2] at h1
 rw[dD,h2];omega
theorem bL9 (l:List kC):bQ bC l=l.length:=by
 have e:bQ bC l=l.length+(l.map (bQ aE)).sum:=rfl
 rw[e,aUN (bQ aE) l (fun _=>rfl)];rfl
theorem bJD (c:bZ) (n:Nat) (s:Int):bQ aA (aHS c n s)≤bQ aK c.1+400:=by
 unfold aHS aHD
 split
 ·rw[fP]
  dsimp only
  have h1:=bL9 (aCK c.2.2.1 (bV c.1 c.2.1) s (n:Int) (c.2.2.2.1.getD s.toNat false))
  have h2:=aO1 c.2.2.1 (bV c.1 c.2.1) s (n:Int) (c.2.2.2.1.getD s.toNat false)
  have h3:=bGM (m:=c.1) (bE c.1 c.2.1 s).1.toNat (bE c.1 c.2.1 s).2.toNat
  have h4:=bFF (List.drop (bE c.1 c.2.1 s).1.toNat (List.take (bE c.1 c.2.1 s).2.toNat c.1))
  have h5:=aP5 (e:=112) h4.1 h4.2
  have e0:bQ uC ([]:List iQ)=0:=rfl
  have e1:bQ aI ([]:cV)=0:=rfl
  have h5':bQ aI (aF8 (List.drop (bE c.1 c.2.1 s).1.toNat (List.take (bE c.1 c.2.1 s).2.toNat c.1))).1≤8+8 * 36:=h5
  simp only[List.length_nil]
  rw[e0,e1];omega
 ·exact Nat.zero_le _
theorem bGO {c:bZ} {b:List bP} (h1:bQ aQ c≤2000000) (h2:bQ aN b≤2000000):bQ aC (aCF c b)≤90000000:=by
 unfold aCF
 split
 ·rename_i h
  obtain ⟨a1,a2,a3,a4,a5,a6,a7,a8⟩:=aQ7 h
  have hcl:=aW6 a7
  have hmm:bQ aK c.1≤bQ aQ c:=Nat.le_add_right _ _
  have s1:=bLA (e:=38) (t:=aA) (bV c.1 c.2.1).toNat (fun s=>aHS c b.length (s:Int)) (bQ aK c.1+400) (fun i _=>bJD _ _ _)
  have s2:=bLA (e:=119) (t:=aL) c.2.2.2.2.1.length (aC8 c) 0 (fun i _=>Nat.le_refl _)
  have s3:(bV c.1 c.2.1).toNat * (bQ aK c.1+400)≤4 * (bQ aK c.1+400):=Nat.mul_le_mul_right _ (by omega)
  rw[qL]
  dsimp only
  have s2':bQ aG (mp c.2.2.2.2.1.length (aC8 c))≤c.2.2.2.2.1.length+c.2.2.2.2.1.length * 0:=s2
  omega
 ·exact Nat.zero_le _
theorem bDD {c:bZ} {b:List bP} (h:eQ c b=0):1≤(aCF c b).2.1.length∧(aCF c b).2.1.length≤4:=by
 obtain ⟨a1,a2,a3,a4,a5,a6,a7,a8⟩:=aQ7 h
 rw[← aYH h]
 show 1≤(mp _ _).length∧(mp _ _).length≤4
 rw[fR];omega
end
end Go.Proofs.YtdeobhdbmehpgaaGreat
