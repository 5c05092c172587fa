/- Show4: lemmas. No conditions. -/
import Derived.Test.YtdeobhdbmehpgaaGreatPipe4
import Derived.Test.YtdeobhdbmehpgaaGreatShow3
namespace Go.Proofs.YtdeobhdbmehpgaaGreat
open Go.ChangeShapes Go.WideShapes Go.ChangeAt Go.RowKit Go.Deep
set_option linter.unusedVariables false
set_option linter.unusedSimpArgs false
theorem aP7 (s:aM):(gF s).size≤400000:=by
 unfold gF
 split
 ·rename_i h
  obtain ⟨hl,_⟩:=h
  have hm:=(bA _).1 ((bV s).1 hl.1).1
  have hg:=((iS _ _).1 ((bV s).1 hl.1).2.2.1).1
  have hkp:=aB3 hl.1
  obtain ⟨_,h2,h3,h4⟩:=hl
  have hz:szP (fW s):=by
   unfold fW zY
   exact xG (fD (bI _) oE) (xG (rJ _ aL3) (xG (rJ _ aSQ) (xG (rJ _ aKI) (xG (kJ _) (xG (fD (bI _) (fD (bI _) (fD (bI _) (fD (bI _) oE)))) (kJ _))))))
  have h5:=kM ⟨#[]⟩ (fW s) hz
  have l1:=kT pE 1 s.2.1 (fun _ _=>Nat.le_refl _)
  have l2:=kT opP 2 s.2.2.1 (fun _ _=>Nat.le_refl _)
  have l3:=kT lH 11 s.2.2.2.2.2.1 (fun a ha=>by have:=hkp a ha;unfold lH;rw[List.length_cons,jF];omega)
  have hn:(fW s).length≤220:=by
   unfold fW zY
   simp only[List.length_append,jF,List.length_cons,List.length_nil]
   omega
  rw[show (⟨#[]⟩:ByteArray).size=0 from rfl] at h5
  omega
 ·exact Nat.zero_le _
end Go.Proofs.YtdeobhdbmehpgaaGreat
