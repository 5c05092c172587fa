/- ReadPS: lemmas. No conditions. -/
import Derived.Test.YtlabadaccldkaaaGreatRead12
import Derived.Test.YtlabadaccldkaaaGreatRead13
import Derived.Test.YtlabadaccldkaaaGreatReadStS
import Derived.Test.YtlabadaccldkaaaGreatCe
import Derived.Test.YtlabadaccldkaaaGreatTPipe
namespace Go.Proofs.YtlabadaccldkaaaGreat
open Go.ChangeShapes Go.WideShapes Go.ChangeAt Go.RowKit Go.Deep
set_option linter.unusedVariables false
theorem aQ1 {x:bA} (hx:yD x):aL aB x≤100005:=by
 have h:=aMB hx
 have e1:nI aB x=0+(aL (.slice 88 aJ) x.2.1+(aL (.slice 90 aZ) x.2.2.1+(0+(0+(aL (.slice 94 aD) x.2.2.2.2.2.1+(aL (.slice 117 bC) x.2.2.2.2.2.2.1+(aL aA x.2.2.2.2.2.2.2.1+(aL aA x.2.2.2.2.2.2.2.2.1+(aL aA x.2.2.2.2.2.2.2.2.2.1+(aL aA x.2.2.2.2.2.2.2.2.2.2.1+(aL (.slice 117 bC) x.2.2.2.2.2.2.2.2.2.2.2.1+(0+0)))))))))))):=rfl
 have e2:aL aB x=1+(aL (.slice 88 aJ) x.2.1+(aL (.slice 90 aZ) x.2.2.1+(1+(1+(aL (.slice 94 aD) x.2.2.2.2.2.1+(aL (.slice 117 bC) x.2.2.2.2.2.2.1+(aL aA x.2.2.2.2.2.2.2.1+(aL aA x.2.2.2.2.2.2.2.2.1+(aL aA x.2.2.2.2.2.2.2.2.2.1+(aL aA x.2.2.2.2.2.2.2.2.2.2.1+(aL (.slice 117 bC) x.2.2.2.2.2.2.2.2.2.2.2.1+(1+1)))))))))))):=rfl
 omega
theorem aF4 {q:bK} (h:gM q=true):aL aE q≤2000:=by
 have hq:=aI7 h
 have h1:aL (.slice 97 aP) q.2≤201 * q.2.length:=by
  rw[bF];exact mJ _ 201 _ fun a ha=>by
   have h2:=nT (hq.2.2 a ha).2;have h3:=cG a.2;show 1+aL aA a.2≤201;omega
 have h2:=hq.2.1
 show 1+aL (.slice 97 aP) q.2≤2000
 omega
theorem aQ6 {x:dH} (hb:nB x=true) (hs:∀ a∈x.2.1,yD a):nI aH x≤1000000:=by
 obtain ⟨f1,_,_,fz,fe,l1,l2⟩:=aAK hb
 obtain ⟨_,_,q3,_⟩:=hY.1 hb
 have g1:aL aS x.1≤400 * x.1.length:=by
  show aL (.slice _ aM) x.1≤_
  rw[bF];exact mJ _ 400 _ fun a ha=>by
   have h2:=nT (f1 a ha).1;have h3:=nT (f1 a ha).2;have h4:=cG a.1;have h5:=cG a.2;show aL aA a.1+aL aA a.2≤400;omega
 have g2:aL (.slice 57 aB) x.2.1≤100005 * x.2.1.length:=by
  rw[bF];exact mJ _ 100005 _ fun a ha=>aQ1 (hs a ha)
 have hl:(tB x.2.2.1 x.2.2.2).length=x.2.2.1.length:=by unfold tB;rw[List.length_map,List.length_range]
 have g3:aL aC x.2.2.1≤2000 * x.2.2.1.length:=by
  show aL (.slice _ aE) x.2.2.1≤_
  rw[bF];exact mJ _ 2000 _ fun a ha=>by
   obtain ⟨i,hi,rfl⟩:=List.getElem_of_mem ha
   have h2:=(q3 i hi).1
   rw[bG hi] at h2
   exact aF4 h2
 have g4:aL aC x.2.2.2≤2000 * x.2.2.2.length:=by
  show aL (.slice _ aE) x.2.2.2≤_
  rw[bF];exact mJ _ 2000 _ fun a ha=>by
   obtain ⟨i,hi,rfl⟩:=List.getElem_of_mem ha
   have h2:=(q3 i (by omega)).2
   rw[bG hi] at h2
   exact aF4 h2
 have e:nI aH x=aL aS x.1+(aL (.slice 57 aB) x.2.1+(aL aC x.2.2.1+aL aC x.2.2.2)):=rfl
 omega
theorem aSU (s:ByteArray):(xG s).1=aFW∨nB (xG s).1=true∧∀ a∈(xG s).1.2.1,yD a:=by
 unfold xG
 split
 ·exact .inl rfl
 ·rename_i h
  right
  have he:jQ (xN (lW s 0)).1=s:=Classical.not_not.1 fun he=>h (.inr (.inr he))
  obtain ⟨h1,h2,_⟩:=aF5 he (fun hs=>h (.inr (.inl hs)))
  exact ⟨h1,fun a ha=>(h2 a ha).1⟩
theorem aMF (s:ByteArray) (hz:(s.size:Int)≤1048576):(nI aH (xG s).1:Int)≤1000000000:=by
 rcases aSU s with h|⟨h,h2⟩
 ·rw[h];exact (by decide:(((0:Nat):Int)≤1000000000))
 ·have:=aQ6 h h2;omega
end Go.Proofs.YtlabadaccldkaaaGreat
