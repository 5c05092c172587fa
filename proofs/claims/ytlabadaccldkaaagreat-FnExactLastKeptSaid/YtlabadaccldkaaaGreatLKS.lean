/- LKS: lemmas. No conditions. -/
import Derived.Test.YtlabadaccldkaaaGreatLKept
import Derived.Test.YtlabadaccldkaaaGreatTString
namespace Go.Proofs.YtlabadaccldkaaaGreat
set_option linter.unusedVariables false
theorem aND (l:List ByteArray) (hz:((zU l:Nat):Int)≤1048576):(l.length≤1048576∧∀ s∈l,s.size≤100000000)∧(l.length≤1048576∧∀ s∈l,s.size≤100000000):=by
 have h1:=rI l
 have h:l.length≤1048576∧∀ s∈l,s.size≤100000000:=⟨by omega,fun s hs=>by have:=aJT s hs;omega⟩
 exact ⟨h,h⟩
theorem aLY (l:List ByteArray) (hz:((zU l:Nat):Int)≤1048576):(nI aH (qD l).1:Int)≤1000000000:=by
 unfold qD
 split
 ·exact (by decide:(((0:Nat):Int)≤1000000000))
 ·rename_i h
  have hl:l.length - 1<l.length:=by omega
  rw[bG hl]
  exact aMF _ (by have:=aJT l[l.length - 1] (List.getElem_mem hl);omega)
end Go.Proofs.YtlabadaccldkaaaGreat
