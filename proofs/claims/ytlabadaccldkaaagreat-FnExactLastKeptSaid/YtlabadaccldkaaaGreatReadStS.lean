/- ReadStS: lemmas. No conditions. -/
import Derived.Test.YtlabadaccldkaaaGreatRead9
import Derived.Test.YtlabadaccldkaaaGreatCe
import Derived.Test.YtlabadaccldkaaaGreatTStage
namespace Go.Proofs.YtlabadaccldkaaaGreat
open Go.ChangeShapes Go.WideShapes Go.ChangeAt Go.RowKit Go.Deep
set_option linter.unusedVariables false
theorem mJ {α:Type} (f:α→Nat) (B:Nat):(l:List α)→(∀ a∈l,f a≤B)→(l.map f).sum≤B * l.length
 | [],_=>Nat.le_refl _
 | x :: l,h=>by
  have h1:=mJ f B l (fun a ha=>h a (List.mem_cons_of_mem _ ha))
  have h2:=h x List.mem_cons_self
  rw[List.map_cons,List.sum_cons,List.length_cons,Nat.mul_succ];omega
theorem nT {v:List Int} (h:gV v=true):v.length≤200:=by
 unfold gV at h;rw[Bool.and_eq_true,decide_eq_true_eq] at h;exact h.1
theorem aCO {e:TypeId} {l:eT} (hl:l.length≤20) (h:∀ v∈l,gV v=true):aL (.slice e bC) l≤4000:=by
 have h1:=mJ (aL bC) 200 l (fun v hv=>by have h2:=nT (h v hv);have h3:=cG v;show aL aA v≤200;omega)
 rw[bF];omega
theorem aMB {x:bA} (hx:yD x):nI aB x≤100000:=by
 obtain ⟨f0,f1,f2,f3,f4,f5,f6,f7,f8,f9⟩:=aE7 hx
 have hm:=(cB _).1 ((dA x).1 hx.1.1).1
 have hl:=hx.1
 have h1:aL (.slice 88 aJ) x.2.1≤2 * x.2.1.length:=by rw[bF];exact mJ _ 2 _ fun a _=>Nat.le_refl 2
 have h2:aL (.slice 90 aZ) x.2.2.1≤203 * x.2.2.1.length:=by
  rw[bF];exact mJ _ 203 _ fun a ha=>by
   have h2:=nT (f2 a ha).2;have h3:=cG a.2.2.2;show 1+(1+(1+aL aA a.2.2.2))≤203;omega
 have h3:aL (.slice 94 aD) x.2.2.2.2.2.1≤4001 * x.2.2.2.2.2.1.length:=by
  rw[bF];exact mJ _ 4001 _ fun a ha=>by
   have h3:=f3 a ha;have h4:=aCO (e:=117) h3.2.1 h3.2.2;show 1+aL (.slice 117 bC) a.2≤4001;omega
 have h4:=aCO (e:=117) f4.1 f4.2
 have h5:=aCO (e:=117) f9.1 f9.2
 have a1:=nT f5;have a2:=nT f6;have a3:=nT f7;have a4:=nT f8
 have c1:=cG x.2.2.2.2.2.2.2.1;have c2:=cG x.2.2.2.2.2.2.2.2.1;have c3:=cG x.2.2.2.2.2.2.2.2.2.1;have c4:=cG x.2.2.2.2.2.2.2.2.2.2.1
 have e:nI aB x=0+(aL (.slice 88 aJ) x.2.1+(aL (.slice 90 aZ) x.2.2.1+(0+(0+(aL (.slice 94 aD) x.2.2.2.2.2.1+(aL (.slice 117 bC) x.2.2.2.2.2.2.1+(aL aA x.2.2.2.2.2.2.2.1+(aL aA x.2.2.2.2.2.2.2.2.1+(aL aA x.2.2.2.2.2.2.2.2.2.1+(aL aA x.2.2.2.2.2.2.2.2.2.2.1+(aL (.slice 117 bC) x.2.2.2.2.2.2.2.2.2.2.2.1+(0+0)))))))))))):=rfl
 obtain ⟨_,l2,l3,l4⟩:=hl
 omega
end Go.Proofs.YtlabadaccldkaaaGreat
