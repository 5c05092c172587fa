/- UPath: lemmas. No conditions. -/
import Derived.Test.YtiihghfoeinbbaaGreatCe
namespace Go.Proofs.YtiihghfoeinbbaaGreat
open Go.ChangeShapes Go.WideShapes Go.ChangeAt Go.RowKit Go.Deep
set_option linter.unusedVariables false
set_option linter.unusedSimpArgs false
def aF5:Ty→List Bool→Ty
 | .bMC a _,false :: π=>aF5 a π
 | .bMC _ b,true :: π=>aF5 b π
 | t,_=>t
def bIH:(t:Ty)→(π:List Bool)→t.D→(aF5 t π).D
 | .bMC a _,false :: π,x=>bIH a π x.1
 | .bMC _ b,true :: π,x=>bIH b π x.2
 | .bMC _ _,[],x=>x
 | .int _,_,x=>x
 | .bool,_,x=>x
 | .str,_,x=>x
 | .slice _ _,_,x=>x
def aL8:(t:Ty)→(π:List Bool)→t.D→(aF5 t π).D→t.D
 | .bMC a _,false :: π,x,v=>(aL8 a π x.1 v,x.2)
 | .bMC _ b,true :: π,x,v=>(x.1,aL8 b π x.2 v)
 | .bMC _ _,[],_,v=>v
 | .int _,_,_,v=>v
 | .bool,_,_,v=>v
 | .str,_,_,v=>v
 | .slice _ _,_,_,v=>v
def aM3:Ty→List Bool→Nat
 | .bMC a _,false :: π=>aM3 a π
 | .bMC a b,true :: π=>a.n+aM3 b π
 | _,_=>0
def bLW (t:Ty) (π:List Bool) (w:World) (c:List Value) (d:t.D) (bl:List Nat):Prop :=
 ∃ c1 cu c2 b1 bu b2,c=c1++(cu++c2)∧c1.length=aM3 t π∧bl=b1++(bu++b2)∧Un (aF5 t π) w cu (bIH t π d) bu ∧
  ∀ w' cu' v',(∀ q,q∈b1∨q∈b2→w'.heap[q]?=w.heap[q]?)→Un (aF5 t π) w' cu' v' bu→Un t w' (c1++(cu'++c2)) (aL8 t π d v') bl
theorem aI6:(t:Ty)→(π:List Bool)→(w:World)→(c:List Value)→(d:t.D)→(bl:List Nat)→Un t w c d bl→bLW t π w c d bl
 | .bMC a b,false :: π,w,c,d,bl,h=>by
  obtain ⟨x1,x2,y1,y2,rfl,rfl,h1,h2⟩:=h
  obtain ⟨c1,cu,c2,b1,bu,b2,rfl,hl,rfl,hu,hk⟩:=aI6 a π w x1 d.1 y1 h1
  refine ⟨c1,cu,c2++x2,b1,bu,b2++y2,by simp,hl,by simp,hu,fun w' cu' v' hw hv=>?_⟩
  refine ⟨c1++(cu'++c2),x2,b1++(bu++b2),y2,by simp,rfl,hk w' cu' v' (fun q hq=>hw q ?_) hv,Un.keep _ _ _ _ (fun q hq=>hw q ?_) h2⟩
  ·rcases hq with hq|hq
   ·exact .inl hq
   ·exact .inr (by simp[hq])
  ·exact .inr (by simp[hq])
 | .bMC a b,true :: π,w,c,d,bl,h=>by
  obtain ⟨x1,x2,y1,y2,rfl,rfl,h1,h2⟩:=h
  obtain ⟨c1,cu,c2,b1,bu,b2,rfl,hl,rfl,hu,hk⟩:=aI6 b π w x2 d.2 y2 h2
  refine ⟨x1++c1,cu,c2,y1++b1,bu,b2,by simp,by rw[List.length_append,Un.length h1,hl];rfl,by simp,hu,fun w' cu' v' hw hv=>?_⟩
  refine ⟨x1,c1++(cu'++c2),y1,b1++(bu++b2),by simp,by simp,Un.keep _ _ _ _ (fun q hq=>hw q ?_) h1,hk w' cu' v' (fun q hq=>hw q ?_) hv⟩
  ·exact .inl (by simp[hq])
  ·rcases hq with hq|hq
   ·exact .inl (by simp[hq])
   ·exact .inr hq
 | .bMC a b,[],w,c,d,bl,h=>⟨[],c,[],[],bl,[],by simp,rfl,by simp,h,fun w' cu' v' _ hv=>by rw[List.nil_append,List.append_nil];exact hv⟩
 | .int k,π,w,c,d,bl,h=>⟨[],c,[],[],bl,[],by simp,rfl,by simp,h,fun w' cu' v' _ hv=>by rw[List.nil_append,List.append_nil];exact hv⟩
 | .bool,π,w,c,d,bl,h=>⟨[],c,[],[],bl,[],by simp,rfl,by simp,h,fun w' cu' v' _ hv=>by rw[List.nil_append,List.append_nil];exact hv⟩
 | .str,π,w,c,d,bl,h=>⟨[],c,[],[],bl,[],by simp,rfl,by simp,h,fun w' cu' v' _ hv=>by rw[List.nil_append,List.append_nil];exact hv⟩
 | .slice e t,π,w,c,d,bl,h=>⟨[],c,[],[],bl,[],by simp,rfl,by simp,h,fun w' cu' v' _ hv=>by rw[List.nil_append,List.append_nil];exact hv⟩
theorem aO6 {b1 bu b2:List Nat} (h:(b1++(bu++b2)).Nodup):bu.Nodup∧∀ q,q∈b1∨q∈b2→q ∉ bu:=by
 simp only[List.nodup_append,List.mem_append] at h
 obtain ⟨h1,⟨h2,h3,h4⟩,h5⟩:=h
 exact ⟨h2,fun q hq hb=>hq.elim (fun h=>h5 q h q (.inl hb) rfl) (fun h=>h4 q hb q h rfl)⟩
section
variable {t:Ty} {e:TypeId} {w:World} {v:Value} {M:List t.D} {bl:List Nat} {x:t.D} {k:Nat}
theorem uL (h:Un (.slice e t) w [v] (M.set k x) bl) (hnd:bl.Nodup) (hk:k<M.length) (π:List Bool) :
  ∃ b cap cu bu,v = .slice (some ⟨b,0,none⟩) M.length cap∧b∈bl∧(∀ j,w.frozen? ⟨b,j,none⟩=false)∧(∀ j (hj:j<cu.length),w.cell? ⟨b,k * t.n+(aM3 t π+j),none⟩=some cu[j]) ∧
   Un (aF5 t π) w cu (bIH t π x) bu∧bu.Nodup∧(∀ q∈bu,q∈bl) ∧
   (∀ w' v',(∀ q,q ∉ bu→q<w.heap.size→w'.heap[q]?=w.heap[q]?)→Un (aF5 t π) w' cu v' bu→Un (.slice e t) w' [v] (M.set k (aL8 t π x v')) bl) ∧
   (∀ u v',cu.length=1→Un (aF5 t π) w [u] v' bu→Un (.slice e t) (w.setCell ⟨b,k * t.n+aM3 t π,none⟩ u) [v] (M.set k (aL8 t π x v')) bl):=by
 have hk':k<(M.set k x).length:=by rw[List.length_set];exact hk
 obtain ⟨b,cap,c,bk,hv,hb,hz,hfz,hcl,hc,hR,hsub,hnb,hno,hU,hV⟩:=aR5 h hnd k hk'
 rw[List.getElem_set_self] at hR
 have hlt:=aCM _ _ _ _ _ hR
 obtain ⟨c1,cu,c2,b1,bu,b2,rfl,hl,rfl,hu,hp⟩:=aI6 t π w c x bk hR
 obtain ⟨n1,n2⟩:=aO6 hnb
 refine ⟨b,cap,cu,bu,by rw[hv,List.length_set],hb,hfz,fun j hj=>?_,hu,n1,fun q hq=>hsub q (by simp[hq]),fun w' v' hw hv'=>?_,fun u v' h1 hv'=>?_⟩
 ·have h2:=hc (aM3 t π+j) (by simp only[List.length_append];omega)
  rw[h2]
  congr 1
  rw[List.getElem_append_right (by omega),List.getElem_append_left (by omega)]
  congr 1;omega
 ·have h3:=hU w' _ (fun q hq hz=>hw q (fun hm=>hq (by simp[hm])) hz) (hp w' cu v' (fun q hq=>hw q (n2 q hq) (hlt q (by rcases hq with hq|hq <;> simp[hq]))) hv')
  rwa [List.set_set] at h3
 ·obtain ⟨z,rfl⟩:∃ z,cu=[z]:=by
   match cu,h1 with
   | [z],_=>exact ⟨z,rfl⟩
  have h3:=hV (aM3 t π) u _ (by simp only[List.length_append,List.length_cons];omega) (by
   have h4:=hp w [u] v' (fun _ _=>rfl) hv'
   rw[List.set_append_right _ _ (by omega),hl,Nat.sub_self]
   exact h4)
  rwa [List.set_set] at h3
end
section
variable {t:Ty} {w:World} {c:List Value} {d:t.D} {bl:List Nat}
theorem bLV (h:Un t w c d bl):rd t w c d:=eR.rd (fun b hb=>aCM _ _ _ _ _ h b hb) (Un.rdg _ _ _ _ h)
theorem aGS (h:Un t w c d bl) (hnd:bl.Nodup) (π:List Bool):∃ bu,Un (aF5 t π) w ((c.drop (aM3 t π)).take (aF5 t π).n) (bIH t π d) bu∧bu.Nodup∧(∀ q∈bu,q∈bl) ∧
  ∀ w' v',(∀ q,q ∉ bu→q<w.heap.size→w'.heap[q]?=w.heap[q]?)→Un (aF5 t π) w' ((c.drop (aM3 t π)).take (aF5 t π).n) v' bu→Un t w' c (aL8 t π d v') bl:=by
 have hlt:=aCM _ _ _ _ _ h
 obtain ⟨c1,cu,c2,b1,bu,b2,rfl,hl,rfl,hu,hp⟩:=aI6 t π w c d bl h
 obtain ⟨n1,n2⟩:=aO6 hnd
 have e:((c1++(cu++c2)).drop (aM3 t π)).take (aF5 t π).n=cu:=by
  rw[← hl,List.drop_left,← Un.length hu,List.take_left]
 rw[e]
 exact ⟨bu,hu,n1,fun q hq=>by simp[hq],fun w' v' hw hv=>hp w' cu v' (fun q hq=>hw q (n2 q hq) (hlt q (by rcases hq with hq|hq <;> simp[hq]))) hv⟩
end
end Go.Proofs.YtiihghfoeinbbaaGreat
