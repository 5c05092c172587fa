/- UPath: lemmas. No conditions. -/
import Derived.Test.YtlabadaccldkaaaGreatCe
namespace Go.Proofs.YtlabadaccldkaaaGreat
open Go.ChangeShapes Go.WideShapes Go.ChangeAt Go.RowKit Go.Deep
set_option linter.unusedVariables false
set_option linter.unusedSimpArgs false
def yG:Ty→List Bool→Ty
 | .aWS a _,false :: π=>yG a π
 | .aWS _ b,true :: π=>yG b π
 | t,_=>t
def aT5:(t:Ty)→(π:List Bool)→t.D→(yG t π).D
 | .aWS a _,false :: π,x=>aT5 a π x.1
 | .aWS _ b,true :: π,x=>aT5 b π x.2
 | .aWS _ _,[],x=>x
 | .int _,_,x=>x
 | .bool,_,x=>x
 | .str,_,x=>x
 | .slice _ _,_,x=>x
def rY:(t:Ty)→(π:List Bool)→t.D→(yG t π).D→t.D
 | .aWS a _,false :: π,x,v=>(rY a π x.1 v,x.2)
 | .aWS _ b,true :: π,x,v=>(x.1,rY b π x.2 v)
 | .aWS _ _,[],_,v=>v
 | .int _,_,_,v=>v
 | .bool,_,_,v=>v
 | .str,_,_,v=>v
 | .slice _ _,_,_,v=>v
def aE6:Ty→List Bool→Nat
 | .aWS a _,false :: π=>aE6 a π
 | .aWS a b,true :: π=>a.n+aE6 b π
 | _,_=>0
def aWL (t:Ty) (π:List Bool) (w:World) (c:List Value) (d:t.D) (bl:List Nat):Prop :=
 ∃ c1 cu c2 b1 bu b2,c=c1++(cu++c2)∧c1.length=aE6 t π∧bl=b1++(bu++b2)∧Un (yG t π) w cu (aT5 t π d) bu ∧
  ∀ w' cu' v',(∀ q,q∈b1∨q∈b2→w'.heap[q]?=w.heap[q]?)→Un (yG t π) w' cu' v' bu→Un t w' (c1++(cu'++c2)) (rY t π d v') bl
theorem aBU:(t:Ty)→(π:List Bool)→(w:World)→(c:List Value)→(d:t.D)→(bl:List Nat)→Un t w c d bl→aWL t π w c d bl
 | .aWS a b,false :: π,w,c,d,bl,h=>by
  obtain ⟨x1,x2,y1,y2,rfl,rfl,h1,h2⟩:=h
  obtain ⟨c1,cu,c2,b1,bu,b2,rfl,hl,rfl,hu,hk⟩:=aBU a π w x1 d.1 y1 h1
  refine ⟨c1,cu,c2++x2,b1,bu,b2++y2,by simp,hl,by simp,hu,fun w' cu' v' hw hv=>?_⟩
  refine ⟨c1++(cu'++c2),x2,b1++(bu++b2),y2,by simp,rfl,hk w' cu' v' (fun q hq=>hw q ?_) hv,Un.keep _ _ _ _ (fun q hq=>hw q ?_) h2⟩
  ·rcases hq with hq|hq
   ·exact .inl hq
   ·exact .inr (by simp[hq])
  ·exact .inr (by simp[hq])
 | .aWS a b,true :: π,w,c,d,bl,h=>by
  obtain ⟨x1,x2,y1,y2,rfl,rfl,h1,h2⟩:=h
  obtain ⟨c1,cu,c2,b1,bu,b2,rfl,hl,rfl,hu,hk⟩:=aBU b π w x2 d.2 y2 h2
  refine ⟨x1++c1,cu,c2,y1++b1,bu,b2,by simp,by rw[List.length_append,Un.length h1,hl];rfl,by simp,hu,fun w' cu' v' hw hv=>?_⟩
  refine ⟨x1,c1++(cu'++c2),y1,b1++(bu++b2),by simp,by simp,Un.keep _ _ _ _ (fun q hq=>hw q ?_) h1,hk w' cu' v' (fun q hq=>hw q ?_) hv⟩
  ·exact .inl (by simp[hq])
  ·rcases hq with hq|hq
   ·exact .inl (by simp[hq])
   ·exact .inr hq
 | .aWS a b,[],w,c,d,bl,h=>⟨[],c,[],[],bl,[],by simp,rfl,by simp,h,fun w' cu' v' _ hv=>by rw[List.nil_append,List.append_nil];exact hv⟩
 | .int k,π,w,c,d,bl,h=>⟨[],c,[],[],bl,[],by simp,rfl,by simp,h,fun w' cu' v' _ hv=>by rw[List.nil_append,List.append_nil];exact hv⟩
 | .bool,π,w,c,d,bl,h=>⟨[],c,[],[],bl,[],by simp,rfl,by simp,h,fun w' cu' v' _ hv=>by rw[List.nil_append,List.append_nil];exact hv⟩
 | .str,π,w,c,d,bl,h=>⟨[],c,[],[],bl,[],by simp,rfl,by simp,h,fun w' cu' v' _ hv=>by rw[List.nil_append,List.append_nil];exact hv⟩
 | .slice e t,π,w,c,d,bl,h=>⟨[],c,[],[],bl,[],by simp,rfl,by simp,h,fun w' cu' v' _ hv=>by rw[List.nil_append,List.append_nil];exact hv⟩
theorem aFB {b1 bu b2:List Nat} (h:(b1++(bu++b2)).Nodup):bu.Nodup∧∀ q,q∈b1∨q∈b2→q ∉ bu:=by
 simp only[List.nodup_append,List.mem_append] at h
 obtain ⟨h1,⟨h2,h3,h4⟩,h5⟩:=h
 exact ⟨h2,fun q hq hb=>hq.elim (fun h=>h5 q h q (.inl hb) rfl) (fun h=>h4 q hb q h rfl)⟩
section
variable {t:Ty} {e:TypeId} {w:World} {v:Value} {M:List t.D} {bl:List Nat} {x:t.D} {k:Nat}
theorem cS (h:Un (.slice e t) w [v] (M.set k x) bl) (hnd:bl.Nodup) (hk:k<M.length) (π:List Bool) :
  ∃ b cap cu bu,v = .slice (some ⟨b,0,none⟩) M.length cap∧b∈bl∧(∀ j,w.frozen? ⟨b,j,none⟩=false)∧(∀ j (hj:j<cu.length),w.cell? ⟨b,k * t.n+(aE6 t π+j),none⟩=some cu[j]) ∧
   Un (yG t π) w cu (aT5 t π x) bu∧bu.Nodup∧(∀ q∈bu,q∈bl) ∧
   (∀ w' v',(∀ q,q ∉ bu→q<w.heap.size→w'.heap[q]?=w.heap[q]?)→Un (yG t π) w' cu v' bu→Un (.slice e t) w' [v] (M.set k (rY t π x v')) bl) ∧
   (∀ u v',cu.length=1→Un (yG t π) w [u] v' bu→Un (.slice e t) (w.setCell ⟨b,k * t.n+aE6 t π,none⟩ u) [v] (M.set k (rY t π x v')) bl):=by
 have hk':k<(M.set k x).length:=by rw[List.length_set];exact hk
 obtain ⟨b,cap,c,bk,hv,hb,hz,hfz,hcl,hc,hR,hsub,hnb,hno,hU,hV⟩:=aI4 h hnd k hk'
 rw[List.getElem_set_self] at hR
 have hlt:=nP _ _ _ _ _ hR
 obtain ⟨c1,cu,c2,b1,bu,b2,rfl,hl,rfl,hu,hp⟩:=aBU t π w c x bk hR
 obtain ⟨n1,n2⟩:=aFB hnb
 refine ⟨b,cap,cu,bu,by rw[hv,List.length_set],hb,hfz,fun j hj=>?_,hu,n1,fun q hq=>hsub q (by simp[hq]),fun w' v' hw hv'=>?_,fun u v' h1 hv'=>?_⟩
 ·have h2:=hc (aE6 t π+j) (by simp only[List.length_append];omega)
  rw[h2]
  congr 1
  rw[List.getElem_append_right (by omega),List.getElem_append_left (by omega)]
  congr 1;omega
 ·have h3:=hU w' _ (fun q hq hz=>hw q (fun hm=>hq (by simp[hm])) hz) (hp w' cu v' (fun q hq=>hw q (n2 q hq) (hlt q (by rcases hq with hq|hq <;> simp[hq]))) hv')
  rwa [List.set_set] at h3
 ·obtain ⟨z,rfl⟩:∃ z,cu=[z]:=by
   match cu,h1 with
   | [z],_=>exact ⟨z,rfl⟩
  have h3:=hV (aE6 t π) u _ (by simp only[List.length_append,List.length_cons];omega) (by
   have h4:=hp w [u] v' (fun _ _=>rfl) hv'
   rw[List.set_append_right _ _ (by omega),hl,Nat.sub_self]
   exact h4)
  rwa [List.set_set] at h3
end
section
variable {t:Ty} {w:World} {c:List Value} {d:t.D} {bl:List Nat}
theorem aWP (h:Un t w c d bl):rd t w c d:=eC.rd (fun b hb=>nP _ _ _ _ _ h b hb) (Un.rdg _ _ _ _ h)
theorem aHG (h:Un t w c d bl) (hnd:bl.Nodup) (π:List Bool):∃ bu,Un (yG t π) w ((c.drop (aE6 t π)).take (yG t π).n) (aT5 t π d) bu∧bu.Nodup∧(∀ q∈bu,q∈bl) ∧
  ∀ w' v',(∀ q,q ∉ bu→q<w.heap.size→w'.heap[q]?=w.heap[q]?)→Un (yG t π) w' ((c.drop (aE6 t π)).take (yG t π).n) v' bu→Un t w' c (rY t π d v') bl:=by
 have hlt:=nP _ _ _ _ _ h
 obtain ⟨c1,cu,c2,b1,bu,b2,rfl,hl,rfl,hu,hp⟩:=aBU t π w c d bl h
 obtain ⟨n1,n2⟩:=aFB hnd
 have e:((c1++(cu++c2)).drop (aE6 t π)).take (yG t π).n=cu:=by
  rw[← hl,List.drop_left,← Un.length hu,List.take_left]
 rw[e]
 exact ⟨bu,hu,n1,fun q hq=>by simp[hq],fun w' v' hw hv=>hp w' cu v' (fun q hq=>hw q (n2 q hq) (hlt q (by rcases hq with hq|hq <;> simp[hq]))) hv⟩
end
end Go.Proofs.YtlabadaccldkaaaGreat
