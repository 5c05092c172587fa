/- What the cells of a value of the Go type Grads are. No program in sight. -/
import Derived.Test.YtahggdiafncdhaaCe
import Derived.Test.YtahggdiafncdhaaTGrads
namespace Go.Proofs.Ytahggdiafncdhaa
open Go.ChangeShapes Go.WideShapes Go.ChangeAt Go.RowKit Go.Deep
set_option linter.unusedVariables false
set_option linter.unusedSimpArgs false
theorem Grads_rd {w:World} {cs:Array Value} {d:Ty.D tGrads} (h:rd tGrads w cs.toList d) :
  ∃ p0 c0,cs = #[.slice p0 (List.length (d.1)) c0,.int .i64 (d.2.1),.bool (d.2.2)]∧SlRd (Ty.n tRow) (rd tRow w) w p0 (List.length (d.1)) c0 (d.1)∧(Lit.int .i64 (d.2.1)).wf=true:=by
 obtain ⟨_,_,hcs,⟨p0,n0,q0,rfl,s0⟩,⟨_,_,rfl,⟨rfl,w1⟩,rfl⟩⟩:=h
 obtain rfl:=s0.lens
 exact ⟨_,_,arr_of hcs,s0,w1⟩
theorem Grads_rep {w:World} {cs:Array Value} {d:Ty.D tGrads} {bl:List Nat} (h:rep tGrads w cs.toList d bl) :
  ∃ p0 c0 b0,cs = #[.slice p0 (List.length (d.1)) c0,.int .i64 (d.2.1),.bool (d.2.2)]∧bl=b0∧rep (.slice 92 tRow) w [.slice p0 (List.length (d.1)) c0] (d.1) b0∧(Lit.int .i64 (d.2.1)).wf=true:=by
 obtain ⟨_,_,_,_,hcs,rfl,r0,⟨_,_,_,_,rfl,rfl,⟨rfl,w1,rfl⟩,⟨rfl,rfl⟩⟩⟩:=h
 obtain ⟨p0,n0,q0,f0⟩:=rep_form r0
 subst f0
 obtain ⟨rfl,-⟩:=rep_len r0
 exact ⟨_,_,_,arr_of hcs,by simp,r0,w1⟩
theorem Grads_mk {w:World} {v0:Value} {x0:Ty.D (.slice 92 tRow)} {b0:List Nat} (r0:rep (.slice 92 tRow) w [v0] x0 b0) {x1:Int} (w1:(Lit.int .i64 x1).wf=true) {x2:Bool}:rep tGrads w [v0,.int .i64 x1,.bool x2] ((x0,(x1,x2)):Ty.D tGrads) (b0):=by
 have h:rep tGrads w [v0,.int .i64 x1,.bool x2] ((x0,(x1,x2)):Ty.D tGrads) (b0++([]++[])):=⟨[_],[_,_],b0,([]++[]),rfl,rfl,r0,⟨[_],[_],[],[],rfl,rfl,⟨rfl,w1,rfl⟩,⟨rfl,rfl⟩⟩⟩
 simpa using h
theorem Grads_at {w:World} {p:Option Addr} {len cap:Nat} {l:List (Ty.D tGrads)} (h:SlRd (Ty.n tGrads) (rd tGrads w) w p len cap l) (k:Nat) (hk:k<List.length l) (x:Ty.D tGrads) (hx:l[k]=x) :
  ∃ b off p0 c0,p=some ⟨b,off,none⟩∧b<w.heap.size∧w.cell? ⟨b,off+k * 3,none⟩=some (.slice p0 (List.length (x.1)) c0)∧w.cell? ⟨b,off+k * 3+1,none⟩=some (.int .i64 (x.2.1))∧w.cell? ⟨b,off+k * 3+2,none⟩=some (.bool (x.2.2))∧SlRd (Ty.n tRow) (rd tRow w) w p0 (List.length (x.1)) c0 (x.1)∧(Lit.int .i64 (x.2.1)).wf=true:=by
 subst hx
 obtain ⟨b,off,hp,hb,cs,hl,hc,hr⟩:=h.2.2.2.2 k hk
 obtain ⟨p0,c0,hcs,s0,w1⟩:=Grads_rd (cs:=cs.toArray) (by simpa using hr)
 obtain rfl:=congrArg Array.toList hcs
 exact ⟨b,off,_,_,hp,hb,by simpa [Ty.n] using hc 0 (by simp),by simpa [Ty.n] using hc 1 (by simp),by simpa [Ty.n] using hc 2 (by simp),s0,w1⟩
theorem Grads_rdmk {w:World} {d:Ty.D tGrads} {p0:Option Addr} {c0:Nat} (s0:SlRd (Ty.n tRow) (rd tRow w) w p0 (List.length (d.1)) c0 (d.1)) (w1:(Lit.int .i64 (d.2.1)).wf=true):rd tGrads w [.slice p0 (List.length (d.1)) c0,.int .i64 (d.2.1),.bool (d.2.2)] d:=⟨[_],[_,_],rfl,⟨p0,_,c0,rfl,s0⟩,⟨[_],[_],rfl,⟨rfl,w1⟩,rfl⟩⟩
end Go.Proofs.Ytahggdiafncdhaa
