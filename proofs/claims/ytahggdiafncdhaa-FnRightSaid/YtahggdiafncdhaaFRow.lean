/- What the cells of a value of the Go type Row are. No program in sight. -/
import Derived.Test.YtahggdiafncdhaaCe
import Derived.Test.YtahggdiafncdhaaTRow
namespace Go.Proofs.Ytahggdiafncdhaa
open Go.ChangeShapes Go.WideShapes Go.ChangeAt Go.RowKit Go.Deep
set_option linter.unusedVariables false
set_option linter.unusedSimpArgs false
theorem Row_rd {w:World} {cs:Array Value} {d:Ty.D tRow} (h:rd tRow w cs.toList d) :
  ∃ p0 c0,cs = #[.slice p0 (List.length (d)) c0]∧SlRd (Ty.n tInt) (rd tInt w) w p0 (List.length (d)) c0 (d):=by
 obtain ⟨p0,n0,q0,hcs,s0⟩:=h
 obtain rfl:=s0.lens
 exact ⟨_,_,arr_of hcs,s0⟩
theorem Row_rep {w:World} {cs:Array Value} {d:Ty.D tRow} {bl:List Nat} (h:rep tRow w cs.toList d bl) :
  ∃ p0 c0 b0,cs = #[.slice p0 (List.length (d)) c0]∧bl=b0∧rep tInts w [.slice p0 (List.length (d)) c0] (d) b0:=by
 have r0:=h
 obtain ⟨p0,n0,q0,f0⟩:=rep_form r0
 rw[f0] at r0
 obtain ⟨rfl,-⟩:=rep_len r0
 have hcs:=f0
 exact ⟨_,_,_,arr_of hcs,by simp,r0⟩
theorem Row_mk {w:World} {v0:Value} {x0:Ty.D tInts} {b0:List Nat} (r0:rep tInts w [v0] x0 b0):rep tRow w [v0] (x0:Ty.D tRow) (b0):=by
 have h:rep tRow w [v0] (x0:Ty.D tRow) b0:=r0
 exact h
theorem Row_at {w:World} {p:Option Addr} {len cap:Nat} {l:List (Ty.D tRow)} (h:SlRd (Ty.n tRow) (rd tRow w) w p len cap l) (k:Nat) (hk:k<List.length l) (x:Ty.D tRow) (hx:l[k]=x) :
  ∃ b off p0 c0,p=some ⟨b,off,none⟩∧b<w.heap.size∧w.cell? ⟨b,off+k,none⟩=some (.slice p0 (List.length (x)) c0)∧SlRd (Ty.n tInt) (rd tInt w) w p0 (List.length (x)) c0 (x):=by
 subst hx
 obtain ⟨b,off,hp,hb,cs,hl,hc,hr⟩:=h.2.2.2.2 k hk
 obtain ⟨p0,c0,hcs,s0⟩:=Row_rd (cs:=cs.toArray) (by simpa using hr)
 obtain rfl:=congrArg Array.toList hcs
 exact ⟨b,off,_,_,hp,hb,by simpa [Ty.n] using hc 0 (by simp),s0⟩
theorem Row_rdmk {w:World} {d:Ty.D tRow} {p0:Option Addr} {c0:Nat} (s0:SlRd (Ty.n tInt) (rd tInt w) w p0 (List.length (d)) c0 (d)):rd tRow w [.slice p0 (List.length (d)) c0] d:=⟨p0,_,c0,rfl,s0⟩
end Go.Proofs.Ytahggdiafncdhaa
