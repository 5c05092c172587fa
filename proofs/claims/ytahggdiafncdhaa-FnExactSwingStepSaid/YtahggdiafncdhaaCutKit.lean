/- A new block: its cells are known and may be written. -/
import Derived.Test.YtahggdiafncdhaaCe
namespace Go.Proofs.Ytahggdiafncdhaa
open Go.ChangeShapes Go.WideShapes Go.ChangeAt Go.RowKit
theorem new_cell {w:World} {c:Array Value} {T:TypeId} {n k:Nat} {v:Value} (h:n=w.heap.size) (hv:c[k]?=some v):(w.alloc (.cells c T)).cell? ⟨n,k,none⟩=some v:=by
 subst h;unfold World.cell?
 rw[show (w.alloc (.cells c T)).heap[(⟨w.heap.size,k,none⟩:Addr).block]?=some (.cells c T) from Go.heap_alloc_new w _]
 exact hv
theorem new_frozen {w:World} {c:Array Value} {T:TypeId} {n k:Nat} (h:n=w.heap.size):(w.alloc (.cells c T)).frozen? ⟨n,k,none⟩=false:=by
 subst h;unfold World.frozen?
 rw[show (w.alloc (.cells c T)).heap[(⟨w.heap.size,k,none⟩:Addr).block]?=some (.cells c T) from Go.heap_alloc_new w _]
 rfl
end Go.Proofs.Ytahggdiafncdhaa
