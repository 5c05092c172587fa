/- New boxes beside calls: words for printed texts. No program in sight. -/
import Derived.Test.YtahggdiafncdhaaCutKit
import Derived.Test.YtahggdiafncdhaaCe
namespace Go.Proofs.Ytahggdiafncdhaa
open Go.ChangeShapes Go.WideShapes Go.ChangeAt Go.RowKit Go.Deep
set_option linter.unusedVariables false
/-- A block whose cells are known and may be written. -/
def BX (b:Nat) (c:List Value) (w:World):Prop:=b<w.heap.size∧(∀ j x,c[j]?=some x→w.cell? ⟨b,j,none⟩=some x)∧∀ j,w.frozen? ⟨b,j,none⟩=false
section
variable {P w w':World} {b:Nat} {c c':List Value} {T T':TypeId} {B:Nat}
theorem BX.keep (h:BX b c w) (hk:w'.heap[b]?=w.heap[b]?) (hs:w.heap.size≤w'.heap.size):BX b c w' :=
 ⟨Nat.lt_of_lt_of_le h.1 hs,fun j x hx=>(World.cell?_of_block hk).trans (h.2.1 j x hx),fun j=>(World.frozen?_of_block hk).trans (h.2.2 j)⟩
theorem BX.below (h:BX b c w) (hb:Below B w w') (hB:w.heap.size≤B):BX b c w':=h.keep (hb.block b (Nat.lt_of_lt_of_le h.1 hB)) hb.size
theorem BX.new (P:World) (c:List Value) (T:TypeId):BX P.heap.size c (P.alloc (.cells c.toArray T)) :=
 ⟨by simp,fun j x hx=>new_cell rfl (by simpa using hx),fun j=>new_frozen rfl⟩
theorem BX.alloc (h:BX b c w) (o:Obj):BX b c (w.alloc o):=h.keep (Below.heap_alloc _ _ _ h.1) (by simp)
theorem bx_a (h:Below B (P.alloc (.cells c.toArray T)) w) (hB:(P.alloc (.cells c.toArray T)).heap.size≤B):BX P.heap.size c w:=(BX.new P c T).below h hB
theorem bx_ad (h:Below B (P.alloc (.cells c.toArray T)).drew w) (hB:(P.alloc (.cells c.toArray T)).heap.size≤B):BX P.heap.size c w:=BX.below (w:=(P.alloc (.cells c.toArray T)).drew) (BX.new P c T) h hB
theorem bx_2 (h:Below B ((P.alloc (.cells c.toArray T)).alloc (.cells c'.toArray T')) w) (hB:((P.alloc (.cells c.toArray T)).alloc (.cells c'.toArray T')).heap.size≤B):BX P.heap.size c w∧BX (P.heap.size+1) c' w :=
 ⟨((BX.new P c T).alloc _).below h hB,by have:=(BX.new (P.alloc (.cells c.toArray T)) c' T').below h hB;simpa using this⟩
theorem bx_2d (h:Below B ((P.alloc (.cells c.toArray T)).alloc (.cells c'.toArray T')).drew w) (hB:((P.alloc (.cells c.toArray T)).alloc (.cells c'.toArray T')).heap.size≤B):BX P.heap.size c w∧BX (P.heap.size+1) c' w :=
 ⟨BX.below (w:=((P.alloc (.cells c.toArray T)).alloc (.cells c'.toArray T')).drew) ((BX.new P c T).alloc _) h hB,by have:=BX.below (w:=((P.alloc (.cells c.toArray T)).alloc (.cells c'.toArray T')).drew) (BX.new (P.alloc (.cells c.toArray T)) c' T') h hB;simpa using this⟩
theorem BX.c1 {z:Value} (h:BX b [z] w):w.cell? ⟨b,0,none⟩=some z∧w.frozen? ⟨b,0,none⟩=false∧b<w.heap.size:=⟨h.2.1 0 z rfl,h.2.2 0,h.1⟩
theorem BX.c2 {z y:Value} (h:BX b [z,y] w):w.cell? ⟨b,0,none⟩=some z∧w.cell? ⟨b,1,none⟩=some y∧w.frozen? ⟨b,0,none⟩=false∧w.frozen? ⟨b,1,none⟩=false∧b<w.heap.size:=⟨h.2.1 0 z rfl,h.2.1 1 y rfl,h.2.2 0,h.2.2 1,h.1⟩
end
section
variable {w:World} {a p:Addr} {v x:Value} {o:Obj} {c:Array Value} {T:TypeId} {n k:Nat}
theorem cell_set_same (h:(w.cell? a).isSome=true):(w.setCell a v).cell? a=some v:=by
 obtain ⟨u,hu⟩:=Option.isSome_iff_exists.1 h
 exact World.cell?_setCell_same _ _ _ hu
theorem isS_of (h:w.cell? a=some x):(w.cell? a).isSome=true:=by rw[h];rfl
theorem isS_set (h:(w.cell? a).isSome=true):((w.setCell p v).cell? a).isSome=true:=by
 obtain ⟨u,hu⟩:=Option.isSome_iff_exists.1 h
 by_cases hpa:p=a
 ·subst hpa;exact isS_of (World.cell?_setCell_same _ _ _ hu)
 ·rw[World.cell?_setCell_other _ _ _ _ hpa];exact h
theorem isS_alloc (hb:a.block<w.heap.size) (h:(w.cell? a).isSome=true):((w.alloc o).cell? a).isSome=true:=by rw[alloc_cell hb];exact h
theorem isS_new (h:n=w.heap.size) (hk:k<c.size):((w.alloc (.cells c T)).cell? ⟨n,k,none⟩).isSome=true:=isS_of (new_cell h (Array.getElem?_eq_getElem hk))
end
theorem FrR.setx {t:Ty} {lo hi:Nat} {w:World} {cs:List Value} {d:t.D} (h:FrR t lo hi w cs d) {a:Addr} (ha:a.block<lo∨hi≤a.block) (v:Value):FrR t lo hi (w.setCell a v) cs d:=h.set1 ha v
end Go.Proofs.Ytahggdiafncdhaa
