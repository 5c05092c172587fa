/- What a call has handed back, its blocks named. No program in sight. -/
import Derived.Test.YtahggdiafncdhaaCe
namespace Go.Proofs.Ytahggdiafncdhaa
open Go.ChangeShapes Go.WideShapes Go.ChangeAt Go.RowKit Go.Deep
set_option linter.unusedVariables false
/-- Met once,in the blocks bl,which lie from lo to hi. -/
def FrU (t:Ty) (bl:List Nat) (lo hi:Nat) (w:World) (cs:List Value) (d:t.D):Prop :=
 Un t w cs d bl∧bl.Nodup∧(∀ b∈bl,lo≤b∧b<hi)∧hi≤w.heap.size
section
variable {t:Ty} {bl bl':List Nat} {lo hi lo' hi':Nat} {w w':World} {cs:List Value} {d:t.D}
theorem FrU.of (h:Un t w cs d bl) (hn:bl.Nodup) (hb:∀ b∈bl,lo≤b∧b<hi) (hz:hi≤w.heap.size):FrU t bl lo hi w cs d:=⟨h,hn,hb,hz⟩
theorem FrU.toA (h:FrU t bl lo hi w cs d):FrA t lo hi w cs d:=⟨bl,h⟩
theorem FrU.rd (h:FrU t bl lo hi w cs d):rd t w cs d:=h.toA.rd
theorem FrU.hi_le (h:FrU t bl lo hi w cs d):hi≤w.heap.size:=h.2.2.2
theorem FrU.keep (h:FrU t bl lo hi w cs d) (hw:∀ b,lo≤b→b<hi→w'.heap[b]?=w.heap[b]?) (hs:w.heap.size≤w'.heap.size):FrU t bl lo hi w' cs d:=by
 obtain ⟨h,hn,hb,hz⟩:=h
 exact ⟨Un.keep _ _ _ _ (fun b hb'=>hw b (hb b hb').1 (hb b hb').2) h,hn,hb,by omega⟩
theorem FrU.below {B:Nat} (h:FrU t bl lo hi w cs d) (hw:Below B w w') (hB:hi≤B):FrU t bl lo hi w' cs d:=h.keep (fun b _ h2=>hw.block b (by omega)) hw.size
theorem FrU.alloc (h:FrU t bl lo hi w cs d) (o:Obj):FrU t bl lo hi (w.alloc o) cs d:=h.keep (fun b h1 h2=>Below.heap_alloc _ _ _ (by have:=h.hi_le;omega)) (by simp)
theorem FrU.only (h:FrU t bl lo hi w cs d) (hw:Only bl' w w') (hb:∀ b∈bl',b<lo∨hi≤b):FrU t bl lo hi w' cs d :=
 h.keep (fun b h1 h2=>hw.block b (fun hm=>by have:=hb b hm;omega) (by have:=h.hi_le;omega)) hw.size
theorem FrU.onlyd (h:FrU t bl lo hi w cs d) (hw:Only bl' w w') (hd:∀ b∈bl',b ∉ bl):FrU t bl lo hi w' cs d:=by
 have hz:=h.hi_le
 obtain ⟨h,hn,hb,-⟩:=h
 exact ⟨Un.keep _ _ _ _ (fun b hb'=>hw.block b (fun hm=>hd b hm hb') (by have:=hb b hb';omega)) h,hn,hb,Nat.le_trans hz hw.size⟩
end
theorem FrU.sl {e:TypeId} {t:Ty} {bl:List Nat} {lo hi:Nat} {w:World} {p:Option Addr} {len cap:Nat} {l:List t.D} (h:FrU (.slice e t) bl lo hi w [.slice p len cap] l):SlRd t.n (Go.Proofs.Ytahggdiafncdhaa.rd t w) w p len cap l:=rd_sl h.rd
end Go.Proofs.Ytahggdiafncdhaa
