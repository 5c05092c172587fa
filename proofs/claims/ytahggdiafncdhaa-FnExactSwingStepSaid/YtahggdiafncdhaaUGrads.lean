/- Marks over rows that are met once: Grads. -/
import Derived.Test.YtahggdiafncdhaaTGrads
import Derived.Test.YtahggdiafncdhaaUPath
import Derived.Test.YtahggdiafncdhaaURow
namespace Go.Proofs.Ytahggdiafncdhaa
open Go.ChangeShapes Go.WideShapes Go.ChangeAt Go.RowKit
set_option linter.unusedVariables false
set_option linter.unusedSimpArgs false

set_option maxHeartbeats 4000000 in
set_option maxRecDepth 100000 in
theorem markGrads_un (cs:Array Value) (k0:Int) (d:tGrads.D) (bl:List Nat) (w:World) (h:Un tGrads w cs.toList d bl) (hnd:bl.Nodup) (h0:0≤k0) (h1:k0+(cntt tGrads d:Nat)≤1000000000000) :
  Calls Try.prog 42 #[.agg cs,.int .i64 k0] w (RetUt tGrads w cs.toList (mkt tGrads d k0) bl (k0+(cntt tGrads d:Nat))):=by
 obtain ⟨x0,⟨x1,x2⟩⟩:=d
 have hcx:cntt tGrads (x0,(x1,x2))=cnt (.slice 92 tRow) x0:=(show cntt tGrads (x0,(x1,x2))=(cnt (.slice 92 tRow) x0+(0+0)) from rfl).trans (by omega)
 rw[hcx] at h1
 clear hcx
 obtain ⟨sp0,sn0,sq0,shcs,ss0,sw1⟩:=fmGrads (un_rd h)
 obtain rfl:cs = #[.slice sp0 sn0 sq0,.int .i64 x1,.bool x2]:=arr_of shcs
 clear shcs
 have hbl:=un_lt _ _ _ _ _ h
 have HH:=Lib.hid h
 go_enter Try.func42,Try.ntmps42
 obtain ⟨bu0,hR0,hn0,hs0,hA0⟩:=un_top HH.out hnd [false]
 have hq0:Un (.slice 92 tRow) w [.slice sp0 sn0 sq0] x0 bu0:=hR0
 have HA0:=Lib.hid hA0;have HQ0:=Lib.hid hq0;clear hA0 hR0 hq0
 go_wp2_with fail
 refine (markRowS_un _ _ _ _ x0 _ _ (by exact (Un.keep _ _ _ _ (fun q hq=>Below.heap_alloc _ _ _ (hbl q (hs0 q hq))) HQ0.out)) hn0 (by omega) (by omega)).mono ?_
 rintro e w90 ⟨rfl,rp0,on0⟩
 have HU1:=Lib.hid (HA0.out w90 _ (fun q hq hz=>(on0.block q hq (by simp;omega)).trans (Below.heap_alloc _ _ _ hz)) rp0)
 have O1:Only bl w w90:=Only.trans (Only.alloc (Only.refl _ w) _) (on0.mono hs0)
 have HB1:=Lib.hid (fun (a:Addr) (ha:a.block=w.heap.size)=>on0.cell (a:=a) (fun hm=>by have:=hbl _ (hs0 _ hm);omega) (by rw[ha];simp))
 have zb1:w.heap.size<w90.heap.size:=by have:=on0.size;(try simp at this);omega
 clear HA0 HQ0 rp0
 go_wp2
 go_ret
 exact ⟨ret_int (by have hcx:cntt tGrads (x0,(x1,x2))=cnt (.slice 92 tRow) x0:=(show cntt tGrads (x0,(x1,x2))=(cnt (.slice 92 tRow) x0+(0+0)) from rfl).trans (by omega);rw[hcx];try omega),(by have hh:=HU1.out;first|exact hh|(have e9:mkt tGrads (x0,(x1,x2)) k0=((mk (.slice 92 tRow) x0 (k0)),(x1,x2)):=(by simp only[mkt,cntt,Int.natCast_add,Int.natCast_zero,Int.add_zero,Int.zero_add,← Int.add_assoc]);rw[e9];exact hh)),O1⟩



end Go.Proofs.Ytahggdiafncdhaa
