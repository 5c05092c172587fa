/- Pipes out of text: what is asked ahead, what comes back. -/
import Derived.Test.YtepjkojfjdcegaaGreatRead12
import Derived.Test.YtepjkojfjdcegaaGreatRead13
import Derived.Test.YtepjkojfjdcegaaGreatReadStS
import Derived.Test.YtepjkojfjdcegaaGreatCe
import Derived.Test.YtepjkojfjdcegaaGreatTPipe
namespace Go.Proofs.YtepjkojfjdcegaaGreat
open Go.ChangeShapes Go.WideShapes Go.ChangeAt Go.RowKit Go.Deep
set_option linter.unusedVariables false
theorem p_ReadPipe (s:ByteArray) (hz:(s.size:Int)≤1048576):s.size≤100000000∧s.size≤100000000:=⟨by omega,by omega⟩
theorem cnt_stage {x:StageD} (hx:fitS x):cnt tStage x≤100005:=by
 have h:=cntt_stage hx
 have e1:cntt tStage x = 0 + (cnt (.slice 94 tIns) x.2.1 + (cnt (.slice 96 tOp) x.2.2.1 + (0 + (0 + (cnt (.slice 98 tSaved) x.2.2.2.2.2.1 + (cnt (.slice 158 tRow) x.2.2.2.2.2.2.1 + (cnt tInts x.2.2.2.2.2.2.2.1 + (cnt tInts x.2.2.2.2.2.2.2.2.1 + (cnt tInts x.2.2.2.2.2.2.2.2.2.1 + (cnt tInts x.2.2.2.2.2.2.2.2.2.2.1 + (cnt (.slice 158 tRow) x.2.2.2.2.2.2.2.2.2.2.2.1 + (0 + 0)))))))))))):=rfl
 have e2:cnt tStage x = 1 + (cnt (.slice 94 tIns) x.2.1 + (cnt (.slice 96 tOp) x.2.2.1 + (1 + (1 + (cnt (.slice 98 tSaved) x.2.2.2.2.2.1 + (cnt (.slice 158 tRow) x.2.2.2.2.2.2.1 + (cnt tInts x.2.2.2.2.2.2.2.1 + (cnt tInts x.2.2.2.2.2.2.2.2.1 + (cnt tInts x.2.2.2.2.2.2.2.2.2.1 + (cnt tInts x.2.2.2.2.2.2.2.2.2.2.1 + (cnt (.slice 158 tRow) x.2.2.2.2.2.2.2.2.2.2.2.1 + (1 + 1)))))))))))):=rfl
 omega
theorem cnt_queue {q:QueueD} (h:queueB q = true):cnt tQueue q≤2000:=by
 have hq:=fitQ_of h
 have h1:cnt (.slice 179 tItem) q.2≤201 * q.2.length:=by
  rw [cnt_slice];exact sum_leB _ 201 _ fun a ha=>by
   have h2:=okV_len (hq.2.2 a ha).2;have h3:=cnt_ints a.2;show 1 + cnt tInts a.2≤201;omega
 have h2:=hq.2.1
 show 1 + cnt (.slice 179 tItem) q.2≤2000
 omega
theorem cntt_pipe {x:PipeD} (hb:pipeB x = true) (hs:∀ a ∈ x.2.1,fitS a):cntt tPipe x≤1000000:=by
 obtain ⟨f1,_,_,fz,fe,l1,l2⟩:=pipe_fits hb
 obtain ⟨_,_,q3,_⟩:=pB_iff.1 hb
 have g1:cnt tBatch x.1≤400 * x.1.length:=by
  show cnt (.slice _ tPair) x.1≤_
  rw [cnt_slice];exact sum_leB _ 400 _ fun a ha=>by
   have h2:=okV_len (f1 a ha).1;have h3:=okV_len (f1 a ha).2;have h4:=cnt_ints a.1;have h5:=cnt_ints a.2;show cnt tInts a.1 + cnt tInts a.2≤400;omega
 have g2:cnt (.slice 38 tStage) x.2.1≤100005 * x.2.1.length:=by
  rw [cnt_slice];exact sum_leB _ 100005 _ fun a ha=>cnt_stage (hs a ha)
 have hl:(zipQ x.2.2.1 x.2.2.2).length = x.2.2.1.length:=by unfold zipQ;rw [List.length_map,List.length_range]
 have g3:cnt tQueues x.2.2.1≤2000 * x.2.2.1.length:=by
  show cnt (.slice _ tQueue) x.2.2.1≤_
  rw [cnt_slice];exact sum_leB _ 2000 _ fun a ha=>by
   obtain ⟨i,hi,rfl⟩:=List.getElem_of_mem ha
   have h2:=(q3 i hi).1
   rw [getD_at hi] at h2
   exact cnt_queue h2
 have g4:cnt tQueues x.2.2.2≤2000 * x.2.2.2.length:=by
  show cnt (.slice _ tQueue) x.2.2.2≤_
  rw [cnt_slice];exact sum_leB _ 2000 _ fun a ha=>by
   obtain ⟨i,hi,rfl⟩:=List.getElem_of_mem ha
   have h2:=(q3 i (by omega)).2
   rw [getD_at hi] at h2
   exact cnt_queue h2
 have e:cntt tPipe x = cnt tBatch x.1 + (cnt (.slice 38 tStage) x.2.1 + (cnt tQueues x.2.2.1 + cnt tQueues x.2.2.2)):=rfl
 omega
theorem rdPI_fit (s:ByteArray):(rdPI s).1 = zPipe∨pipeB (rdPI s).1 = true∧∀ a ∈ (rdPI s).1.2.1,fitS a:=by
 unfold rdPI
 split
 ·exact .inl rfl
 ·rename_i h
  right
  have he:pipeS (pipeR (atR s 0)).1 = s:=Classical.not_not.1 fun he=>h (.inr (.inr he))
  obtain ⟨h1,h2,_⟩:=pipeS_fit he (fun hs=>h (.inr (.inl hs)))
  exact ⟨h1,fun a ha=>(h2 a ha).1⟩
theorem q_ReadPipe (s:ByteArray) (hz:(s.size:Int)≤1048576):(cntt tPipe (rdPI s).1:Int)≤1000000000:=by
 rcases rdPI_fit s with h | ⟨h,h2⟩
 ·rw [h];exact (by decide:(((0:Nat):Int)≤1000000000))
 ·have:=cntt_pipe h h2;omega
end Go.Proofs.YtepjkojfjdcegaaGreat
