/- Stages out of text: what is asked ahead, what comes back. -/
import Derived.Test.YtepjkojfjdcegaaGreatRead9
import Derived.Test.YtepjkojfjdcegaaGreatCe
import Derived.Test.YtepjkojfjdcegaaGreatTStage
namespace Go.Proofs.YtepjkojfjdcegaaGreat
open Go.ChangeShapes Go.WideShapes Go.ChangeAt Go.RowKit Go.Deep
set_option linter.unusedVariables false
theorem sum_leB {α:Type} (f:α→Nat) (B:Nat):(l:List α)→(∀ a ∈ l,f a≤B)→(l.map f).sum≤B * l.length
 | [],_=>Nat.le_refl _
 | x :: l,h=>by
  have h1:=sum_leB f B l (fun a ha=>h a (List.mem_cons_of_mem _ ha))
  have h2:=h x List.mem_cons_self
  rw [List.map_cons,List.sum_cons,List.length_cons,Nat.mul_succ];omega
theorem okV_len {v:List Int} (h:okV v = true):v.length≤200:=by
 unfold okV at h;rw [Bool.and_eq_true,decide_eq_true_eq] at h;exact h.1
theorem cnt_rows {e:TypeId} {l:RowsD} (hl:l.length≤20) (h:∀ v ∈ l,okV v = true):cnt (.slice e tRow) l≤4000:=by
 have h1:=sum_leB (cnt tRow) 200 l (fun v hv=>by have h2:=okV_len (h v hv);have h3:=cnt_ints v;show cnt tInts v≤200;omega)
 rw [cnt_slice];omega
theorem cntt_stage {x:StageD} (hx:fitS x):cntt tStage x≤100000:=by
 obtain ⟨f0,f1,f2,f3,f4,f5,f6,f7,f8,f9⟩:=fitS_all hx
 have hm:=(modelB_iff _).1 ((stageB_iff x).1 hx.1.1).1
 have hl:=hx.1
 have h1:cnt (.slice 94 tIns) x.2.1≤2 * x.2.1.length:=by rw [cnt_slice];exact sum_leB _ 2 _ fun a _=>Nat.le_refl 2
 have h2:cnt (.slice 96 tOp) x.2.2.1≤203 * x.2.2.1.length:=by
  rw [cnt_slice];exact sum_leB _ 203 _ fun a ha=>by
   have h2:=okV_len (f2 a ha).2;have h3:=cnt_ints a.2.2.2;show 1 + (1 + (1 + cnt tInts a.2.2.2))≤203;omega
 have h3:cnt (.slice 98 tSaved) x.2.2.2.2.2.1≤4001 * x.2.2.2.2.2.1.length:=by
  rw [cnt_slice];exact sum_leB _ 4001 _ fun a ha=>by
   have h3:=f3 a ha;have h4:=cnt_rows (e:=158) h3.2.1 h3.2.2;show 1 + cnt (.slice 158 tRow) a.2≤4001;omega
 have h4:=cnt_rows (e:=158) f4.1 f4.2
 have h5:=cnt_rows (e:=158) f9.1 f9.2
 have a1:=okV_len f5;have a2:=okV_len f6;have a3:=okV_len f7;have a4:=okV_len f8
 have c1:=cnt_ints x.2.2.2.2.2.2.2.1;have c2:=cnt_ints x.2.2.2.2.2.2.2.2.1;have c3:=cnt_ints x.2.2.2.2.2.2.2.2.2.1;have c4:=cnt_ints x.2.2.2.2.2.2.2.2.2.2.1
 have e:cntt tStage x = 0 + (cnt (.slice 94 tIns) x.2.1 + (cnt (.slice 96 tOp) x.2.2.1 + (0 + (0 + (cnt (.slice 98 tSaved) x.2.2.2.2.2.1 + (cnt (.slice 158 tRow) x.2.2.2.2.2.2.1 + (cnt tInts x.2.2.2.2.2.2.2.1 + (cnt tInts x.2.2.2.2.2.2.2.2.1 + (cnt tInts x.2.2.2.2.2.2.2.2.2.1 + (cnt tInts x.2.2.2.2.2.2.2.2.2.2.1 + (cnt (.slice 158 tRow) x.2.2.2.2.2.2.2.2.2.2.2.1 + (0 + 0)))))))))))):=rfl
 obtain ⟨_,l2,l3,l4⟩:=hl
 omega
end Go.Proofs.YtepjkojfjdcegaaGreat
