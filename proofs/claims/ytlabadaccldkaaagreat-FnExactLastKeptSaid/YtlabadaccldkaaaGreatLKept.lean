/- LKept: lemmas. No conditions. -/
import Derived.Test.YtlabadaccldkaaaGreatReadPS
namespace Go.Proofs.YtlabadaccldkaaaGreat
set_option maxRecDepth 100000
open Go.ChangeShapes Go.WideShapes Go.ChangeAt Go.RowKit Go.Deep
set_option linter.unusedVariables false
set_option linter.unusedSimpArgs false
noncomputable def qD (l:List ByteArray):dH × Bool:=if l.length=0 then (aFW,false) else xG (l.getD (l.length - 1) (aV .str))
noncomputable def eM:Con:=⟨7,(.slice 9 .str),(.aWS aH .bool),[.val ⟨false,(.slice 9 .str),[]⟩],[⟨true,aH,[2,2,2,2]⟩,⟨false,.bool,[0]⟩],false,none,
 ((fun x=>x.length≤1048576∧∀ s∈x,s.size≤100000000):(List (ByteArray))→Prop),
 ((fun x=>qD x):(List (ByteArray))→(dH × Bool))⟩
def rJ:T :=
 .aWT (.aWW 9 .str) (.Z 0) <|
 .aWT (.cmp .eql .i64) (.aWU tI tI (.Z 1) (.ci .i64 0)) <|
 .ite (.Z 2) (
  .ret (.aWU aH .bool (aQ aH [(.nl 49 aM),(.nl 57 aB),(.nl 62 aE),(.nl 62 aE)]) (.cb false))) (
  .aWT (.aWW 9 .str) (.Z 0) <|
  .aWT (.ar .sub .i64) (.aWU tI tI (.Z 3) (.ci .i64 1)) <|
  .aWT (.aWX 9 .str) (.aWU (.slice 9 .str) tI (.Z 0) (.Z 4)) <|
  .call 0 (.Z 5) <|
  .ret (.Z 6))
theorem aHF:cW Tryz.prog [lE] eM false 3000 ⟨[],[]⟩ = .ok rJ:=by kernel_rfl
theorem aGX (x:List (ByteArray)) (hx:okD (.slice 9 .str) x) (hp:(fun x=>x.length≤1048576∧∀ s∈x,s.size≤100000000) x):rJ.wp [lE] [⟨(.slice 9 .str),x⟩] [] (fun v=>v.as (.aWS aH .bool)=(fun x=>qD x) x):=by
 have hp1:List.length x≤1048576:=hp.1
 have hp2:∀ i (h:i<List.length x),ByteArray.size ((x:List ByteArray)[i])≤100000000:=fun i h=>hp.2 _ (List.getElem_mem h)
 delta rJ lE;refine jN ?_
 refine gJ ?_
 refine fun _=>⟨fun h=>?_,fun h _=>?_⟩
 ·unfold qD;rw[if_pos (by omega)];rfl
 ·have hl:List.length x - 1<List.length x:=by omega
  have e:(((List.length x:Nat):Int) - 1).toNat=List.length x - 1:=by omega
  have e2:∀ z,(x:List ByteArray).getD (List.length x - 1) z=(x:List ByteArray)[List.length x - 1]:=fun z=>bG hl
  refine ⟨⟨by omega,by omega⟩,fun _=>⟨⟨by omega,by omega⟩,fun _=>?_⟩⟩
  unfold qD
  rw[if_neg (by omega)]
  refine ⟨?_,fun _=>rfl⟩
  rw[e2];exact hp2 _ hl
theorem aHX:Con.Holds Tryz.prog eM:=aX bI (aR aGC aY) aHF aGX
noncomputable def eJ:Con:=⟨5,(.slice 9 .str),(.aWS aH .bool),[.val ⟨false,(.slice 9 .str),[]⟩],[⟨true,aH,[2,2,2,2]⟩,⟨false,.bool,[0]⟩],false,none,
 ((fun x=>x.length≤1048576∧∀ s∈x,s.size≤100000000):(List (ByteArray))→Prop),
 ((fun x=>qD x):(List (ByteArray))→(dH × Bool))⟩
def rU:T :=
 .aWT (.aWW 9 .str) (.Z 0) <|
 .aWT (.cmp .eql .i64) (.aWU tI tI (.Z 1) (.ci .i64 0)) <|
 .ite (.Z 2) (
  .ret (.aWU aH .bool (aQ aH [(.nl 49 aM),(.nl 57 aB),(.nl 62 aE),(.nl 62 aE)]) (.cb false))) (
  .aWT (.aWW 9 .str) (.Z 0) <|
  .aWT (.ar .sub .i64) (.aWU tI tI (.Z 3) (.ci .i64 1)) <|
  .aWT (.aWX 9 .str) (.aWU (.slice 9 .str) tI (.Z 0) (.Z 4)) <|
  .call 0 (.Z 5) <|
  .ret (.Z 6))
theorem aH0:cW Tryz.prog [lJ] eJ false 3000 ⟨[],[]⟩ = .ok rU:=by kernel_rfl
theorem aGO (x:List (ByteArray)) (hx:okD (.slice 9 .str) x) (hp:(fun x=>x.length≤1048576∧∀ s∈x,s.size≤100000000) x):rU.wp [lJ] [⟨(.slice 9 .str),x⟩] [] (fun v=>v.as (.aWS aH .bool)=(fun x=>qD x) x):=by
 have hp1:List.length x≤1048576:=hp.1
 have hp2:∀ i (h:i<List.length x),ByteArray.size ((x:List ByteArray)[i])≤100000000:=fun i h=>hp.2 _ (List.getElem_mem h)
 delta rU lJ;refine jN ?_
 refine gJ ?_
 refine fun _=>⟨fun h=>?_,fun h _=>?_⟩
 ·unfold qD;rw[if_pos (by omega)];rfl
 ·have hl:List.length x - 1<List.length x:=by omega
  have e:(((List.length x:Nat):Int) - 1).toNat=List.length x - 1:=by omega
  have e2:∀ z,(x:List ByteArray).getD (List.length x - 1) z=(x:List ByteArray)[List.length x - 1]:=fun z=>bG hl
  refine ⟨⟨by omega,by omega⟩,fun _=>⟨⟨by omega,by omega⟩,fun _=>?_⟩⟩
  unfold qD
  rw[if_neg (by omega)]
  refine ⟨?_,fun _=>(aVJ _).symm⟩
  rw[e2];exact hp2 _ hl
theorem aI6:Con.Holds Tryz.prog eJ:=aX bI (aR aGW aY) aH0 aGO
end Go.Proofs.YtlabadaccldkaaaGreat
