/- Zero2: lemmas. No conditions. -/
import Derived.Test.YtlabadaccldkaaaGreatOps2
namespace Go.Proofs.YtlabadaccldkaaaGreat
open Go.ChangeShapes Go.WideShapes Go.ChangeAt Go.RowKit Go.Deep
set_option linter.unusedVariables false
set_option linter.unusedSimpArgs false
def aCM (m:List jT) (g:List (List Int)) (i:Nat):Bool:=decide ((g.getD i []).length=(m.getD i zOp).2.2.2.length)
def aEF (m:List jT) (g:List (List Int)):Bool:=decide (g.length=m.length)&&(List.range m.length).all (aCM m g)
theorem jU (m:List jT) (g:List (List Int)):aEF m g=true↔g.length=m.length∧∀ i,i<m.length→aCM m g i=true:=by
 unfold aEF;simp only[Bool.and_eq_true,decide_eq_true_eq,List.all_eq_true,List.mem_range]
theorem aFI (m:List jT) (g:List (List Int)) {i:Nat} (h:i<m.length) (h':i<g.length):aCM m g i=true↔g[i].length=m[i].2.2.2.length:=by
 unfold aCM
 rw[bG h,bG h',decide_eq_true_eq]
theorem aKZ {m:List jT} {g:List (List Int)} {i:Nat} (h:i<m.length) (hb:¬ aCM m g i=true):aEF m g=false:=by
 refine Bool.eq_false_iff.2 ?_
 rw[ne_eq,jU]
 exact fun hh=>hb (hh.2 i h)
noncomputable def lG:Con:=⟨102,(.aWS aK aF),.bool,[.val ⟨true,aK,[]⟩,.val ⟨false,aF,[]⟩],[⟨false,.bool,[0]⟩],false,none,
 ((fun _=>True):(hZ × eT)→Prop),
 ((fun x=>aEF x.1 x.2):(hZ × eT)→(Bool))⟩
def rP:T :=
 .aWT (.aWW 117 aA) (aG (.aWS aK aF) 1 (.Z 0)) <|
 .aWT (.aWW 90 aZ) (.p1 aK aF (.Z 0)) <|
 .aWT (.cmp .neq .i64) (.aWU tI tI (.Z 1) (.Z 2)) <|
 .ite (.Z 3) (
  .ret (.cb false)) (
  .aWT (.aWW 90 aZ) (.p1 aK aF (.Z 0)) <|
  .loop tI (.ci .i64 0) <|
   .aWT (.cmp .lss .i64) (.aWU tI tI (.Z 5) (.Z 4)) <|
   .ite (.Z 6) (
    .aWT (.aWX 90 aZ) (.aWU aK tI (.p1 aK aF (.Z 0)) (.Z 5)) <|
    .aWT (.aWX 117 aA) (.aWU aF tI (aG (.aWS aK aF) 1 (.Z 0)) (.Z 5)) <|
    .aWT (.aWW 3 tI) (.Z 8) <|
    .aWT (.aWW 3 tI) (aG aZ 3 (.Z 7)) <|
    .aWT (.cmp .neq .i64) (.aWU tI tI (.Z 9) (.Z 10)) <|
    .ite (.Z 11) (
     .ret (.cb false)) (
     .aWT (.ar .add .i64) (.aWU tI tI (.Z 5) (.ci .i64 1)) <|
     .aWV 0 (.Z 12))) (
    .ret (.cb true)))
set_option maxRecDepth 100000 in
theorem aIB:cW Tryz.prog [] lG false 3000 ⟨[(2988,2005,fG 13 7++[.dr 2,.dr 0,.tm 16 0])],[]⟩ = .ok rP:=by kernel_rfl
theorem aHU (x:hZ × eT) (hx:okD (.aWS aK aF) x) (hp:(fun _=>True) x):rP.wp [] [⟨(.aWS aK aF),x⟩] [] (fun v=>v.as .bool=(fun x=>aEF x.1 x.2) x):=by
 obtain ⟨m,g⟩:=x
 have hm1:m.length≤9223372036854775807:=hx.1.1
 delta rP;refine jN ?_;try with_reducible exact True.intro
 (repeat' first|intro _|(with_reducible apply And.intro))
 all_goals simp only[dzx] at *
 ·exact (Bool.eq_false_iff.2 fun h=>by rw[jU] at h;omega).symm
 refine ⟨fun s=>∃ k:Nat,k≤m.length∧s=(k:Int)∧∀ i,i<k→aCM m g i=true,fun s=>m.length - (s:Int).toNat,⟨0,by omega,rfl,by omega⟩,fun s _ hI=>?_⟩
 obtain ⟨k,hk,rfl,ha⟩:=hI
 refine gJ ?_
 constructor
 ·intro hlt
  have hk':k<m.length:=by omega
  have hk2:k<g.length:=by omega
  rw[bG hk',bG hk2]
  have e:=aFI m g hk' hk2
  refine ⟨by omega,fun _=>⟨by omega,fun _ _ _=>⟨fun h=>(aKZ hk' fun h2=>?_).symm,fun h=>⟨by omega,fun _=>⟨⟨k+1,by omega,rfl,fun i hi=>?_⟩,by omega⟩⟩⟩⟩⟩
  ·have:=e.1 h2;omega
  ·rcases Nat.lt_or_eq_of_le (Nat.le_of_lt_succ hi) with h'|rfl
   ·exact ha i h'
   ·exact e.2 (by omega)
 ·intro hge
  have:k=m.length:=by omega
  subst this
  exact ((jU m g).2 ⟨by omega,ha⟩).symm
theorem aHK:Con.Holds Tryz.prog lG:=aX bI aY aIB aHU
end Go.Proofs.YtlabadaccldkaaaGreat
