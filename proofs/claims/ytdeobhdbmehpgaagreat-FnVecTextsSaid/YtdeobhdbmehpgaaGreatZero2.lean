/- Zero2: lemmas. No conditions. -/
import Derived.Test.YtdeobhdbmehpgaaGreatOps2
namespace Go.Proofs.YtdeobhdbmehpgaaGreat
set_option maxRecDepth 100000
open Go.ChangeShapes Go.WideShapes Go.ChangeAt Go.RowKit Go.Deep
set_option linter.unusedVariables false
set_option linter.unusedSimpArgs false
def iX (m:List dR):List (List Int):=m.map fun o=>List.replicate o.2.2.2.length 0
def yR (m:List dR):iN:=if cX m=true then (iX m,0,false) else ([],0,false)
def aFJ (m:List dR) (g:List (List Int)) (i:Nat):Bool:=decide ((g.getD i []).length=(m.getD i zOp).2.2.2.length)
def aI7 (m:List dR) (g:List (List Int)):Bool:=decide (g.length=m.length)&&(List.range m.length).all (aFJ m g)
theorem iS (m:List dR) (g:List (List Int)):aI7 m g=true↔g.length=m.length∧∀ i,i<m.length→aFJ m g i=true:=by
 unfold aI7;simp only[Bool.and_eq_true,decide_eq_true_eq,List.all_eq_true,List.mem_range]
theorem aJO (m:List dR) (g:List (List Int)) {i:Nat} (h:i<m.length) (h':i<g.length):aFJ m g i=true↔g[i].length=m[i].2.2.2.length:=by
 unfold aFJ
 rw[bE h,bE h',decide_eq_true_eq]
theorem aPF {m:List dR} {g:List (List Int)} {i:Nat} (h:i<m.length) (hb:¬ aFJ m g i=true):aI7 m g=false:=by
 refine Bool.eq_false_iff.2 ?_
 rw[ne_eq,iS]
 exact fun hh=>hb (hh.2 i h)
def aLM (m:List dR):Prop:=List.length m≤1000000000∧∀ o∈m,List.length o.2.2.2≤1000000000
theorem aHY (m:List dR) {k:Nat} (h:k<m.length):(iX m).take k++[List.replicate m[k].2.2.2.length 0]=(iX m).take (k+1):=by
 have h':k<(iX m).length:=by unfold iX;rw[List.length_map];exact h
 have e:(iX m)[k]'h'=List.replicate m[k].2.2.2.length 0:=List.getElem_map ..
 rw[List.take_succ_eq_append_getElem h',e]
theorem nW (m:List dR):(iX m).length=m.length:=List.length_map _
noncomputable def kN:Con:=⟨62,(.bEL aF aE),.bool,[.val ⟨true,aF,[]⟩,.val ⟨false,aE,[]⟩],[⟨false,.bool,[0]⟩],false,none,
 ((fun _=>True):(bL × bX)→Prop),
 ((fun x=>aI7 x.1 x.2):(bL × bX)→(Bool))⟩
def tK:T :=
 .bEM (.bEP 112 aA) (aN (.bEL aF aE) 1 (.Z 0)) <|
 .bEM (.bEP 78 bC) (.p1 aF aE (.Z 0)) <|
 .bEM (.cmp .neq .i64) (.bEN tI tI (.Z 1) (.Z 2)) <|
 .ite (.Z 3) (
  .ret (.cb false)) (
  .bEM (.bEP 78 bC) (.p1 aF aE (.Z 0)) <|
  .loop tI (.ci .i64 0) <|
   .bEM (.cmp .lss .i64) (.bEN tI tI (.Z 5) (.Z 4)) <|
   .ite (.Z 6) (
    .bEM (.bEQ 78 bC) (.bEN aF tI (.p1 aF aE (.Z 0)) (.Z 5)) <|
    .bEM (.bEQ 112 aA) (.bEN aE tI (aN (.bEL aF aE) 1 (.Z 0)) (.Z 5)) <|
    .bEM (.bEP 3 tI) (.Z 8) <|
    .bEM (.bEP 3 tI) (aN bC 3 (.Z 7)) <|
    .bEM (.cmp .neq .i64) (.bEN tI tI (.Z 9) (.Z 10)) <|
    .ite (.Z 11) (
     .ret (.cb false)) (
     .bEM (.ar .add .i64) (.bEN tI tI (.Z 5) (.ci .i64 1)) <|
     .bEO 0 (.Z 12))) (
    .ret (.cb true)))
theorem aLP:bJ Tryz.prog [] kN false 3000 ⟨[(2988,2005,jT 13 7++[.dr 2,.dr 0,.tm 16 0])],[]⟩ = .ok tK:=by kernel_rfl
theorem aL2 (x:bL × bX) (hx:okD (.bEL aF aE) x) (hp:(fun _=>True) x):tK.wp [] [⟨(.bEL aF aE),x⟩] [] (fun v=>v.as .bool=(fun x=>aI7 x.1 x.2) x):=by
 obtain ⟨m,g⟩:=x
 have hm1:m.length≤9223372036854775807:=hx.1.1
 delta tK;refine eE ?_;try with_reducible exact True.intro
 (repeat' first|intro _|(with_reducible apply And.intro))
 all_goals simp only[sS] at *
 ·exact (Bool.eq_false_iff.2 fun h=>by rw[iS] at h;omega).symm
 refine ⟨fun s=>∃ k:Nat,k≤m.length∧s=(k:Int)∧∀ i,i<k→aFJ m g i=true,fun s=>m.length - (s:Int).toNat,⟨0,by omega,rfl,by omega⟩,fun s _ hI=>?_⟩
 obtain ⟨k,hk,rfl,ha⟩:=hI
 refine fJ ?_
 constructor
 ·intro hlt
  have hk':k<m.length:=by omega
  have hk2:k<g.length:=by omega
  rw[bE hk',bE hk2]
  have e:=aJO m g hk' hk2
  refine ⟨by omega,fun _=>⟨by omega,fun _ _ _=>⟨fun h=>(aPF hk' fun h2=>?_).symm,fun h=>⟨by omega,fun _=>⟨⟨k+1,by omega,rfl,fun i hi=>?_⟩,by omega⟩⟩⟩⟩⟩
  ·have:=e.1 h2;omega
  ·rcases Nat.lt_or_eq_of_le (Nat.le_of_lt_succ hi) with h'|rfl
   ·exact ha i h'
   ·exact e.2 (by omega)
 ·intro hge
  have:k=m.length:=by omega
  subst this
  exact ((iS m g).2 ⟨by omega,ha⟩).symm
theorem aLR:Con.Holds Tryz.prog kN:=aQ aR aO aLP aL2
noncomputable def jO:Con:=⟨125,aF,aX,[.val ⟨true,aF,[]⟩],[⟨true,aX,[2,0,0]⟩],false,none,
 ((fun x=>aLM x):(bL)→Prop),
 ((fun x=>yR x):(bL)→(iN))⟩
def rB:T:=.loop aC (.bEN tI aE (.ci .i64 0) (.nl 112 aA)) <|
 .bEM (.bEP 78 bC) (.Z 0) <|
 .bEM (.cmp .lss .i64) (.bEN tI tI (.p1 tI aE (.Z 1)) (.Z 2)) <|
 .ite (.Z 3) (
  .call 0 (.Z 0) <|
  .ite (.Z 4) (
   .bEM (.bEQ 78 bC) (.bEN aF tI (.Z 0) (.p1 tI aE (.Z 1))) <|
   .bEM (.bEP 3 tI) (aN bC 3 (.Z 5)) <|
   .bEM (.rep 3 tI 8) (.Z 6) <|
   .bEM (.lit 112 aA 1) (.Z 7) <|
   .bEM (.bES 112 aA 24) (.bEN aE aE (aN aC 1 (.Z 1)) (.Z 8)) <|
   .bEM (.ar .add .i64) (.bEN tI tI (.p1 tI aE (.Z 1)) (.ci .i64 1)) <|
   .bEO 0 (.bEN tI aE (.Z 10) (.Z 9))) (
   .ret (aY aX [(aN aC 1 (.Z 1)),(.ci .i64 0),(.cb false)]))) (
  .ret (aY aX [(aN aC 1 (.Z 1)),(.ci .i64 0),(.cb false)]))
theorem aHU:bJ Tryz.prog [cH] jO false 3000 ⟨[(2991,1001,[.dr 5,.dr 0,.tm 4 0,.sl 6])],[(2983,7005,[26],[])]⟩ = .ok rB:=by kernel_rfl
theorem aID (x:bL) (hx:okD aF x) (hp:(fun x=>aLM x) x):rB.wp [cH] [⟨aF,x⟩] [] (fun v=>v.as aX=(fun x=>yR x) x):=by
 have hq:aLM x:=hp
 obtain ⟨hp1,hp2⟩:aLM x:=hp
 delta rB cH;refine eE ?_
 refine ⟨fun s=>∃ k:Nat,k≤x.length∧(k=0∨cX x=true)∧s=((k:Int),(iX x).take k),fun s=>x.length - (s.1:Int).toNat,⟨0,by omega,.inl rfl,by simp⟩,fun s _ hI=>?_⟩
 obtain ⟨k,hk,hz,rfl⟩:=hI
 dsimp only
 have hl:List.length ((iX x).take k)=k:=by rw[List.length_take,nW];omega
 simp only[sS,hl]
 intro _
 have fin:k=x.length∨cX x=false→((iX x).take k,(0:Int),false)=yR x:=fun h=>by
  unfold yR
  cases hb:cX x
  ·have:k=0:=hz.elim id fun h=>by rw[hb] at h;cases h
   subst this
   rfl
  ·have:k=x.length:=h.elim id fun h=>by rw[hb] at h;cases h
   rw[if_pos rfl,aEX (by rw[nW];omega)]
 constructor
 ·intro hlt
  have hk':k<x.length:=by omega
  rw[bE hk']
  have hm:=hp2 _ (List.getElem_mem hk')
  have e:=aHY x hk'
  (repeat' first|intro _|(with_reducible apply And.intro))
  all_goals first|omega|(unfold maxLen;omega)|exact hm|exact hp2 _ ‹_›|(exact ⟨k+1,by omega,.inr (by assumption),by rw[← e];rfl⟩)|exact fin (.inr (by assumption))
 ·intro hge
  exact fin (.inl (by omega))
theorem aI2:Con.Holds Tryz.prog jO:=aQ aR (aG nD aO) aHU aID
end Go.Proofs.YtdeobhdbmehpgaaGreat
