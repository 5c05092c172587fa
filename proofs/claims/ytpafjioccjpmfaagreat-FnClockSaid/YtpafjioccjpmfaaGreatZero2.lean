/- Zero2: lemmas. No conditions. -/
import Derived.Test.YtpafjioccjpmfaaGreatOps2
namespace Go.Proofs.YtpafjioccjpmfaaGreat
set_option maxRecDepth 100000
open Go.ChangeShapes Go.WideShapes Go.ChangeAt Go.RowKit Go.Deep
set_option linter.unusedVariables false
set_option linter.unusedSimpArgs false
def iQ (m:List cZ):List (List Int):=m.map fun o=>List.replicate o.2.2.2.length 0
def zD (m:List cZ):jB:=if bO m=true then (iQ m,0,false) else ([],0,false)
def aP9 (m:List cZ) (g:List (List Int)) (i:Nat):Bool:=decide ((g.getD i []).length=(m.getD i qY).2.2.2.length)
def aHL (m:List cZ) (g:List (List Int)):Bool:=decide (g.length=m.length)&&(List.range m.length).all (aP9 m g)
theorem aFK (m:List cZ) (g:List (List Int)):aHL m g=true↔g.length=m.length∧∀ i,i<m.length→aP9 m g i=true:=by
 unfold aHL;simp only[Bool.and_eq_true,decide_eq_true_eq,List.all_eq_true,List.mem_range]
theorem aHG (m:List cZ) (g:List (List Int)) {i:Nat} (h:i<m.length) (h':i<g.length):aP9 m g i=true↔g[i].length=m[i].2.2.2.length:=by
 unfold aP9
 rw[aW h,aW h',decide_eq_true_eq]
theorem bI0 {m:List cZ} {g:List (List Int)} {i:Nat} (h:i<m.length) (hb:¬ aP9 m g i=true):aHL m g=false:=by
 refine Bool.eq_false_iff.2 ?_
 rw[ne_eq,aFK]
 exact fun hh=>hb (hh.2 i h)
def iH (m:List cZ):Prop:=List.length m≤1000000000∧∀ o∈m,List.length o.2.2.2≤1000000000
theorem aOB (m:List cZ) {k:Nat} (h:k<m.length):(iQ m).take k++[List.replicate m[k].2.2.2.length 0]=(iQ m).take (k+1):=by
 have h':k<(iQ m).length:=by unfold iQ;rw[List.length_map];exact h
 have e:(iQ m)[k]'h'=List.replicate m[k].2.2.2.length 0:=List.getElem_map ..
 rw[List.take_succ_eq_append_getElem h',e]
theorem oF (m:List cZ):(iQ m).length=m.length:=List.length_map _
noncomputable def oC:Con:=⟨122,(.bPW aE aO),.bool,[.val ⟨true,aE,[]⟩,.val ⟨false,aO,[]⟩],[⟨false,.bool,[0]⟩],false,none,
 ((fun _=>True):(bE × dG)→Prop),
 ((fun x=>aHL x.1 x.2):(bE × dG)→(Bool))⟩
def xP:T :=
 .bPX (.bQ0 134 aB) (aS (.bPW aE aO) 1 (.Z 0)) <|
 .bPX (.bQ0 80 bU) (.p1 aE aO (.Z 0)) <|
 .bPX (.cmp .neq .i64) (.bPY tI tI (.Z 1) (.Z 2)) <|
 .ite (.Z 3) (
  .ret (.cb false)) (
  .bPX (.bQ0 80 bU) (.p1 aE aO (.Z 0)) <|
  .loop tI (.ci .i64 0) <|
   .bPX (.cmp .lss .i64) (.bPY tI tI (.Z 5) (.Z 4)) <|
   .ite (.Z 6) (
    .bPX (.bQ1 80 bU) (.bPY aE tI (.p1 aE aO (.Z 0)) (.Z 5)) <|
    .bPX (.bQ1 134 aB) (.bPY aO tI (aS (.bPW aE aO) 1 (.Z 0)) (.Z 5)) <|
    .bPX (.bQ0 3 tI) (.Z 8) <|
    .bPX (.bQ0 3 tI) (aS bU 3 (.Z 7)) <|
    .bPX (.cmp .neq .i64) (.bPY tI tI (.Z 9) (.Z 10)) <|
    .ite (.Z 11) (
     .ret (.cb false)) (
     .bPX (.ar .add .i64) (.bPY tI tI (.Z 5) (.ci .i64 1)) <|
     .bPZ 0 (.Z 12))) (
    .ret (.cb true)))
theorem aR7:bW Tryz.prog [] oC false 3000 ⟨[(2988,2005,jV 13 7++[.dr 2,.dr 0,.tm 16 0])],[]⟩ = .ok xP:=by kernel_rfl
theorem aRS (x:bE × dG) (hx:okD (.bPW aE aO) x) (hp:(fun _=>True) x):xP.wp [] [⟨(.bPW aE aO),x⟩] [] (fun v=>v.as .bool=(fun x=>aHL x.1 x.2) x):=by
 obtain ⟨m,g⟩:=x
 have hm1:m.length≤9223372036854775807:=hx.1.1
 delta xP;refine dY ?_;try with_reducible exact True.intro
 (repeat' first|intro _|(with_reducible apply And.intro))
 all_goals simp only[uP] at *
 ·exact (Bool.eq_false_iff.2 fun h=>by rw[aFK] at h;omega).symm
 refine ⟨fun s=>∃ k:Nat,k≤m.length∧s=(k:Int)∧∀ i,i<k→aP9 m g i=true,fun s=>m.length - (s:Int).toNat,⟨0,by omega,rfl,by omega⟩,fun s _ hI=>?_⟩
 obtain ⟨k,hk,rfl,ha⟩:=hI
 refine eD ?_
 constructor
 ·intro hlt
  have hk':k<m.length:=by omega
  have hk2:k<g.length:=by omega
  rw[aW hk',aW hk2]
  have e:=aHG m g hk' hk2
  refine ⟨by omega,fun _=>⟨by omega,fun _ _ _=>⟨fun h=>(bI0 hk' fun h2=>?_).symm,fun h=>⟨by omega,fun _=>⟨⟨k+1,by omega,rfl,fun i hi=>?_⟩,by omega⟩⟩⟩⟩⟩
  ·have:=e.1 h2;omega
  ·rcases Nat.lt_or_eq_of_le (Nat.le_of_lt_succ hi) with h'|rfl
   ·exact ha i h'
   ·exact e.2 (by omega)
 ·intro hge
  have:k=m.length:=by omega
  subst this
  exact ((aFK m g).2 ⟨by omega,ha⟩).symm
theorem aRN:Con.Holds Tryz.prog oC:=aX aZ aT aR7 aRS
noncomputable def mR:Con:=⟨90,aE,bJ,[.val ⟨true,aE,[]⟩],[⟨true,bJ,[2,0,0]⟩],false,none,
 ((fun x=>iH x):(bE)→Prop),
 ((fun x=>zD x):(bE)→(jB))⟩
def wI:T:=.call 0 (.Z 0) <|
 .bPX .not (.Z 1) <|
 .ite (.Z 2) (
  .ret (bP bJ [(.nl 134 aB),(.ci .i64 0),(.cb false)])) (
  .bPX (.bQ0 80 bU) (.Z 0) <|
  .loop aL (.bPY tI aO (.ci .i64 0) (.nl 134 aB)) <|
   .bPX (.cmp .lss .i64) (.bPY tI tI (.p1 tI aO (.Z 4)) (.Z 3)) <|
   .ite (.Z 5) (
    .bPX (.bQ1 80 bU) (.bPY aE tI (.Z 0) (.p1 tI aO (.Z 4))) <|
    .bPX (.bQ0 3 tI) (aS bU 3 (.Z 6)) <|
    .bPX (.rep 3 tI 8) (.Z 7) <|
    .bPX (.lit 134 aB 1) (.Z 8) <|
    .bPX (.bQ3 134 aB 24) (.bPY aO aO (aS aL 1 (.Z 4)) (.Z 9)) <|
    .bPX (.ar .add .i64) (.bPY tI tI (.p1 tI aO (.Z 4)) (.ci .i64 1)) <|
    .bPZ 0 (.bPY tI aO (.Z 11) (.Z 10))) (
    .ret (bP bJ [(aS aL 1 (.Z 4)),(.ci .i64 0),(.cb false)])))
theorem aO2:bW Tryz.prog [bV] mR false 3000 ⟨[(2986,2004,[.dr 11,.dr 10]++jV 8 6++[.dr 1,.dr 0,.tm 14 0,.sl 6])],[(2976,6007,[23],[])]⟩ = .ok wI:=by kernel_rfl
theorem aOA (x:bE) (hx:okD aE x) (hp:(fun x=>iH x) x):wI.wp [bV] [⟨aE,x⟩] [] (fun v=>v.as bJ=(fun x=>zD x) x):=by
 have hq:iH x:=hp
 obtain ⟨hp1,hp2⟩:iH x:=hp
 delta wI bV;refine dY ?_
 refine ⟨fun hb=>?_,fun hb _=>?_⟩
 all_goals simp only[uP] at hb
 ·unfold zD;rw[hb];rfl
 refine ⟨fun s=>∃ k:Nat,k≤x.length∧s=((k:Int),(iQ x).take k),fun s=>x.length - (s.1:Int).toNat,⟨0,by omega,by simp⟩,fun s _ hI=>?_⟩
 obtain ⟨k,hk,rfl⟩:=hI
 dsimp only
 have hl:List.length ((iQ x).take k)=k:=by rw[List.length_take,oF];omega
 simp only[uP,hl]
 constructor
 ·intro hlt
  have hk':k<x.length:=by omega
  rw[aW hk']
  have hm:=hp2 _ (List.getElem_mem hk')
  have e:=aOB x hk'
  (repeat' first|intro _|(with_reducible apply And.intro))
  all_goals first|omega|(unfold maxLen;omega)|(exact ⟨k+1,by omega,by rw[← e];rfl⟩)
 ·intro hge
  have:k=x.length:=by omega
  subst this
  unfold zD
  rw[if_pos hb,aG2 (by rw[oF];omega)]
theorem aNT:Con.Holds Tryz.prog mR:=aX aZ (aG gZ aT) aO2 aOA
end Go.Proofs.YtpafjioccjpmfaaGreat
