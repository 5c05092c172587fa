/- Zero2: lemmas. No conditions. -/
import Derived.Test.YtpleleanibgniaaGreatOps2
namespace Go.Proofs.YtpleleanibgniaaGreat
set_option maxRecDepth 100000
open Go.ChangeShapes Go.WideShapes Go.ChangeAt Go.RowKit Go.Deep
set_option linter.unusedVariables false
set_option linter.unusedSimpArgs false
def iW (m:List dE):List (List Int):=m.map fun o=>List.replicate o.2.2.2.length 0
def aC0 (m:List dE):gK:=if bT m=true then (iW m,0,false) else ([],0,false)
def aKX (m:List dE) (g:List (List Int)) (i:Nat):Bool:=decide ((g.getD i []).length=(m.getD i zOp).2.2.2.length)
def aND (m:List dE) (g:List (List Int)):Bool:=decide (g.length=m.length)&&(List.range m.length).all (aKX m g)
theorem aI8 (m:List dE) (g:List (List Int)):aND m g=true↔g.length=m.length∧∀ i,i<m.length→aKX m g i=true:=by
 unfold aND;simp only[Bool.and_eq_true,decide_eq_true_eq,List.all_eq_true,List.mem_range]
theorem aY9 (m:List dE) (g:List (List Int)) {i:Nat} (h:i<m.length) (h':i<g.length):aKX m g i=true↔g[i].length=m[i].2.2.2.length:=by
 unfold aKX
 rw[bD h,bD h',decide_eq_true_eq]
theorem bD8 {m:List dE} {g:List (List Int)} {i:Nat} (h:i<m.length) (hb:¬ aKX m g i=true):aND m g=false:=by
 refine Bool.eq_false_iff.2 ?_
 rw[ne_eq,aI8]
 exact fun hh=>hb (hh.2 i h)
def lR (m:List dE):Prop:=List.length m≤1000000000∧∀ o∈m,List.length o.2.2.2≤1000000000
theorem aJ9 (m:List dE) {k:Nat} (h:k<m.length):(iW m).take k++[List.replicate m[k].2.2.2.length 0]=(iW m).take (k+1):=by
 have h':k<(iW m).length:=by unfold iW;rw[List.length_map];exact h
 have e:(iW m)[k]'h'=List.replicate m[k].2.2.2.length 0:=List.getElem_map ..
 rw[List.take_succ_eq_append_getElem h',e]
theorem tW (m:List dE):(iW m).length=m.length:=List.length_map _
noncomputable def lE:Con:=⟨97,(.bJ2 aD aP),.bool,[.val ⟨true,aD,[]⟩,.val ⟨false,aP,[]⟩],[⟨false,.bool,[0]⟩],false,none,
 ((fun _=>True):(aW × dT)→Prop),
 ((fun x=>aND x.1 x.2):(aW × dT)→(Bool))⟩
def tX:T :=
 .bJ3 (.bJ6 124 aB) (aR (.bJ2 aD aP) 1 (.Z 0)) <|
 .bJ3 (.bJ6 93 bN) (.p1 aD aP (.Z 0)) <|
 .bJ3 (.cmp .neq .i64) (.bJ4 tI tI (.Z 1) (.Z 2)) <|
 .ite (.Z 3) (
  .ret (.cb false)) (
  .bJ3 (.bJ6 93 bN) (.p1 aD aP (.Z 0)) <|
  .loop tI (.ci .i64 0) <|
   .bJ3 (.cmp .lss .i64) (.bJ4 tI tI (.Z 5) (.Z 4)) <|
   .ite (.Z 6) (
    .bJ3 (.bJ7 93 bN) (.bJ4 aD tI (.p1 aD aP (.Z 0)) (.Z 5)) <|
    .bJ3 (.bJ7 124 aB) (.bJ4 aP tI (aR (.bJ2 aD aP) 1 (.Z 0)) (.Z 5)) <|
    .bJ3 (.bJ6 3 tI) (.Z 8) <|
    .bJ3 (.bJ6 3 tI) (aR bN 3 (.Z 7)) <|
    .bJ3 (.cmp .neq .i64) (.bJ4 tI tI (.Z 9) (.Z 10)) <|
    .ite (.Z 11) (
     .ret (.cb false)) (
     .bJ3 (.ar .add .i64) (.bJ4 tI tI (.Z 5) (.ci .i64 1)) <|
     .bJ5 0 (.Z 12))) (
    .ret (.cb true)))
theorem aMR:bV Tryz.prog [] lE false 3000 ⟨[(2988,2005,mW 13 7++[.dr 2,.dr 0,.tm 16 0])],[]⟩ = .ok tX:=by kernel_rfl
theorem aO0 (x:aW × dT) (hx:okD (.bJ2 aD aP) x) (hp:(fun _=>True) x):tX.wp [] [⟨(.bJ2 aD aP),x⟩] [] (fun v=>v.as .bool=(fun x=>aND x.1 x.2) x):=by
 obtain ⟨m,g⟩:=x
 have hm1:m.length≤9223372036854775807:=hx.1.1
 delta tX;refine eE ?_;try with_reducible exact True.intro
 (repeat' first|intro _|(with_reducible apply And.intro))
 all_goals simp only[zO] at *
 ·exact (Bool.eq_false_iff.2 fun h=>by rw[aI8] at h;omega).symm
 refine ⟨fun s=>∃ k:Nat,k≤m.length∧s=(k:Int)∧∀ i,i<k→aKX m g i=true,fun s=>m.length - (s:Int).toNat,⟨0,by omega,rfl,by omega⟩,fun s _ hI=>?_⟩
 obtain ⟨k,hk,rfl,ha⟩:=hI
 refine eL ?_
 constructor
 ·intro hlt
  have hk':k<m.length:=by omega
  have hk2:k<g.length:=by omega
  rw[bD hk',bD hk2]
  have e:=aY9 m g hk' hk2
  refine ⟨by omega,fun _=>⟨by omega,fun _ _ _=>⟨fun h=>(bD8 hk' fun h2=>?_).symm,fun h=>⟨by omega,fun _=>⟨⟨k+1,by omega,rfl,fun i hi=>?_⟩,by omega⟩⟩⟩⟩⟩
  ·have:=e.1 h2;omega
  ·rcases Nat.lt_or_eq_of_le (Nat.le_of_lt_succ hi) with h'|rfl
   ·exact ha i h'
   ·exact e.2 (by omega)
 ·intro hge
  have:k=m.length:=by omega
  subst this
  exact ((aI8 m g).2 ⟨by omega,ha⟩).symm
theorem aNV:Con.Holds Tryz.prog lE:=aV aX aT aMR aO0
noncomputable def kI:Con:=⟨49,aD,bF,[.val ⟨true,aD,[]⟩],[⟨true,bF,[2,0,0]⟩],false,none,
 ((fun x=>lR x):(aW)→Prop),
 ((fun x=>aC0 x):(aW)→(gK))⟩
def sF:T:=.loop aM (.bJ4 tI aP (.ci .i64 0) (.nl 124 aB)) <|
 .bJ3 (.bJ6 93 bN) (.Z 0) <|
 .bJ3 (.cmp .lss .i64) (.bJ4 tI tI (.p1 tI aP (.Z 1)) (.Z 2)) <|
 .ite (.Z 3) (
  .call 0 (.Z 0) <|
  .ite (.Z 4) (
   .bJ3 (.bJ7 93 bN) (.bJ4 aD tI (.Z 0) (.p1 tI aP (.Z 1))) <|
   .bJ3 (.bJ6 3 tI) (aR bN 3 (.Z 5)) <|
   .bJ3 (.rep 3 tI 8) (.Z 6) <|
   .bJ3 (.lit 124 aB 1) (.Z 7) <|
   .bJ3 (.bJ9 124 aB 24) (.bJ4 aP aP (aR aM 1 (.Z 1)) (.Z 8)) <|
   .bJ3 (.ar .add .i64) (.bJ4 tI tI (.p1 tI aP (.Z 1)) (.ci .i64 1)) <|
   .bJ5 0 (.bJ4 tI aP (.Z 10) (.Z 9))) (
   .ret (bJ bF [(aR aM 1 (.Z 1)),(.ci .i64 0),(.cb false)]))) (
  .ret (bJ bF [(aR aM 1 (.Z 1)),(.ci .i64 0),(.cb false)]))
theorem aK9:bV Tryz.prog [cE] kI false 3000 ⟨[(2991,1001,[.dr 5,.dr 0,.tm 4 0,.sl 6])],[(2983,7005,[26],[])]⟩ = .ok sF:=by kernel_rfl
theorem aK5 (x:aW) (hx:okD aD x) (hp:(fun x=>lR x) x):sF.wp [cE] [⟨aD,x⟩] [] (fun v=>v.as bF=(fun x=>aC0 x) x):=by
 have hq:lR x:=hp
 obtain ⟨hp1,hp2⟩:lR x:=hp
 delta sF cE;refine eE ?_
 refine ⟨fun s=>∃ k:Nat,k≤x.length∧(k=0∨bT x=true)∧s=((k:Int),(iW x).take k),fun s=>x.length - (s.1:Int).toNat,⟨0,by omega,.inl rfl,by simp⟩,fun s _ hI=>?_⟩
 obtain ⟨k,hk,hz,rfl⟩:=hI
 dsimp only
 have hl:List.length ((iW x).take k)=k:=by rw[List.length_take,tW];omega
 simp only[zO,hl]
 intro _
 have fin:k=x.length∨bT x=false→((iW x).take k,(0:Int),false)=aC0 x:=fun h=>by
  unfold aC0
  cases hb:bT x
  ·have:k=0:=hz.elim id fun h=>by rw[hb] at h;cases h
   subst this
   rfl
  ·have:k=x.length:=h.elim id fun h=>by rw[hb] at h;cases h
   rw[if_pos rfl,aBY (by rw[tW];omega)]
 constructor
 ·intro hlt
  have hk':k<x.length:=by omega
  rw[bD hk']
  have hm:=hp2 _ (List.getElem_mem hk')
  have e:=aJ9 x hk'
  (repeat' first|intro _|(with_reducible apply And.intro))
  all_goals first|omega|(unfold maxLen;omega)|exact hm|exact hp2 _ ‹_›|(exact ⟨k+1,by omega,.inr (by assumption),by rw[← e];rfl⟩)|exact fin (.inr (by assumption))
 ·intro hge
  exact fin (.inl (by omega))
theorem aJT:Con.Holds Tryz.prog kI:=aV aX (aG jH aT) aK9 aK5
end Go.Proofs.YtpleleanibgniaaGreat
