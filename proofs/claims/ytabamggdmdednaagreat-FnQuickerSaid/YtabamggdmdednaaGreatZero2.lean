/- Zero2: lemmas. No conditions. -/
import Derived.Test.YtabamggdmdednaaGreatOps2
namespace Go.Proofs.YtabamggdmdednaaGreat
set_option maxRecDepth 100000
open Go.ChangeShapes Go.WideShapes Go.ChangeAt Go.RowKit Go.Deep
set_option linter.unusedVariables false
set_option linter.unusedSimpArgs false
def jP (m:List dI):List (List Int):=m.map fun o=>List.replicate o.2.2.2.length 0
def yD (m:List dI):eZ:=if cR m=true then (jP m,0,false) else ([],0,false)
def aLH (m:List dI) (g:List (List Int)) (i:Nat):Bool:=decide ((g.getD i []).length=(m.getD i zOp).2.2.2.length)
def aPF (m:List dI) (g:List (List Int)):Bool:=decide (g.length=m.length)&&(List.range m.length).all (aLH m g)
theorem aBR (m:List dI) (g:List (List Int)):aPF m g=true↔g.length=m.length∧∀ i,i<m.length→aLH m g i=true:=by
 unfold aPF;simp only[Bool.and_eq_true,decide_eq_true_eq,List.all_eq_true,List.mem_range]
theorem aQT (m:List dI) (g:List (List Int)) {i:Nat} (h:i<m.length) (h':i<g.length):aLH m g i=true↔g[i].length=m[i].2.2.2.length:=by
 unfold aLH
 rw[aZ h,aZ h',decide_eq_true_eq]
theorem aWL {m:List dI} {g:List (List Int)} {i:Nat} (h:i<m.length) (hb:¬ aLH m g i=true):aPF m g=false:=by
 refine Bool.eq_false_iff.2 ?_
 rw[ne_eq,aBR]
 exact fun hh=>hb (hh.2 i h)
def fQ (m:List dI):Prop:=List.length m≤1000000000∧∀ o∈m,List.length o.2.2.2≤1000000000
theorem aE9 (m:List dI) {k:Nat} (h:k<m.length):(jP m).take k++[List.replicate m[k].2.2.2.length 0]=(jP m).take (k+1):=by
 have h':k<(jP m).length:=by unfold jP;rw[List.length_map];exact h
 have e:(jP m)[k]'h'=List.replicate m[k].2.2.2.length 0:=List.getElem_map ..
 rw[List.take_succ_eq_append_getElem h',e]
theorem oE (m:List dI):(jP m).length=m.length:=List.length_map _
noncomputable def oS:Con:=⟨132,(.bRW aE aL),.bool,[.val ⟨true,aE,[]⟩,.val ⟨false,aL,[]⟩],[⟨false,.bool,[0]⟩],false,none,
 ((fun _=>True):(aY × cZ)→Prop),
 ((fun x=>aPF x.1 x.2):(aY × cZ)→(Bool))⟩
def aA9:T :=
 .bRX (.bS0 119 aB) (aP (.bRW aE aL) 1 (.Z 0)) <|
 .bRX (.bS0 88 bF) (.p1 aE aL (.Z 0)) <|
 .bRX (.cmp .neq .i64) (.bRY tI tI (.Z 1) (.Z 2)) <|
 .ite (.Z 3) (
  .ret (.cb false)) (
  .bRX (.bS0 88 bF) (.p1 aE aL (.Z 0)) <|
  .loop tI (.ci .i64 0) <|
   .bRX (.cmp .lss .i64) (.bRY tI tI (.Z 5) (.Z 4)) <|
   .ite (.Z 6) (
    .bRX (.bS1 88 bF) (.bRY aE tI (.p1 aE aL (.Z 0)) (.Z 5)) <|
    .bRX (.bS1 119 aB) (.bRY aL tI (aP (.bRW aE aL) 1 (.Z 0)) (.Z 5)) <|
    .bRX (.bS0 3 tI) (.Z 8) <|
    .bRX (.bS0 3 tI) (aP bF 3 (.Z 7)) <|
    .bRX (.cmp .neq .i64) (.bRY tI tI (.Z 9) (.Z 10)) <|
    .ite (.Z 11) (
     .ret (.cb false)) (
     .bRX (.ar .add .i64) (.bRY tI tI (.Z 5) (.ci .i64 1)) <|
     .bRZ 0 (.Z 12))) (
    .ret (.cb true)))
theorem aSR:bI Tryz.prog [] oS false 3000 ⟨[(2988,2005,gQ 13 7++[.dr 2,.dr 0,.tm 16 0])],[]⟩ = .ok aA9:=by kernel_rfl
theorem aSL (x:aY × cZ) (hx:okD (.bRW aE aL) x) (hp:(fun _=>True) x):aA9.wp [] [⟨(.bRW aE aL),x⟩] [] (fun v=>v.as .bool=(fun x=>aPF x.1 x.2) x):=by
 obtain ⟨m,g⟩:=x
 have hm1:m.length≤9223372036854775807:=hx.1.1
 delta aA9;refine cW ?_;try with_reducible exact True.intro
 (repeat' first|intro _|(with_reducible apply And.intro))
 all_goals simp only[mG] at *
 ·exact (Bool.eq_false_iff.2 fun h=>by rw[aBR] at h;omega).symm
 refine ⟨fun s=>∃ k:Nat,k≤m.length∧s=(k:Int)∧∀ i,i<k→aLH m g i=true,fun s=>m.length - (s:Int).toNat,⟨0,by omega,rfl,by omega⟩,fun s _ hI=>?_⟩
 obtain ⟨k,hk,rfl,ha⟩:=hI
 refine dB ?_
 constructor
 ·intro hlt
  have hk':k<m.length:=by omega
  have hk2:k<g.length:=by omega
  rw[aZ hk',aZ hk2]
  have e:=aQT m g hk' hk2
  refine ⟨by omega,fun _=>⟨by omega,fun _ _ _=>⟨fun h=>(aWL hk' fun h2=>?_).symm,fun h=>⟨by omega,fun _=>⟨⟨k+1,by omega,rfl,fun i hi=>?_⟩,by omega⟩⟩⟩⟩⟩
  ·have:=e.1 h2;omega
  ·rcases Nat.lt_or_eq_of_le (Nat.le_of_lt_succ hi) with h'|rfl
   ·exact ha i h'
   ·exact e.2 (by omega)
 ·intro hge
  have:k=m.length:=by omega
  subst this
  exact ((aBR m g).2 ⟨by omega,ha⟩).symm
theorem aTJ:Con.Holds Tryz.prog oS:=aS aV aQ aSR aSL
noncomputable def mP:Con:=⟨59,aE,aX,[.val ⟨true,aE,[]⟩],[⟨true,aX,[2,0,0]⟩],false,none,
 ((fun x=>fQ x):(aY)→Prop),
 ((fun x=>yD x):(aY)→(eZ))⟩
def wZ:T:=.call 0 (.Z 0) <|
 .bRX .not (.Z 1) <|
 .ite (.Z 2) (
  .ret (bB aX [(.nl 119 aB),(.ci .i64 0),(.cb false)])) (
  .bRX (.bS0 88 bF) (.Z 0) <|
  .loop aF (.bRY tI aL (.ci .i64 0) (.nl 119 aB)) <|
   .bRX (.cmp .lss .i64) (.bRY tI tI (.p1 tI aL (.Z 4)) (.Z 3)) <|
   .ite (.Z 5) (
    .bRX (.bS1 88 bF) (.bRY aE tI (.Z 0) (.p1 tI aL (.Z 4))) <|
    .bRX (.bS0 3 tI) (aP bF 3 (.Z 6)) <|
    .bRX (.rep 3 tI 8) (.Z 7) <|
    .bRX (.lit 119 aB 1) (.Z 8) <|
    .bRX (.bS3 119 aB 24) (.bRY aL aL (aP aF 1 (.Z 4)) (.Z 9)) <|
    .bRX (.ar .add .i64) (.bRY tI tI (.p1 tI aL (.Z 4)) (.ci .i64 1)) <|
    .bRZ 0 (.bRY tI aL (.Z 11) (.Z 10))) (
    .ret (bB aX [(aP aF 1 (.Z 4)),(.ci .i64 0),(.cb false)])))
theorem aPD:bI Tryz.prog [bS] mP false 3000 ⟨[(2986,2004,[.dr 11,.dr 10]++gQ 8 6++[.dr 1,.dr 0,.tm 14 0,.sl 6])],[(2976,6007,[23],[])]⟩ = .ok wZ:=by kernel_rfl
theorem aPQ (x:aY) (hx:okD aE x) (hp:(fun x=>fQ x) x):wZ.wp [bS] [⟨aE,x⟩] [] (fun v=>v.as aX=(fun x=>yD x) x):=by
 have hq:fQ x:=hp
 obtain ⟨hp1,hp2⟩:fQ x:=hp
 delta wZ bS;refine cW ?_
 refine ⟨fun hb=>?_,fun hb _=>?_⟩
 all_goals simp only[mG] at hb
 ·unfold yD;rw[hb];rfl
 refine ⟨fun s=>∃ k:Nat,k≤x.length∧s=((k:Int),(jP x).take k),fun s=>x.length - (s.1:Int).toNat,⟨0,by omega,by simp⟩,fun s _ hI=>?_⟩
 obtain ⟨k,hk,rfl⟩:=hI
 dsimp only
 have hl:List.length ((jP x).take k)=k:=by rw[List.length_take,oE];omega
 simp only[mG,hl]
 constructor
 ·intro hlt
  have hk':k<x.length:=by omega
  rw[aZ hk']
  have hm:=hp2 _ (List.getElem_mem hk')
  have e:=aE9 x hk'
  (repeat' first|intro _|(with_reducible apply And.intro))
  all_goals first|omega|(unfold maxLen;omega)|(exact ⟨k+1,by omega,by rw[← e];rfl⟩)
 ·intro hge
  have:k=x.length:=by omega
  subst this
  unfold yD
  rw[if_pos hb,rV (by rw[oE];omega)]
theorem aPH:Con.Holds Tryz.prog mP:=aS aV (aI iB aQ) aPD aPQ
noncomputable def mZ:Con:=⟨115,aE,aX,[.val ⟨true,aE,[]⟩],[⟨true,aX,[2,0,0]⟩],false,none,
 ((fun x=>fQ x):(aY)→Prop),
 ((fun x=>yD x):(aY)→(eZ))⟩
def wR:T:=.loop aF (.bRY tI aL (.ci .i64 0) (.nl 119 aB)) <|
 .bRX (.bS0 88 bF) (.Z 0) <|
 .bRX (.cmp .lss .i64) (.bRY tI tI (.p1 tI aL (.Z 1)) (.Z 2)) <|
 .ite (.Z 3) (
  .call 0 (.Z 0) <|
  .ite (.Z 4) (
   .bRX (.bS1 88 bF) (.bRY aE tI (.Z 0) (.p1 tI aL (.Z 1))) <|
   .bRX (.bS0 3 tI) (aP bF 3 (.Z 5)) <|
   .bRX (.rep 3 tI 8) (.Z 6) <|
   .bRX (.lit 119 aB 1) (.Z 7) <|
   .bRX (.bS3 119 aB 24) (.bRY aL aL (aP aF 1 (.Z 1)) (.Z 8)) <|
   .bRX (.ar .add .i64) (.bRY tI tI (.p1 tI aL (.Z 1)) (.ci .i64 1)) <|
   .bRZ 0 (.bRY tI aL (.Z 10) (.Z 9))) (
   .ret (bB aX [(aP aF 1 (.Z 1)),(.ci .i64 0),(.cb false)]))) (
  .ret (bB aX [(aP aF 1 (.Z 1)),(.ci .i64 0),(.cb false)]))
theorem aP9:bI Tryz.prog [cD] mZ false 3000 ⟨[(2991,1001,[.dr 5,.dr 0,.tm 4 0,.sl 6])],[(2983,7005,[26],[])]⟩ = .ok wR:=by kernel_rfl
theorem aPW (x:aY) (hx:okD aE x) (hp:(fun x=>fQ x) x):wR.wp [cD] [⟨aE,x⟩] [] (fun v=>v.as aX=(fun x=>yD x) x):=by
 have hq:fQ x:=hp
 obtain ⟨hp1,hp2⟩:fQ x:=hp
 delta wR cD;refine cW ?_
 refine ⟨fun s=>∃ k:Nat,k≤x.length∧(k=0∨cR x=true)∧s=((k:Int),(jP x).take k),fun s=>x.length - (s.1:Int).toNat,⟨0,by omega,.inl rfl,by simp⟩,fun s _ hI=>?_⟩
 obtain ⟨k,hk,hz,rfl⟩:=hI
 dsimp only
 have hl:List.length ((jP x).take k)=k:=by rw[List.length_take,oE];omega
 simp only[mG,hl]
 intro _
 have fin:k=x.length∨cR x=false→((jP x).take k,(0:Int),false)=yD x:=fun h=>by
  unfold yD
  cases hb:cR x
  ·have:k=0:=hz.elim id fun h=>by rw[hb] at h;cases h
   subst this
   rfl
  ·have:k=x.length:=h.elim id fun h=>by rw[hb] at h;cases h
   rw[if_pos rfl,rV (by rw[oE];omega)]
 constructor
 ·intro hlt
  have hk':k<x.length:=by omega
  rw[aZ hk']
  have hm:=hp2 _ (List.getElem_mem hk')
  have e:=aE9 x hk'
  (repeat' first|intro _|(with_reducible apply And.intro))
  all_goals first|omega|(unfold maxLen;omega)|exact hm|exact hp2 _ ‹_›|(exact ⟨k+1,by omega,.inr (by assumption),by rw[← e];rfl⟩)|exact fin (.inr (by assumption))
 ·intro hge
  exact fin (.inl (by omega))
theorem aQH:Con.Holds Tryz.prog mZ:=aS aV (aI kF aQ) aP9 aPW
end Go.Proofs.YtabamggdmdednaaGreat
