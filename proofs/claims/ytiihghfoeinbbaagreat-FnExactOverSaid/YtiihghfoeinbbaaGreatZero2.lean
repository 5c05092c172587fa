/- Zero2: lemmas. No conditions. -/
import Derived.Test.YtiihghfoeinbbaaGreatOps2
namespace Go.Proofs.YtiihghfoeinbbaaGreat
set_option maxRecDepth 100000
open Go.ChangeShapes Go.WideShapes Go.ChangeAt Go.RowKit Go.Deep
set_option linter.unusedVariables false
set_option linter.unusedSimpArgs false
def jH (m:List eK):List (List Int):=m.map fun o=>List.replicate o.2.2.2.length 0
def wV (m:List eK):eY:=if cQ m=true then (jH m,0,false) else ([],0,false)
def aKM (m:List eK) (g:List (List Int)) (i:Nat):Bool:=decide ((g.getD i []).length=(m.getD i zOp).2.2.2.length)
def aM1 (m:List eK) (g:List (List Int)):Bool:=decide (g.length=m.length)&&(List.range m.length).all (aKM m g)
theorem aBA (m:List eK) (g:List (List Int)):aM1 m g=true↔g.length=m.length∧∀ i,i<m.length→aKM m g i=true:=by
 unfold aM1;simp only[Bool.and_eq_true,decide_eq_true_eq,List.all_eq_true,List.mem_range]
theorem aN8 (m:List eK) (g:List (List Int)) {i:Nat} (h:i<m.length) (h':i<g.length):aKM m g i=true↔g[i].length=m[i].2.2.2.length:=by
 unfold aKM
 rw[aZ h,aZ h',decide_eq_true_eq]
theorem aUU {m:List eK} {g:List (List Int)} {i:Nat} (h:i<m.length) (hb:¬ aKM m g i=true):aM1 m g=false:=by
 refine Bool.eq_false_iff.2 ?_
 rw[ne_eq,aBA]
 exact fun hh=>hb (hh.2 i h)
def fN (m:List eK):Prop:=List.length m≤1000000000∧∀ o∈m,List.length o.2.2.2≤1000000000
theorem aCL (m:List eK) {k:Nat} (h:k<m.length):(jH m).take k++[List.replicate m[k].2.2.2.length 0]=(jH m).take (k+1):=by
 have h':k<(jH m).length:=by unfold jH;rw[List.length_map];exact h
 have e:(jH m)[k]'h'=List.replicate m[k].2.2.2.length 0:=List.getElem_map ..
 rw[List.take_succ_eq_append_getElem h',e]
theorem nG (m:List eK):(jH m).length=m.length:=List.length_map _
noncomputable def nW:Con:=⟨128,(.bMC aE aH),.bool,[.val ⟨true,aE,[]⟩,.val ⟨false,aH,[]⟩],[⟨false,.bool,[0]⟩],false,none,
 ((fun _=>True):(bM × cV)→Prop),
 ((fun x=>aM1 x.1 x.2):(bM × cV)→(Bool))⟩
def yN:T :=
 .bMD (.bMG 156 aB) (aQ (.bMC aE aH) 1 (.Z 0)) <|
 .bMD (.bMG 146 bA) (.p1 aE aH (.Z 0)) <|
 .bMD (.cmp .neq .i64) (.bME tI tI (.Z 1) (.Z 2)) <|
 .ite (.Z 3) (
  .ret (.cb false)) (
  .bMD (.bMG 146 bA) (.p1 aE aH (.Z 0)) <|
  .loop tI (.ci .i64 0) <|
   .bMD (.cmp .lss .i64) (.bME tI tI (.Z 5) (.Z 4)) <|
   .ite (.Z 6) (
    .bMD (.bMH 146 bA) (.bME aE tI (.p1 aE aH (.Z 0)) (.Z 5)) <|
    .bMD (.bMH 156 aB) (.bME aH tI (aQ (.bMC aE aH) 1 (.Z 0)) (.Z 5)) <|
    .bMD (.bMG 3 tI) (.Z 8) <|
    .bMD (.bMG 3 tI) (aQ bA 3 (.Z 7)) <|
    .bMD (.cmp .neq .i64) (.bME tI tI (.Z 9) (.Z 10)) <|
    .ite (.Z 11) (
     .ret (.cb false)) (
     .bMD (.ar .add .i64) (.bME tI tI (.Z 5) (.ci .i64 1)) <|
     .bMF 0 (.Z 12))) (
    .ret (.cb true)))
theorem aQE:bL Tryz.prog [] nW false 3000 ⟨[(2988,2005,iQ 13 7++[.dr 2,.dr 0,.tm 16 0])],[]⟩ = .ok yN:=by kernel_rfl
theorem aPA (x:bM × cV) (hx:okD (.bMC aE aH) x) (hp:(fun _=>True) x):yN.wp [] [⟨(.bMC aE aH),x⟩] [] (fun v=>v.as .bool=(fun x=>aM1 x.1 x.2) x):=by
 obtain ⟨m,g⟩:=x
 have hm1:m.length≤9223372036854775807:=hx.1.1
 delta yN;refine dD ?_;try with_reducible exact True.intro
 (repeat' first|intro _|(with_reducible apply And.intro))
 all_goals simp only[lU] at *
 ·exact (Bool.eq_false_iff.2 fun h=>by rw[aBA] at h;omega).symm
 refine ⟨fun s=>∃ k:Nat,k≤m.length∧s=(k:Int)∧∀ i,i<k→aKM m g i=true,fun s=>m.length - (s:Int).toNat,⟨0,by omega,rfl,by omega⟩,fun s _ hI=>?_⟩
 obtain ⟨k,hk,rfl,ha⟩:=hI
 refine eE ?_
 constructor
 ·intro hlt
  have hk':k<m.length:=by omega
  have hk2:k<g.length:=by omega
  rw[aZ hk',aZ hk2]
  have e:=aN8 m g hk' hk2
  refine ⟨by omega,fun _=>⟨by omega,fun _ _ _=>⟨fun h=>(aUU hk' fun h2=>?_).symm,fun h=>⟨by omega,fun _=>⟨⟨k+1,by omega,rfl,fun i hi=>?_⟩,by omega⟩⟩⟩⟩⟩
  ·have:=e.1 h2;omega
  ·rcases Nat.lt_or_eq_of_le (Nat.le_of_lt_succ hi) with h'|rfl
   ·exact ha i h'
   ·exact e.2 (by omega)
 ·intro hge
  have:k=m.length:=by omega
  subst this
  exact ((aBA m g).2 ⟨by omega,ha⟩).symm
theorem aQL:Con.Holds Tryz.prog nW:=aR aW aS aQE aPA
noncomputable def mE:Con:=⟨124,aE,aU,[.val ⟨true,aE,[]⟩],[⟨true,aU,[2,0,0]⟩],false,none,
 ((fun x=>fN x):(bM)→Prop),
 ((fun x=>wV x):(bM)→(eY))⟩
def vW:T:=.call 0 (.Z 0) <|
 .bMD .not (.Z 1) <|
 .ite (.Z 2) (
  .ret (bE aU [(.nl 156 aB),(.ci .i64 0),(.cb false)])) (
  .bMD (.bMG 146 bA) (.Z 0) <|
  .loop aD (.bME tI aH (.ci .i64 0) (.nl 156 aB)) <|
   .bMD (.cmp .lss .i64) (.bME tI tI (.p1 tI aH (.Z 4)) (.Z 3)) <|
   .ite (.Z 5) (
    .bMD (.bMH 146 bA) (.bME aE tI (.Z 0) (.p1 tI aH (.Z 4))) <|
    .bMD (.bMG 3 tI) (aQ bA 3 (.Z 6)) <|
    .bMD (.rep 3 tI 8) (.Z 7) <|
    .bMD (.lit 156 aB 1) (.Z 8) <|
    .bMD (.bMJ 156 aB 24) (.bME aH aH (aQ aD 1 (.Z 4)) (.Z 9)) <|
    .bMD (.ar .add .i64) (.bME tI tI (.p1 tI aH (.Z 4)) (.ci .i64 1)) <|
    .bMF 0 (.bME tI aH (.Z 11) (.Z 10))) (
    .ret (bE aU [(aQ aD 1 (.Z 4)),(.ci .i64 0),(.cb false)])))
theorem aMT:bL Tryz.prog [bQ] mE false 3000 ⟨[(2986,2004,[.dr 11,.dr 10]++iQ 8 6++[.dr 1,.dr 0,.tm 14 0,.sl 6])],[(2976,6007,[23],[])]⟩ = .ok vW:=by kernel_rfl
theorem aLZ (x:bM) (hx:okD aE x) (hp:(fun x=>fN x) x):vW.wp [bQ] [⟨aE,x⟩] [] (fun v=>v.as aU=(fun x=>wV x) x):=by
 have hq:fN x:=hp
 obtain ⟨hp1,hp2⟩:fN x:=hp
 delta vW bQ;refine dD ?_
 refine ⟨fun hb=>?_,fun hb _=>?_⟩
 all_goals simp only[lU] at hb
 ·unfold wV;rw[hb];rfl
 refine ⟨fun s=>∃ k:Nat,k≤x.length∧s=((k:Int),(jH x).take k),fun s=>x.length - (s.1:Int).toNat,⟨0,by omega,by simp⟩,fun s _ hI=>?_⟩
 obtain ⟨k,hk,rfl⟩:=hI
 dsimp only
 have hl:List.length ((jH x).take k)=k:=by rw[List.length_take,nG];omega
 simp only[lU,hl]
 constructor
 ·intro hlt
  have hk':k<x.length:=by omega
  rw[aZ hk']
  have hm:=hp2 _ (List.getElem_mem hk')
  have e:=aCL x hk'
  (repeat' first|intro _|(with_reducible apply And.intro))
  all_goals first|omega|(unfold maxLen;omega)|(exact ⟨k+1,by omega,by rw[← e];rfl⟩)
 ·intro hge
  have:k=x.length:=by omega
  subst this
  unfold wV
  rw[if_pos hb,qY (by rw[nG];omega)]
theorem aMS:Con.Holds Tryz.prog mE:=aR aW (aG gW aS) aMT aLZ
noncomputable def mC:Con:=⟨114,aE,aU,[.val ⟨true,aE,[]⟩],[⟨true,aU,[2,0,0]⟩],false,none,
 ((fun x=>fN x):(bM)→Prop),
 ((fun x=>wV x):(bM)→(eY))⟩
def vN:T:=.loop aD (.bME tI aH (.ci .i64 0) (.nl 156 aB)) <|
 .bMD (.bMG 146 bA) (.Z 0) <|
 .bMD (.cmp .lss .i64) (.bME tI tI (.p1 tI aH (.Z 1)) (.Z 2)) <|
 .ite (.Z 3) (
  .call 0 (.Z 0) <|
  .ite (.Z 4) (
   .bMD (.bMH 146 bA) (.bME aE tI (.Z 0) (.p1 tI aH (.Z 1))) <|
   .bMD (.bMG 3 tI) (aQ bA 3 (.Z 5)) <|
   .bMD (.rep 3 tI 8) (.Z 6) <|
   .bMD (.lit 156 aB 1) (.Z 7) <|
   .bMD (.bMJ 156 aB 24) (.bME aH aH (aQ aD 1 (.Z 1)) (.Z 8)) <|
   .bMD (.ar .add .i64) (.bME tI tI (.p1 tI aH (.Z 1)) (.ci .i64 1)) <|
   .bMF 0 (.bME tI aH (.Z 10) (.Z 9))) (
   .ret (bE aU [(aQ aD 1 (.Z 1)),(.ci .i64 0),(.cb false)]))) (
  .ret (bE aU [(aQ aD 1 (.Z 1)),(.ci .i64 0),(.cb false)]))
theorem aM9:bL Tryz.prog [cB] mC false 3000 ⟨[(2991,1001,[.dr 5,.dr 0,.tm 4 0,.sl 6])],[(2983,7005,[26],[])]⟩ = .ok vN:=by kernel_rfl
theorem aMF (x:bM) (hx:okD aE x) (hp:(fun x=>fN x) x):vN.wp [cB] [⟨aE,x⟩] [] (fun v=>v.as aU=(fun x=>wV x) x):=by
 have hq:fN x:=hp
 obtain ⟨hp1,hp2⟩:fN x:=hp
 delta vN cB;refine dD ?_
 refine ⟨fun s=>∃ k:Nat,k≤x.length∧(k=0∨cQ x=true)∧s=((k:Int),(jH x).take k),fun s=>x.length - (s.1:Int).toNat,⟨0,by omega,.inl rfl,by simp⟩,fun s _ hI=>?_⟩
 obtain ⟨k,hk,hz,rfl⟩:=hI
 dsimp only
 have hl:List.length ((jH x).take k)=k:=by rw[List.length_take,nG];omega
 simp only[lU,hl]
 intro _
 have fin:k=x.length∨cQ x=false→((jH x).take k,(0:Int),false)=wV x:=fun h=>by
  unfold wV
  cases hb:cQ x
  ·have:k=0:=hz.elim id fun h=>by rw[hb] at h;cases h
   subst this
   rfl
  ·have:k=x.length:=h.elim id fun h=>by rw[hb] at h;cases h
   rw[if_pos rfl,qY (by rw[nG];omega)]
 constructor
 ·intro hlt
  have hk':k<x.length:=by omega
  rw[aZ hk']
  have hm:=hp2 _ (List.getElem_mem hk')
  have e:=aCL x hk'
  (repeat' first|intro _|(with_reducible apply And.intro))
  all_goals first|omega|(unfold maxLen;omega)|exact hm|exact hp2 _ ‹_›|(exact ⟨k+1,by omega,.inr (by assumption),by rw[← e];rfl⟩)|exact fin (.inr (by assumption))
 ·intro hge
  exact fin (.inl (by omega))
theorem aMQ:Con.Holds Tryz.prog mC:=aR aW (aG jV aS) aM9 aMF
end Go.Proofs.YtiihghfoeinbbaaGreat
