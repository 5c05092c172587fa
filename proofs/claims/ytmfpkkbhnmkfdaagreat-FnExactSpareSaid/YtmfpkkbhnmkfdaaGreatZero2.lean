/- Zero2: lemmas. No conditions. -/
import Derived.Test.YtmfpkkbhnmkfdaaGreatOps2
namespace Go.Proofs.YtmfpkkbhnmkfdaaGreat
set_option maxRecDepth 100000
open Go.ChangeShapes Go.WideShapes Go.ChangeAt Go.RowKit Go.Deep
set_option linter.unusedVariables false
set_option linter.unusedSimpArgs false
def kG (m:List eV):List (List Int):=m.map fun o=>List.replicate o.2.2.2.length 0
def xM (m:List eV):fO:=if cS m=true then (kG m,0,false) else ([],0,false)
def aM1 (m:List eV) (g:List (List Int)) (i:Nat):Bool:=decide ((g.getD i []).length=(m.getD i zOp).2.2.2.length)
def aO1 (m:List eV) (g:List (List Int)):Bool:=decide (g.length=m.length)&&(List.range m.length).all (aM1 m g)
theorem aBG (m:List eV) (g:List (List Int)):aO1 m g=true↔g.length=m.length∧∀ i,i<m.length→aM1 m g i=true:=by
 unfold aO1;simp only[Bool.and_eq_true,decide_eq_true_eq,List.all_eq_true,List.mem_range]
theorem aQG (m:List eV) (g:List (List Int)) {i:Nat} (h:i<m.length) (h':i<g.length):aM1 m g i=true↔g[i].length=m[i].2.2.2.length:=by
 unfold aM1
 rw[aZ h,aZ h',decide_eq_true_eq]
theorem aVO {m:List eV} {g:List (List Int)} {i:Nat} (h:i<m.length) (hb:¬ aM1 m g i=true):aO1 m g=false:=by
 refine Bool.eq_false_iff.2 ?_
 rw[ne_eq,aBG]
 exact fun hh=>hb (hh.2 i h)
def gC (m:List eV):Prop:=List.length m≤1000000000∧∀ o∈m,List.length o.2.2.2≤1000000000
theorem aDI (m:List eV) {k:Nat} (h:k<m.length):(kG m).take k++[List.replicate m[k].2.2.2.length 0]=(kG m).take (k+1):=by
 have h':k<(kG m).length:=by unfold kG;rw[List.length_map];exact h
 have e:(kG m)[k]'h'=List.replicate m[k].2.2.2.length 0:=List.getElem_map ..
 rw[List.take_succ_eq_append_getElem h',e]
theorem oD (m:List eV):(kG m).length=m.length:=List.length_map _
noncomputable def oQ:Con:=⟨255,(.bP9 aE aJ),.bool,[.val ⟨true,aE,[]⟩,.val ⟨false,aJ,[]⟩],[⟨false,.bool,[0]⟩],false,none,
 ((fun _=>True):(bO × cZ)→Prop),
 ((fun x=>aO1 x.1 x.2):(bO × cZ)→(Bool))⟩
def zB:T :=
 .bPA (.bPD 188 aB) (aQ (.bP9 aE aJ) 1 (.Z 0)) <|
 .bPA (.bPD 219 bD) (.p1 aE aJ (.Z 0)) <|
 .bPA (.cmp .neq .i64) (.bPB tI tI (.Z 1) (.Z 2)) <|
 .ite (.Z 3) (
  .ret (.cb false)) (
  .bPA (.bPD 219 bD) (.p1 aE aJ (.Z 0)) <|
  .loop tI (.ci .i64 0) <|
   .bPA (.cmp .lss .i64) (.bPB tI tI (.Z 5) (.Z 4)) <|
   .ite (.Z 6) (
    .bPA (.bPE 219 bD) (.bPB aE tI (.p1 aE aJ (.Z 0)) (.Z 5)) <|
    .bPA (.bPE 188 aB) (.bPB aJ tI (aQ (.bP9 aE aJ) 1 (.Z 0)) (.Z 5)) <|
    .bPA (.bPD 3 tI) (.Z 8) <|
    .bPA (.bPD 3 tI) (aQ bD 3 (.Z 7)) <|
    .bPA (.cmp .neq .i64) (.bPB tI tI (.Z 9) (.Z 10)) <|
    .ite (.Z 11) (
     .ret (.cb false)) (
     .bPA (.ar .add .i64) (.bPB tI tI (.Z 5) (.ci .i64 1)) <|
     .bPC 0 (.Z 12))) (
    .ret (.cb true)))
theorem aQO:bN Tryz.prog [] oQ false 3000 ⟨[(2988,2005,iL 13 7++[.dr 2,.dr 0,.tm 16 0])],[]⟩ = .ok zB:=by kernel_rfl
theorem aQX (x:bO × cZ) (hx:okD (.bP9 aE aJ) x) (hp:(fun _=>True) x):zB.wp [] [⟨(.bP9 aE aJ),x⟩] [] (fun v=>v.as .bool=(fun x=>aO1 x.1 x.2) x):=by
 obtain ⟨m,g⟩:=x
 have hm1:m.length≤9223372036854775807:=hx.1.1
 delta zB;refine dD ?_;try with_reducible exact True.intro
 (repeat' first|intro _|(with_reducible apply And.intro))
 all_goals simp only[mP] at *
 ·exact (Bool.eq_false_iff.2 fun h=>by rw[aBG] at h;omega).symm
 refine ⟨fun s=>∃ k:Nat,k≤m.length∧s=(k:Int)∧∀ i,i<k→aM1 m g i=true,fun s=>m.length - (s:Int).toNat,⟨0,by omega,rfl,by omega⟩,fun s _ hI=>?_⟩
 obtain ⟨k,hk,rfl,ha⟩:=hI
 refine dM ?_
 constructor
 ·intro hlt
  have hk':k<m.length:=by omega
  have hk2:k<g.length:=by omega
  rw[aZ hk',aZ hk2]
  have e:=aQG m g hk' hk2
  refine ⟨by omega,fun _=>⟨by omega,fun _ _ _=>⟨fun h=>(aVO hk' fun h2=>?_).symm,fun h=>⟨by omega,fun _=>⟨⟨k+1,by omega,rfl,fun i hi=>?_⟩,by omega⟩⟩⟩⟩⟩
  ·have:=e.1 h2;omega
  ·rcases Nat.lt_or_eq_of_le (Nat.le_of_lt_succ hi) with h'|rfl
   ·exact ha i h'
   ·exact e.2 (by omega)
 ·intro hge
  have:k=m.length:=by omega
  subst this
  exact ((aBG m g).2 ⟨by omega,ha⟩).symm
theorem aSX:Con.Holds Tryz.prog oQ:=aS aV aT aQO aQX
noncomputable def mU:Con:=⟨237,aE,aW,[.val ⟨true,aE,[]⟩],[⟨true,aW,[2,0,0]⟩],false,none,
 ((fun x=>gC x):(bO)→Prop),
 ((fun x=>xM x):(bO)→(fO))⟩
def vT:T:=.call 0 (.Z 0) <|
 .bPA .not (.Z 1) <|
 .ite (.Z 2) (
  .ret (bG aW [(.nl 188 aB),(.ci .i64 0),(.cb false)])) (
  .bPA (.bPD 219 bD) (.Z 0) <|
  .loop aD (.bPB tI aJ (.ci .i64 0) (.nl 188 aB)) <|
   .bPA (.cmp .lss .i64) (.bPB tI tI (.p1 tI aJ (.Z 4)) (.Z 3)) <|
   .ite (.Z 5) (
    .bPA (.bPE 219 bD) (.bPB aE tI (.Z 0) (.p1 tI aJ (.Z 4))) <|
    .bPA (.bPD 3 tI) (aQ bD 3 (.Z 6)) <|
    .bPA (.rep 3 tI 8) (.Z 7) <|
    .bPA (.lit 188 aB 1) (.Z 8) <|
    .bPA (.bPG 188 aB 24) (.bPB aJ aJ (aQ aD 1 (.Z 4)) (.Z 9)) <|
    .bPA (.ar .add .i64) (.bPB tI tI (.p1 tI aJ (.Z 4)) (.ci .i64 1)) <|
    .bPC 0 (.bPB tI aJ (.Z 11) (.Z 10))) (
    .ret (bG aW [(aQ aD 1 (.Z 4)),(.ci .i64 0),(.cb false)])))
theorem aO2:bN Tryz.prog [bT] mU false 3000 ⟨[(2986,2004,[.dr 11,.dr 10]++iL 8 6++[.dr 1,.dr 0,.tm 14 0,.sl 6])],[(2976,6007,[23],[])]⟩ = .ok vT:=by kernel_rfl
theorem aOI (x:bO) (hx:okD aE x) (hp:(fun x=>gC x) x):vT.wp [bT] [⟨aE,x⟩] [] (fun v=>v.as aW=(fun x=>xM x) x):=by
 have hq:gC x:=hp
 obtain ⟨hp1,hp2⟩:gC x:=hp
 delta vT bT;refine dD ?_
 refine ⟨fun hb=>?_,fun hb _=>?_⟩
 all_goals simp only[mP] at hb
 ·unfold xM;rw[hb];rfl
 refine ⟨fun s=>∃ k:Nat,k≤x.length∧s=((k:Int),(kG x).take k),fun s=>x.length - (s.1:Int).toNat,⟨0,by omega,by simp⟩,fun s _ hI=>?_⟩
 obtain ⟨k,hk,rfl⟩:=hI
 dsimp only
 have hl:List.length ((kG x).take k)=k:=by rw[List.length_take,oD];omega
 simp only[mP,hl]
 constructor
 ·intro hlt
  have hk':k<x.length:=by omega
  rw[aZ hk']
  have hm:=hp2 _ (List.getElem_mem hk')
  have e:=aDI x hk'
  (repeat' first|intro _|(with_reducible apply And.intro))
  all_goals first|omega|(unfold maxLen;omega)|(exact ⟨k+1,by omega,by rw[← e];rfl⟩)
 ·intro hge
  have:k=x.length:=by omega
  subst this
  unfold xM
  rw[if_pos hb,rS (by rw[oD];omega)]
theorem aNP:Con.Holds Tryz.prog mU:=aS aV (aH iI aT) aO2 aOI
noncomputable def nD:Con:=⟨226,aE,aW,[.val ⟨true,aE,[]⟩],[⟨true,aW,[2,0,0]⟩],false,none,
 ((fun x=>gC x):(bO)→Prop),
 ((fun x=>xM x):(bO)→(fO))⟩
def wA:T:=.loop aD (.bPB tI aJ (.ci .i64 0) (.nl 188 aB)) <|
 .bPA (.bPD 219 bD) (.Z 0) <|
 .bPA (.cmp .lss .i64) (.bPB tI tI (.p1 tI aJ (.Z 1)) (.Z 2)) <|
 .ite (.Z 3) (
  .call 0 (.Z 0) <|
  .ite (.Z 4) (
   .bPA (.bPE 219 bD) (.bPB aE tI (.Z 0) (.p1 tI aJ (.Z 1))) <|
   .bPA (.bPD 3 tI) (aQ bD 3 (.Z 5)) <|
   .bPA (.rep 3 tI 8) (.Z 6) <|
   .bPA (.lit 188 aB 1) (.Z 7) <|
   .bPA (.bPG 188 aB 24) (.bPB aJ aJ (aQ aD 1 (.Z 1)) (.Z 8)) <|
   .bPA (.ar .add .i64) (.bPB tI tI (.p1 tI aJ (.Z 1)) (.ci .i64 1)) <|
   .bPC 0 (.bPB tI aJ (.Z 10) (.Z 9))) (
   .ret (bG aW [(aQ aD 1 (.Z 1)),(.ci .i64 0),(.cb false)]))) (
  .ret (bG aW [(aQ aD 1 (.Z 1)),(.ci .i64 0),(.cb false)]))
theorem aNR:bN Tryz.prog [cD] nD false 3000 ⟨[(2991,1001,[.dr 5,.dr 0,.tm 4 0,.sl 6])],[(2983,7005,[26],[])]⟩ = .ok wA:=by kernel_rfl
theorem aNM (x:bO) (hx:okD aE x) (hp:(fun x=>gC x) x):wA.wp [cD] [⟨aE,x⟩] [] (fun v=>v.as aW=(fun x=>xM x) x):=by
 have hq:gC x:=hp
 obtain ⟨hp1,hp2⟩:gC x:=hp
 delta wA cD;refine dD ?_
 refine ⟨fun s=>∃ k:Nat,k≤x.length∧(k=0∨cS x=true)∧s=((k:Int),(kG x).take k),fun s=>x.length - (s.1:Int).toNat,⟨0,by omega,.inl rfl,by simp⟩,fun s _ hI=>?_⟩
 obtain ⟨k,hk,hz,rfl⟩:=hI
 dsimp only
 have hl:List.length ((kG x).take k)=k:=by rw[List.length_take,oD];omega
 simp only[mP,hl]
 intro _
 have fin:k=x.length∨cS x=false→((kG x).take k,(0:Int),false)=xM x:=fun h=>by
  unfold xM
  cases hb:cS x
  ·have:k=0:=hz.elim id fun h=>by rw[hb] at h;cases h
   subst this
   rfl
  ·have:k=x.length:=h.elim id fun h=>by rw[hb] at h;cases h
   rw[if_pos rfl,rS (by rw[oD];omega)]
 constructor
 ·intro hlt
  have hk':k<x.length:=by omega
  rw[aZ hk']
  have hm:=hp2 _ (List.getElem_mem hk')
  have e:=aDI x hk'
  (repeat' first|intro _|(with_reducible apply And.intro))
  all_goals first|omega|(unfold maxLen;omega)|exact hm|exact hp2 _ ‹_›|(exact ⟨k+1,by omega,.inr (by assumption),by rw[← e];rfl⟩)|exact fin (.inr (by assumption))
 ·intro hge
  exact fin (.inl (by omega))
theorem aOQ:Con.Holds Tryz.prog nD:=aS aV (aH kP aT) aNR aNM
end Go.Proofs.YtmfpkkbhnmkfdaaGreat
