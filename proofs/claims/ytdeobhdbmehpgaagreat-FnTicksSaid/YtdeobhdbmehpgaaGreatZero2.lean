/- Zero2: lemmas. No conditions. -/
import Derived.Test.YtdeobhdbmehpgaaGreatOps2
namespace Go.Proofs.YtdeobhdbmehpgaaGreat
set_option maxRecDepth 100000
open Go.ChangeShapes Go.WideShapes Go.ChangeAt Go.RowKit Go.Deep
set_option linter.unusedVariables false
set_option linter.unusedSimpArgs false
def kP (m:List dJ):List (List Int):=m.map fun o=>List.replicate o.2.2.2.length 0
def aF8 (m:List dJ):dP:=if bW m=true then (kP m,0,false) else ([],0,false)
def aK2 (m:List dJ) (g:List (List Int)) (i:Nat):Bool:=decide ((g.getD i []).length=(m.getD i zOp).2.2.2.length)
def aMT (m:List dJ) (g:List (List Int)):Bool:=decide (g.length=m.length)&&(List.range m.length).all (aK2 m g)
theorem aB6 (m:List dJ) (g:List (List Int)):aMT m g=true↔g.length=m.length∧∀ i,i<m.length→aK2 m g i=true:=by
 unfold aMT;simp only[Bool.and_eq_true,decide_eq_true_eq,List.all_eq_true,List.mem_range]
theorem aOY (m:List dJ) (g:List (List Int)) {i:Nat} (h:i<m.length) (h':i<g.length):aK2 m g i=true↔g[i].length=m[i].2.2.2.length:=by
 unfold aK2
 rw[aZ h,aZ h',decide_eq_true_eq]
theorem aUS {m:List dJ} {g:List (List Int)} {i:Nat} (h:i<m.length) (hb:¬ aK2 m g i=true):aMT m g=false:=by
 refine Bool.eq_false_iff.2 ?_
 rw[ne_eq,aB6]
 exact fun hh=>hb (hh.2 i h)
def mU (m:List dJ):Prop:=List.length m≤1000000000∧∀ o∈m,List.length o.2.2.2≤1000000000
theorem aNI (m:List dJ) {k:Nat} (h:k<m.length):(kP m).take k++[List.replicate m[k].2.2.2.length 0]=(kP m).take (k+1):=by
 have h':k<(kP m).length:=by unfold kP;rw[List.length_map];exact h
 have e:(kP m)[k]'h'=List.replicate m[k].2.2.2.length 0:=List.getElem_map ..
 rw[List.take_succ_eq_append_getElem h',e]
theorem xB (m:List dJ):(kP m).length=m.length:=List.length_map _
noncomputable def nM:Con:=⟨62,(.bNT aK aI),.bool,[.val ⟨true,aK,[]⟩,.val ⟨false,aI,[]⟩],[⟨false,.bool,[0]⟩],false,none,
 ((fun _=>True):(bD × cV)→Prop),
 ((fun x=>aMT x.1 x.2):(bD × cV)→(Bool))⟩
def yA:T :=
 .bNU (.bNX 112 aB) (aO (.bNT aK aI) 1 (.Z 0)) <|
 .bNU (.bNX 78 bG) (.p1 aK aI (.Z 0)) <|
 .bNU (.cmp .neq .i64) (.bNV tI tI (.Z 1) (.Z 2)) <|
 .ite (.Z 3) (
  .ret (.cb false)) (
  .bNU (.bNX 78 bG) (.p1 aK aI (.Z 0)) <|
  .loop tI (.ci .i64 0) <|
   .bNU (.cmp .lss .i64) (.bNV tI tI (.Z 5) (.Z 4)) <|
   .ite (.Z 6) (
    .bNU (.bNY 78 bG) (.bNV aK tI (.p1 aK aI (.Z 0)) (.Z 5)) <|
    .bNU (.bNY 112 aB) (.bNV aI tI (aO (.bNT aK aI) 1 (.Z 0)) (.Z 5)) <|
    .bNU (.bNX 3 tI) (.Z 8) <|
    .bNU (.bNX 3 tI) (aO bG 3 (.Z 7)) <|
    .bNU (.cmp .neq .i64) (.bNV tI tI (.Z 9) (.Z 10)) <|
    .ite (.Z 11) (
     .ret (.cb false)) (
     .bNU (.ar .add .i64) (.bNV tI tI (.Z 5) (.ci .i64 1)) <|
     .bNW 0 (.Z 12))) (
    .ret (.cb true)))
theorem aRX:bM Tryz.prog [] nM false 3000 ⟨[(2988,2005,iT 13 7++[.dr 2,.dr 0,.tm 16 0])],[]⟩ = .ok yA:=by kernel_rfl
theorem aPS (x:bD × cV) (hx:okD (.bNT aK aI) x) (hp:(fun _=>True) x):yA.wp [] [⟨(.bNT aK aI),x⟩] [] (fun v=>v.as .bool=(fun x=>aMT x.1 x.2) x):=by
 obtain ⟨m,g⟩:=x
 have hm1:m.length≤9223372036854775807:=hx.1.1
 delta yA;refine dB ?_;try with_reducible exact True.intro
 (repeat' first|intro _|(with_reducible apply And.intro))
 all_goals simp only[nS] at *
 ·exact (Bool.eq_false_iff.2 fun h=>by rw[aB6] at h;omega).symm
 refine ⟨fun s=>∃ k:Nat,k≤m.length∧s=(k:Int)∧∀ i,i<k→aK2 m g i=true,fun s=>m.length - (s:Int).toNat,⟨0,by omega,rfl,by omega⟩,fun s _ hI=>?_⟩
 obtain ⟨k,hk,rfl,ha⟩:=hI
 refine dT ?_
 constructor
 ·intro hlt
  have hk':k<m.length:=by omega
  have hk2:k<g.length:=by omega
  rw[aZ hk',aZ hk2]
  have e:=aOY m g hk' hk2
  refine ⟨by omega,fun _=>⟨by omega,fun _ _ _=>⟨fun h=>(aUS hk' fun h2=>?_).symm,fun h=>⟨by omega,fun _=>⟨⟨k+1,by omega,rfl,fun i hi=>?_⟩,by omega⟩⟩⟩⟩⟩
  ·have:=e.1 h2;omega
  ·rcases Nat.lt_or_eq_of_le (Nat.le_of_lt_succ hi) with h'|rfl
   ·exact ha i h'
   ·exact e.2 (by omega)
 ·intro hge
  have:k=m.length:=by omega
  subst this
  exact ((aB6 m g).2 ⟨by omega,ha⟩).symm
theorem aPN:Con.Holds Tryz.prog nM:=aS aW aR aRX aPS
noncomputable def lU:Con:=⟨125,aK,aT,[.val ⟨true,aK,[]⟩],[⟨true,aT,[2,0,0]⟩],false,none,
 ((fun x=>mU x):(bD)→Prop),
 ((fun x=>aF8 x):(bD)→(dP))⟩
def uM:T:=.loop aD (.bNV tI aI (.ci .i64 0) (.nl 112 aB)) <|
 .bNU (.bNX 78 bG) (.Z 0) <|
 .bNU (.cmp .lss .i64) (.bNV tI tI (.p1 tI aI (.Z 1)) (.Z 2)) <|
 .ite (.Z 3) (
  .call 0 (.Z 0) <|
  .ite (.Z 4) (
   .bNU (.bNY 78 bG) (.bNV aK tI (.Z 0) (.p1 tI aI (.Z 1))) <|
   .bNU (.bNX 3 tI) (aO bG 3 (.Z 5)) <|
   .bNU (.rep 3 tI 8) (.Z 6) <|
   .bNU (.lit 112 aB 1) (.Z 7) <|
   .bNU (.bO0 112 aB 24) (.bNV aI aI (aO aD 1 (.Z 1)) (.Z 8)) <|
   .bNU (.ar .add .i64) (.bNV tI tI (.p1 tI aI (.Z 1)) (.ci .i64 1)) <|
   .bNW 0 (.bNV tI aI (.Z 10) (.Z 9))) (
   .ret (bB aT [(aO aD 1 (.Z 1)),(.ci .i64 0),(.cb false)]))) (
  .ret (bB aT [(aO aD 1 (.Z 1)),(.ci .i64 0),(.cb false)]))
theorem aMZ:bM Tryz.prog [bY] lU false 3000 ⟨[(2991,1001,[.dr 5,.dr 0,.tm 4 0,.sl 6])],[(2983,7005,[26],[])]⟩ = .ok uM:=by kernel_rfl
theorem aNF (x:bD) (hx:okD aK x) (hp:(fun x=>mU x) x):uM.wp [bY] [⟨aK,x⟩] [] (fun v=>v.as aT=(fun x=>aF8 x) x):=by
 have hq:mU x:=hp
 obtain ⟨hp1,hp2⟩:mU x:=hp
 delta uM bY;refine dB ?_
 refine ⟨fun s=>∃ k:Nat,k≤x.length∧(k=0∨bW x=true)∧s=((k:Int),(kP x).take k),fun s=>x.length - (s.1:Int).toNat,⟨0,by omega,.inl rfl,by simp⟩,fun s _ hI=>?_⟩
 obtain ⟨k,hk,hz,rfl⟩:=hI
 dsimp only
 have hl:List.length ((kP x).take k)=k:=by rw[List.length_take,xB];omega
 simp only[nS,hl]
 intro _
 have fin:k=x.length∨bW x=false→((kP x).take k,(0:Int),false)=aF8 x:=fun h=>by
  unfold aF8
  cases hb:bW x
  ·have:k=0:=hz.elim id fun h=>by rw[hb] at h;cases h
   subst this
   rfl
  ·have:k=x.length:=h.elim id fun h=>by rw[hb] at h;cases h
   rw[if_pos rfl,tN (by rw[xB];omega)]
 constructor
 ·intro hlt
  have hk':k<x.length:=by omega
  rw[aZ hk']
  have hm:=hp2 _ (List.getElem_mem hk')
  have e:=aNI x hk'
  (repeat' first|intro _|(with_reducible apply And.intro))
  all_goals first|omega|(unfold maxLen;omega)|exact hm|exact hp2 _ ‹_›|(exact ⟨k+1,by omega,.inr (by assumption),by rw[← e];rfl⟩)|exact fin (.inr (by assumption))
 ·intro hge
  exact fin (.inl (by omega))
theorem aMM:Con.Holds Tryz.prog lU:=aS aW (aH jI aR) aMZ aNF
end Go.Proofs.YtdeobhdbmehpgaaGreat
